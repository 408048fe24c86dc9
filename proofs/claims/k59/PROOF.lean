import PyProof.Rows.All
import Wide.All
import OpenK.AllK
import Wide.FinOn
import HandS.ForMost
import HandS.ForExc
import HandS.IsInst
import HandS.Wide
import HandS.CallSlots
import HandS.ExcIs
import HandS.Small
import HandS.RaiseMore
import HandS.TupAny
import HandS.SortOrd
import HandS.Flow
import HandS.Deep
import HandS.Defaults
import HandS.Text
import HandS.Iter
import HandS.Replace
import HandS.StrMore
import HandS.More
import HandS.Head0
import HandS.Head1
import HandS.Head2
import HandS.HeadEnd
import HandS.HeadHook1
import HandS.HeadHook2
import HandS.HeadHook3
import HandS.HeadHook4
import KE.IntTextLaws
import HandS.Dict
import HandS.Conv
import HandS.SortInts
import KE.KExcSuper
import HandS.ExcInit
import HandS.ExcField
import PyProof.ExcBaseAll.ValueError
import PySem.Challenge.RW_darkrise_k59_meters_far_out
section
set_option Elab.async false
set_option linter.all false
set_option autoImplicit false
set_option maxRecDepth 100000
set_option maxHeartbeats 4000000
/-! DKCore: values D, stores of objects, results; readings that are told by functions (mirrors). -/
namespace DK
open PySem L2

/-- a value of the mirror: lst, tup stand as they are for good; hdl n is the n-th object of the store -/
inductive D where
  | non
  | bl (b : Bool)
  | int (i : Int)
  | str (s : Str)
  | lst (xs : List D)
  | rol (xs : List D)
  | tup (xs : List D)
  | hdl (n : Nat)

inductive Ob where
  | lst (xs : List D)
  | dct (kvs : List (Key × D))
  | ins (c : Str) (fs : List (Str × D))
  | dead

abbrev Store := List Ob
abbrev Loc := List (Option D)

structure Exn where
  cls : Str
  fs : Option (List (Str × D)) := none

inductive Res (α : Type) where
  | ok (a : α) (O : Store)
  | exc (x : Exn) (O : Store)
  | bad

def Res.bind {α β : Type} (x : Res α) (f : α → Store → Res β) : Res β := match x with
  | .ok a O => f a O
  | .exc e O => .exc e O
  | .bad => .bad

abbrev EM := Loc → Store → Res D
abbrev TM := Loc → Store → Res Bool
abbrev AM := Loc → Store → Res (List D)
abbrev FM := List D → Store → Res D

inductive SR where
  | next (L : Loc) (O : Store)
  | ret (d : D) (O : Store)
  | brk (L : Loc) (O : Store)
  | cnt (L : Loc) (O : Store)
  | exc (x : Exn) (L : Loc) (O : Store)
  | bad
abbrev SM := Loc → Store → SR

/-- where the objects of the store stand; what else is kept -/
structure Rg where
  l : List Addr
  fr : Hp
def Rg.push (r : Rg) (p : Addr) : Rg := ⟨r.l ++ [p], r.fr⟩
/-! ### what stands for what -/
section
variable (K : PySem.W.Frag) (S : Hp) (r : Rg)
mutual
def Rp : D → V → Prop
  | .non, v => v = .non
  | .bl b, v => v = .bl b
  | .int i, v => v = .int i
  | .str s, v => v = .str s
  | .lst ds, v => ∃ a vs, v = .ref a ∧ S a = some (.lst vs) ∧ RpAll ds vs
  | .rol ds, v => ∃ a vs, v = .ref a ∧ SqL K S a vs ∧ RpAll ds vs
  | .tup ds, v => ∃ a vs, v = .ref a ∧ SqT K S a vs ∧ RpAll ds vs
  | .hdl n, v => ∃ a, v = .ref a ∧ r.l[n]? = some a
def RpAll : List D → List V → Prop
  | [], vs => vs = []
  | d :: ds, vs => ∃ v vr, vs = v :: vr ∧ Rp d v ∧ RpAll ds vr
end
def RpP {κ : Type} : List (κ × D) → List (κ × V) → Prop
  | [], ks => ks = []
  | kd :: kds, ks => ∃ v kr, ks = (kd.1, v) :: kr ∧ Rp K S r kd.2 v ∧ RpP kds kr
end

/-- the state grows -/
structure Ext (S : Hp) (r : Rg) (S' : Hp) (r' : Rg) : Prop where
  s : Same S S'
  f : r'.fr = r.fr
  r : r.l <+: r'.l
theorem Ext.refl (S : Hp) (r : Rg) : Ext S r S r := ⟨Same.refl S, rfl, List.prefix_rfl⟩
theorem Ext.trans {S S1 S2 : Hp} {r r1 r2 : Rg} (a : Ext S r S1 r1) (b : Ext S1 r1 S2 r2) : Ext S r S2 r2 := ⟨a.s.trans b.s, b.f.trans a.f, a.r.trans b.r⟩
theorem Ext.new {S : Hp} {r : Rg} {p : Addr} {o : HO} (h : S p = none) : Ext S r (upd S p o) r :=
  ⟨fun b u e => by rw [upd_ne (ne_of_none e h)]; exact e, rfl, List.prefix_rfl⟩

theorem rd_same {S S' : Hp} {a : Addr} {u : HO} (e : Same S S') (h : Rd S a u) : Rd S' a u := by
  rcases h with h | ⟨o, h⟩
  · exact .inl (e _ _ h)
  · exact .inr ⟨o, e _ _ h⟩
theorem sqL_same {K : PySem.W.Frag} {S S' : Hp} {a : Addr} {xs : List V} (e : Same S S') (h : SqL K S a xs) : SqL K S' a xs := by
  rcases h with h | h
  · exact .inl (rd_same e h)
  · exact .inr h
theorem sqT_same {K : PySem.W.Frag} {S S' : Hp} {a : Addr} {xs : List V} (e : Same S S') (h : SqT K S a xs) : SqT K S' a xs := by
  rcases h with h | h
  · exact .inl (rd_same e h)
  · exact .inr h
theorem pre_get {α : Type} {l m : List α} {n : Nat} {x : α} (p : l <+: m) (h : l[n]? = some x) : m[n]? = some x := by
  obtain ⟨t, rfl⟩ := p
  rw [List.getElem?_append_left (List.getElem?_eq_some_iff.mp h).1]
  exact h

section
variable {K : PySem.W.Frag} {S S' : Hp} {r r' : Rg}
mutual
theorem Rp.monoW (s : Same S S') (l : r.l <+: r'.l) : ∀ (d : D) (v : V), Rp K S r d v → Rp K S' r' d v
  | .non, v, h => h
  | .bl b, v, h => h
  | .int i, v, h => h
  | .str z, v, h => h
  | .lst ds, v, h => by
    obtain ⟨a, vs, q1, q2, q3⟩ := h
    exact ⟨a, vs, q1, s _ _ q2, RpAll.monoW s l ds vs q3⟩
  | .rol ds, v, h => by
    obtain ⟨a, vs, q1, q2, q3⟩ := h
    exact ⟨a, vs, q1, sqL_same s q2, RpAll.monoW s l ds vs q3⟩
  | .tup ds, v, h => by
    obtain ⟨a, vs, q1, q2, q3⟩ := h
    exact ⟨a, vs, q1, sqT_same s q2, RpAll.monoW s l ds vs q3⟩
  | .hdl n, v, h => by
    obtain ⟨a, q1, q2⟩ := h
    exact ⟨a, q1, pre_get l q2⟩
theorem RpAll.monoW (s : Same S S') (l : r.l <+: r'.l) : ∀ (ds : List D) (vs : List V), RpAll K S r ds vs → RpAll K S' r' ds vs
  | [], vs, h => h
  | d :: ds, vs, h => by
    obtain ⟨v, vr, q1, q2, q3⟩ := h
    exact ⟨v, vr, q1, Rp.monoW s l d v q2, RpAll.monoW s l ds vr q3⟩
end
theorem Rp.mono (e : Ext S r S' r') (d : D) (v : V) (h : Rp K S r d v) : Rp K S' r' d v := Rp.monoW e.s e.r d v h
theorem RpAll.mono (e : Ext S r S' r') (ds : List D) (vs : List V) (h : RpAll K S r ds vs) : RpAll K S' r' ds vs := RpAll.monoW e.s e.r ds vs h
theorem RpP.monoW {κ : Type} (s : Same S S') (l : r.l <+: r'.l) : ∀ (ds : List (κ × D)) (vs : List (κ × V)), RpP K S r ds vs → RpP K S' r' ds vs
  | [], vs, h => h
  | d :: ds, vs, h => by
    obtain ⟨v, vr, q1, q2, q3⟩ := h
    exact ⟨v, vr, q1, Rp.monoW s l d.2 v q2, RpP.monoW s l ds vr q3⟩
theorem RpP.mono {κ : Type} (e : Ext S r S' r') (ds : List (κ × D)) (vs : List (κ × V)) (h : RpP K S r ds vs) : RpP K S' r' ds vs := RpP.monoW e.s e.r ds vs h

theorem RpAll.length : ∀ {ds : List D} {vs : List V}, RpAll K S r ds vs → vs.length = ds.length
  | [], vs, h => by rw [show vs = [] from h]; rfl
  | d :: ds, vs, h => by
    obtain ⟨v, vr, rfl, _, q3⟩ := h
    rw [List.length_cons, List.length_cons, RpAll.length q3]
theorem RpAll.get : ∀ {ds : List D} {vs : List V} {i : Nat} {d : D}, RpAll K S r ds vs → ds[i]? = some d → ∃ v, vs[i]? = some v ∧ Rp K S r d v
  | [], _, i, d, _, e => by simp at e
  | x :: ds, vs, 0, d, h, e => by
    obtain ⟨v, vr, rfl, q, _⟩ := h
    obtain rfl : x = d := by simpa using e
    exact ⟨v, rfl, q⟩
  | x :: ds, vs, i + 1, d, h, e => by
    obtain ⟨v, vr, rfl, _, q⟩ := h
    exact RpAll.get (i := i) q (by simpa using e)
/-- from the other side -/
theorem RpAll.back : ∀ {ds : List D} {vs : List V} {i : Nat} {v : V}, RpAll K S r ds vs → vs[i]? = some v → ∃ d, ds[i]? = some d ∧ Rp K S r d v
  | [], vs, i, v, h, e => by
    rw [show vs = [] from h] at e
    simp at e
  | x :: ds, vs, 0, d, h, e => by
    obtain ⟨v, vr, rfl, q, _⟩ := h
    obtain rfl : v = d := by simpa using e
    exact ⟨x, rfl, q⟩
  | x :: ds, vs, i + 1, d, h, e => by
    obtain ⟨v, vr, rfl, _, q⟩ := h
    exact RpAll.back (i := i) q (by simpa using e)
theorem RpAll.append : ∀ {ds es : List D} {vs us : List V}, RpAll K S r ds vs → RpAll K S r es us → RpAll K S r (ds ++ es) (vs ++ us)
  | [], es, vs, us, h, g => by
    rw [show vs = [] from h]
    exact g
  | d :: ds, es, vs, us, h, g => by
    obtain ⟨v, vr, rfl, q, q2⟩ := h
    exact ⟨v, vr ++ us, rfl, q, q2.append g⟩
theorem RpAll.take : ∀ {ds : List D} {vs : List V} (n : Nat), RpAll K S r ds vs → RpAll K S r (ds.take n) (vs.take n)
  | ds, vs, 0, h => by
    rw [List.take_zero, List.take_zero]
    exact rfl
  | [], vs, n + 1, h => by
    rw [show vs = [] from h]
    exact rfl
  | d :: ds, vs, n + 1, h => by
    obtain ⟨v, vr, rfl, q, q2⟩ := h
    exact ⟨v, vr.take n, rfl, q, q2.take n⟩
theorem RpAll.drop : ∀ {ds : List D} {vs : List V} (n : Nat), RpAll K S r ds vs → RpAll K S r (ds.drop n) (vs.drop n)
  | ds, vs, 0, h => by
    rw [List.drop_zero, List.drop_zero]
    exact h
  | [], vs, n + 1, h => by
    rw [show vs = [] from h]
    exact rfl
  | d :: ds, vs, n + 1, h => by
    obtain ⟨v, vr, rfl, q, q2⟩ := h
    exact q2.drop n
theorem RpAll.set : ∀ {ds : List D} {vs : List V} {d : D} {v : V} (i : Nat), RpAll K S r ds vs → Rp K S r d v → RpAll K S r (ds.set i d) (vs.set i v)
  | [], vs, d, v, i, h, _ => by
    rw [show vs = [] from h]
    exact rfl
  | x :: ds, vs, d, v, 0, h, g => by
    obtain ⟨u, vr, rfl, q, q2⟩ := h
    exact ⟨v, vr, rfl, g, q2⟩
  | x :: ds, vs, d, v, i + 1, h, g => by
    obtain ⟨u, vr, rfl, q, q2⟩ := h
    exact ⟨u, vr.set i v, rfl, q, q2.set i g⟩
theorem RpAll.nil : RpAll K S r [] [] := rfl
theorem RpAll.cons {d : D} {v : V} {ds : List D} {vs : List V} (h : Rp K S r d v) (g : RpAll K S r ds vs) : RpAll K S r (d :: ds) (v :: vs) := ⟨v, vs, rfl, h, g⟩
end

/-! ### the state -/
section
variable (K : PySem.W.Frag) (ad : Str → Addr) (S : Hp) (r : Rg)
def RO (H : Hp) (a : Addr) : Ob → Prop
  | .lst ds => S a = none ∧ ∃ vs, H a = some (.lst vs) ∧ RpAll K S r ds vs
  | .dct kvs => S a = none ∧ ∃ ks, H a = some (.dK ks) ∧ RpP K S r kvs ks
  | .ins c fs => S a = none ∧ ∃ dx gs, H a = some (.ins (ad c) dx gs) ∧ RpP K S r fs gs
  | .dead => ∃ o, H a = some o
structure Rs (O : Store) (H : Hp) : Prop where
  sub : Same S H
  len : r.l.length = O.length
  nd : r.l.Nodup
  ob : ∀ (n : Nat) (a : Addr) (o : Ob), r.l[n]? = some a → O[n]? = some o → RO K ad S r H a o
  fr : Same r.fr H
  off : ∀ (a : Addr) (o : HO), r.fr a = some o → S a = none ∧ a ∉ r.l
/-- the slots -/
structure Rl (L : Loc) (σ : St) : Prop where
  len : σ.length = L.length
  at_ : ∀ (i : Nat) (d : D), L[i]? = some (some d) → ∃ v, σ[i]? = some (some v) ∧ Rp K S r d v
/-- an exception: its own dict stands for good -/
def ExR (x : Exn) (d : Option Addr) : Prop := match x.fs with
  | none => d = none
  | some fs => ∃ dd gs, d = some dd ∧ S dd = some (.xd gs) ∧ RpP K S r fs gs
end
section
variable {K : PySem.W.Frag} {ad : Str → Addr} {S S' : Hp} {r r' : Rg} {L : Loc} {σ : St} {O : Store} {H : Hp}
theorem Rl.mono (e : Ext S r S' r') (h : Rl K S r L σ) : Rl K S' r' L σ := ⟨h.len, fun i d q => by
  obtain ⟨v, q1, q2⟩ := h.at_ i d q
  exact ⟨v, q1, Rp.mono e d v q2⟩⟩
theorem RO.there {a : Addr} {o : Ob} (h : RO K ad S r H a o) : ∃ u, H a = some u := by
  cases o with
  | lst ds => obtain ⟨_, vs, q, _⟩ := h; exact ⟨_, q⟩
  | dct kvs => obtain ⟨_, vs, q, _⟩ := h; exact ⟨_, q⟩
  | ins c fs => obtain ⟨_, _, vs, q, _⟩ := h; exact ⟨_, q⟩
  | dead => exact h
theorem Rs.fresh (h : Rs K ad S r O H) {p : Addr} (hp : H p = none) : S p = none := h.sub.free hp
theorem Rs.notin (h : Rs K ad S r O H) {p : Addr} (hp : H p = none) : p ∉ r.l := fun hm => by
  obtain ⟨n, hn, e⟩ := List.getElem_of_mem hm
  have hO : n < O.length := by rw [← h.len]; exact hn
  obtain ⟨u, q⟩ := (h.ob n p O[n] (by rw [List.getElem?_eq_getElem hn, e]) (List.getElem?_eq_getElem hO)).there
  rw [hp] at q
  cases q
theorem RO.mono {a : Addr} {o : Ob} {H' : Hp} (e : Ext S r S' r') (k : ∀ u, H a = some u → H' a = some u) (n : S a = none → S' a = none) (h : RO K ad S r H a o) : RO K ad S' r' H' a o := by
  cases o with
  | lst ds => obtain ⟨z, vs, q, p⟩ := h; exact ⟨n z, vs, k _ q, RpAll.mono e _ _ p⟩
  | dct kvs => obtain ⟨z, vs, q, p⟩ := h; exact ⟨n z, vs, k _ q, RpP.mono e _ _ p⟩
  | ins c fs => obtain ⟨z, dx, vs, q, p⟩ := h; exact ⟨n z, dx, vs, k _ q, RpP.mono e _ _ p⟩
  | dead => obtain ⟨u, q⟩ := h; exact ⟨u, k _ q⟩
theorem same_upd {H' : Hp} {p : Addr} {o : HO} (h : Same H' H) (hp : H' p = none) : Same H' (upd H p o) := fun b u e => by
  rw [upd_ne (ne_of_none e hp)]
  exact h b u e
/-- a new thing that stands for good -/
theorem Rs.seal {p : Addr} {o : HO} (h : Rs K ad S r O H) (hp : H p = none) : Rs K ad (upd S p o) r O (upd H p o) where
  sub := fun b u e => by
    by_cases hb : b = p
    · rw [hb, upd_same] at e ⊢; exact e
    · rw [upd_ne hb] at e ⊢; exact h.sub b u e
  len := h.len
  nd := h.nd
  ob := fun n a ob e1 e2 => by
    have ne : a ≠ p := fun z => h.notin hp (by rw [← z]; exact List.mem_of_getElem? e1)
    exact (h.ob n a ob e1 e2).mono (Ext.new (h.fresh hp)) (fun u q => by rw [upd_ne ne]; exact q) (fun q => by rw [upd_ne ne]; exact q)
  fr := same_upd h.fr (h.fr.free hp)
  off := fun a u e => by
    have ne : a ≠ p := ne_of_none e (h.fr.free hp)
    rw [upd_ne ne]
    exact h.off a u e
/-- a thing that nobody knows -/
theorem Rs.junk {p : Addr} {o : HO} (h : Rs K ad S r O H) (hp : H p = none) : Rs K ad S r O (upd H p o) where
  sub := same_upd h.sub (h.fresh hp)
  len := h.len
  nd := h.nd
  ob := fun n a ob e1 e2 => by
    have ne : a ≠ p := fun z => h.notin hp (by rw [← z]; exact List.mem_of_getElem? e1)
    exact (h.ob n a ob e1 e2).mono (Ext.refl S r) (fun u q => by rw [upd_ne ne]; exact q) (fun q => q)
  fr := same_upd h.fr (h.fr.free hp)
  off := h.off
theorem Ext.push (S : Hp) (r : Rg) (p : Addr) : Ext S r S (r.push p) := ⟨Same.refl S, rfl, List.prefix_append r.l [p]⟩
theorem RO.grow {a p : Addr} {o : Ob} (h : RO K ad S r H a o) : RO K ad S (r.push p) H a o :=
  h.mono (Ext.push S r p) (fun _ q => q) (fun q => q)
/-- a new object of the store -/
theorem Rs.push {p : Addr} {u : HO} {o : Ob} (h : Rs K ad S r O H) (hp : H p = none) (ho : RO K ad S (r.push p) (upd H p u) p o) : Rs K ad S (r.push p) (O ++ [o]) (upd H p u) where
  sub := (h.junk (o := u) hp).sub
  len := by
    show (r.l ++ [p]).length = _
    rw [List.length_append, List.length_append, h.len]; rfl
  nd := by
    show (r.l ++ [p]).Nodup
    rw [List.nodup_append]
    refine ⟨h.nd, by simp, fun a ha b hb => ?_⟩
    obtain rfl : b = p := by simpa using hb
    exact fun z => h.notin hp (z ▸ ha)
  ob := fun n a ob e1 e2 => by
    replace e1 : (r.l ++ [p])[n]? = some a := e1
    by_cases hn : n < r.l.length
    · rw [List.getElem?_append_left hn] at e1
      rw [List.getElem?_append_left (by rw [← h.len]; exact hn)] at e2
      exact ((h.junk (o := u) hp).ob n a ob e1 e2).grow
    · have hn' : n = r.l.length := by
        have := (List.getElem?_eq_some_iff.mp e1).1
        rw [List.length_append] at this
        simp at this
        omega
      subst hn'
      rw [List.getElem?_append_right (Nat.le_refl _)] at e1
      rw [h.len, List.getElem?_append_right (Nat.le_refl _)] at e2
      simp at e1 e2
      subst e1 e2
      exact ho
  fr := same_upd h.fr (h.fr.free hp)
  off := fun a u e => ⟨(h.off a u e).1, fun hm => by
    rcases List.mem_append.mp (show a ∈ r.l ++ [p] from hm) with hm | hm
    · exact (h.off a u e).2 hm
    · obtain rfl : a = p := by simpa using hm
      replace e : r.fr a = some u := e
      rw [show r.fr a = none from h.fr.free hp] at e
      cases e⟩
theorem nd_get {l : List Addr} (h : l.Nodup) {i j : Nat} {a : Addr} (x : l[i]? = some a) (y : l[j]? = some a) : i = j := by
  obtain ⟨h1, e1⟩ := List.getElem?_eq_some_iff.mp x
  obtain ⟨h2, e2⟩ := List.getElem?_eq_some_iff.mp y
  exact (List.getElem_inj h).mp (e1.trans e2.symm)
theorem Rs.nofr (h : Rs K ad S r O H) {n : Nat} {a : Addr} (hn : r.l[n]? = some a) : r.fr a = none := by
  cases e : r.fr a with
  | none => rfl
  | some o => exact absurd (List.mem_of_getElem? hn) (h.off a o e).2
/-- an object of the store is written -/
theorem Rs.write {n : Nat} {a : Addr} {u : HO} {o : Ob} (h : Rs K ad S r O H) (hn : r.l[n]? = some a) (hz : S a = none) (ho : RO K ad S r (upd H a u) a o) : Rs K ad S r (O.set n o) (upd H a u) where
  sub := same_upd h.sub hz
  len := by rw [List.length_set]; exact h.len
  nd := h.nd
  ob := fun m b ob e1 e2 => by
    by_cases hm : m = n
    · subst hm
      rw [hn] at e1
      cases e1
      rw [List.getElem?_set_self (by rw [← h.len]; exact (List.getElem?_eq_some_iff.mp hn).1)] at e2
      cases e2
      exact ho
    · rw [List.getElem?_set_ne (Ne.symm hm)] at e2
      have ne : b ≠ a := fun z => hm (nd_get h.nd e1 (z ▸ hn))
      exact (h.ob m b ob e1 e2).mono (Ext.refl S r) (fun w q => by rw [upd_ne ne]; exact q) (fun q => q)
  fr := same_upd h.fr (h.nofr hn)
  off := h.off
/-- an object of the store is let be for good -/
theorem Rs.freeze {n : Nat} {a : Addr} {vs : List V} (h : Rs K ad S r O H) (hn : r.l[n]? = some a) (hz : S a = none) (ha : H a = some (.lst vs)) : Rs K ad (upd S a (.lst vs)) r (O.set n .dead) H where
  sub := fun b w e => by
    by_cases hb : b = a
    · rw [hb, upd_same] at e
      rw [hb, ha]; exact e
    · rw [upd_ne hb] at e; exact h.sub b w e
  len := by rw [List.length_set]; exact h.len
  nd := h.nd
  ob := fun m b ob e1 e2 => by
    by_cases hm : m = n
    · subst hm
      rw [hn] at e1
      cases e1
      rw [List.getElem?_set_self (by rw [← h.len]; exact (List.getElem?_eq_some_iff.mp hn).1)] at e2
      cases e2
      exact ⟨_, ha⟩
    · rw [List.getElem?_set_ne (Ne.symm hm)] at e2
      have ne : b ≠ a := fun z => hm (nd_get h.nd e1 (z ▸ hn))
      exact (h.ob m b ob e1 e2).mono (Ext.new hz) (fun w q => q) (fun q => by rw [upd_ne ne]; exact q)
  fr := h.fr
  off := fun b o e => ⟨by
    rw [upd_ne (ne_of_none e (h.nofr hn))]
    exact (h.off b o e).1, (h.off b o e).2⟩
def Rg.at (r : Rg) (f : Hp) : Rg := ⟨r.l, f⟩
theorem RO.at_ {a : Addr} {o : Ob} {f : Hp} (h : RO K ad S r H a o) : RO K ad S (r.at f) H a o := by
  have l : r.l <+: (r.at f).l := List.prefix_rfl
  cases o with
  | lst ds => obtain ⟨z, vs, q, p⟩ := h; exact ⟨z, vs, q, RpAll.monoW (Same.refl S) l _ _ p⟩
  | dct kvs => obtain ⟨z, vs, q, p⟩ := h; exact ⟨z, vs, q, RpP.monoW (Same.refl S) l _ _ p⟩
  | ins c fs => obtain ⟨z, dx, vs, q, p⟩ := h; exact ⟨z, dx, vs, q, RpP.monoW (Same.refl S) l _ _ p⟩
  | dead => obtain ⟨u, q⟩ := h; exact ⟨u, q⟩
/-- a new thing is kept for a while -/
theorem Rs.hold {p : Addr} {o : HO} (h : Rs K ad S r O H) (hp : H p = none) : Rs K ad S (r.at (upd r.fr p o)) O (upd H p o) where
  sub := (h.junk (o := o) hp).sub
  len := h.len
  nd := h.nd
  ob := fun n a u e1 e2 => ((h.junk (o := o) hp).ob n a u e1 e2).at_
  fr := fun b u e => by
    replace e : upd r.fr p o b = some u := e
    by_cases hb : b = p
    · rw [hb, upd_same] at e ⊢; exact e
    · rw [upd_ne hb] at e ⊢; exact h.fr b u e
  off := fun a u e => by
    replace e : upd r.fr p o a = some u := e
    by_cases hb : a = p
    · rw [hb]; exact ⟨h.fresh hp, h.notin hp⟩
    · rw [upd_ne hb] at e; exact h.off a u e
/-- what is held changes -/
theorem Rs.rehold {p : Addr} {o u : HO} {f : Hp} (h : Rs K ad S (r.at (upd f p o)) O H) : Rs K ad S (r.at (upd f p u)) O (upd H p u) where
  sub := same_upd h.sub (h.off p o upd_same).1
  len := h.len
  nd := h.nd
  ob := fun n a w e1 e2 => by
    have ne : a ≠ p := fun z => (h.off p o upd_same).2 (z ▸ List.mem_of_getElem? e1)
    have q := h.ob n a w e1 e2
    have q1 : RO K ad S r H a w := RO.at_ (r := r.at (upd f p o)) (f := r.fr) q
    exact (q1.mono (Ext.refl S r) (fun w q => by rw [upd_ne ne]; exact q) (fun q => q)).at_
  fr := fun b w e => by
    replace e : upd f p u b = some w := e
    by_cases hb : b = p
    · rw [hb, upd_same] at e ⊢; exact e
    · rw [upd_ne hb] at e ⊢
      exact h.fr b w (by show upd f p o b = some w; rw [upd_ne hb]; exact e)
  off := fun a w e => by
    replace e : upd f p u a = some w := e
    by_cases hb : a = p
    · rw [hb]; exact h.off p o upd_same
    · rw [upd_ne hb] at e
      exact h.off a w (by show upd f p o a = some w; rw [upd_ne hb]; exact e)
/-- it is let go -/
theorem Rs.unhold {p : Addr} {o : HO} (h : Rs K ad S (r.at (upd r.fr p o)) O H) (hf : r.fr p = none) : Rs K ad S r O H ∧ H p = some o ∧ S p = none ∧ p ∉ r.l := by
  refine ⟨⟨h.sub, h.len, h.nd, fun n a w e1 e2 => RO.at_ (r := r.at (upd r.fr p o)) (f := r.fr) (h.ob n a w e1 e2), fun b w e => ?_, fun a w e => ?_⟩, h.fr p o upd_same, (h.off p o upd_same).1, (h.off p o upd_same).2⟩
  · exact h.fr b w (by show upd r.fr p o b = some w; rw [upd_ne (ne_of_none e hf)]; exact e)
  · exact h.off a w (by show upd r.fr p o a = some w; rw [upd_ne (ne_of_none e hf)]; exact e)
/-- .. sealed -/
theorem Rs.sealAt {p : Addr} {o : HO} (h : Rs K ad S r O H) (hH : H p = some o) (hS : S p = none) (hl : p ∉ r.l) (hf : r.fr p = none) : Rs K ad (upd S p o) r O H where
  sub := fun b u e => by
    by_cases hb : b = p
    · rw [hb, upd_same] at e; rw [hb, hH]; exact e
    · rw [upd_ne hb] at e; exact h.sub b u e
  len := h.len
  nd := h.nd
  ob := fun n a ob e1 e2 => by
    have ne : a ≠ p := fun z => hl (by rw [← z]; exact List.mem_of_getElem? e1)
    exact (h.ob n a ob e1 e2).mono (Ext.new hS) (fun u q => q) (fun q => by rw [upd_ne ne]; exact q)
  fr := h.fr
  off := fun a u e => ⟨by rw [upd_ne (ne_of_none e hf)]; exact (h.off a u e).1, (h.off a u e).2⟩
/-- .. put into the store -/
theorem Rs.pushAt {p : Addr} {o : Ob} (h : Rs K ad S r O H) (ho : RO K ad S (r.push p) H p o) (hl : p ∉ r.l) (hf : r.fr p = none) : Rs K ad S (r.push p) (O ++ [o]) H where
  sub := h.sub
  len := by
    show (r.l ++ [p]).length = _
    rw [List.length_append, List.length_append, h.len]; rfl
  nd := by
    show (r.l ++ [p]).Nodup
    rw [List.nodup_append]
    refine ⟨h.nd, by simp, fun a ha b hb => ?_⟩
    obtain rfl : b = p := by simpa using hb
    exact fun z => hl (z ▸ ha)
  ob := fun n a ob e1 e2 => by
    replace e1 : (r.l ++ [p])[n]? = some a := e1
    by_cases hn : n < r.l.length
    · rw [List.getElem?_append_left hn] at e1
      rw [List.getElem?_append_left (by rw [← h.len]; exact hn)] at e2
      exact (h.ob n a ob e1 e2).grow
    · have hn' : n = r.l.length := by
        have := (List.getElem?_eq_some_iff.mp e1).1
        rw [List.length_append] at this
        simp at this
        omega
      subst hn'
      rw [List.getElem?_append_right (Nat.le_refl _)] at e1
      rw [h.len, List.getElem?_append_right (Nat.le_refl _)] at e2
      simp at e1 e2
      subst e1 e2
      exact ho
  fr := h.fr
  off := fun a u e => ⟨(h.off a u e).1, fun hm => by
    rcases List.mem_append.mp (show a ∈ r.l ++ [p] from hm) with hm | hm
    · exact (h.off a u e).2 hm
    · obtain rfl : a = p := by simpa using hm
      replace e : r.fr a = some u := e
      rw [hf] at e
      cases e⟩
/-- the last object of the store is forgotten -/
theorem Rs.pop {p : Addr} {o : Ob} (h : Rs K ad S (r.push p) (O ++ [o]) H) (ho : ∀ (n : Nat) (a : Addr) (u : Ob), r.l[n]? = some a → O[n]? = some u → RO K ad S r H a u) : Rs K ad S r O H where
  sub := h.sub
  len := by
    have := h.len
    replace this : (r.l ++ [p]).length = _ := this
    rw [List.length_append, List.length_append] at this
    simpa using this
  nd := (List.nodup_append.mp (show (r.l ++ [p]).Nodup from h.nd)).1
  ob := ho
  fr := h.fr
  off := fun a u e => ⟨(h.off a u e).1, fun hm => (h.off a u e).2 (List.mem_append_left _ hm)⟩
end

/-- what else holds of the slots and of what stands for good -/
structure JP where
  p : St → Hp → Prop
  mono : ∀ {σ : St} {S S' : Hp}, Same S S' → p σ S → p σ S'
/-! ### posts -/
section
variable (K : PySem.W.Frag) (ad : Str → Addr)
def Post {α β : Type} (rep : Hp → Rg → α → β → Prop) (W : WX) (σ : St) (S : Hp) (r : Rg) (Q : β → Hp → Prop) : Res α → Prop
  | .ok a O => ∀ S' r' H v, Ext S r S' r' → Rs K ad S' r' O H → rep S' r' a v → Q v H
  | .exc x O => ∀ S' r' H d, Ext S r S' r' → Rs K ad S' r' O H → ExR K S' r' x d → W (.ref (ad x.cls)) d σ H
  | .bad => False
def tE (J : JP) (W : WX) (m : EM) : TE := fun σ H Q => ∃ S r L O, J.p σ S ∧ Rl K S r L σ ∧ Rs K ad S r O H ∧ Post K ad (fun S r => Rp K S r) W σ S r Q (m L O)
def tT (J : JP) (W : WX) (m : TM) : TT := fun σ H Q => ∃ S r L O, J.p σ S ∧ Rl K S r L σ ∧ Rs K ad S r O H ∧ Post K ad (fun _ _ a v => v = a) W σ S r Q (m L O)
def tA (J : JP) (W : WX) (m : AM) : TA := fun σ H Q => ∃ S r L O, J.p σ S ∧ Rl K S r L σ ∧ Rs K ad S r O H ∧ Post K ad (fun S r => RpAll K S r) W σ S r Q (m L O)
def PostS (J : JP) (W : WX) (S : Hp) (r : Rg) (En : Ends) : SR → Prop
  | .next L O => ∀ S' r' σ H, Ext S r S' r' → J.p σ S' → Rl K S' r' L σ → Rs K ad S' r' O H → En.nx σ H
  | .ret d O => ∀ S' r' H v, Ext S r S' r' → Rs K ad S' r' O H → Rp K S' r' d v → En.rt v H
  | .brk L O => ∀ S' r' σ H, Ext S r S' r' → J.p σ S' → Rl K S' r' L σ → Rs K ad S' r' O H → En.bk σ H
  | .cnt L O => ∀ S' r' σ H, Ext S r S' r' → J.p σ S' → Rl K S' r' L σ → Rs K ad S' r' O H → En.ct σ H
  | .exc x L O => ∀ S' r' σ H d, Ext S r S' r' → J.p σ S' → Rl K S' r' L σ → Rs K ad S' r' O H → ExR K S' r' x d → W (.ref (ad x.cls)) d σ H
  | .bad => False
def tS (J : JP) (W : WX) (m : SM) : TS := fun En σ H => ∃ S r L O, J.p σ S ∧ Rl K S r L σ ∧ Rs K ad S r O H ∧ PostS K ad J W S r En (m L O)
/-- the promise of a def that its mirror tells -/
def spM (n : Nat) (m : FM) : Sp := fun vs H Q E => ∃ S r O ds, ds.length = n ∧ Rs K ad S r O H ∧ RpAll K S r ds vs ∧ Post K ad (fun S r => Rp K S r) (fun c d _ H' => E c d H') [] S r Q (m ds O)
end
section
variable {K : PySem.W.Frag} {ad : Str → Addr} {α β γ δ : Type} {rep : Hp → Rg → α → β → Prop} {rep2 : Hp → Rg → γ → δ → Prop} {W : WX} {σ : St} {S S' : Hp} {r r' : Rg} {Q Q' : β → Hp → Prop} {x : Res α}
theorem Post.mono (e : Ext S r S' r') (h : Post K ad rep W σ S r Q x) : Post K ad rep W σ S' r' Q x := by
  cases x with
  | ok a O => exact fun S2 r2 H v e2 => h S2 r2 H v (e.trans e2)
  | exc a O => exact fun S2 r2 H v e2 => h S2 r2 H v (e.trans e2)
  | bad => exact h
theorem Post.imp (h : Post K ad rep W σ S r Q x) (k : ∀ v H, Q v H → Q' v H) : Post K ad rep W σ S r Q' x := by
  cases x with
  | ok a O => exact fun S2 r2 H v e2 s p => k _ _ (h S2 r2 H v e2 s p)
  | exc a O => exact h
  | bad => exact h
theorem Post.bind {R : δ → Hp → Prop} {f : α → Store → Res γ} (h : Post K ad rep2 W σ S r R (x.bind f)) :
    Post K ad rep W σ S r (fun v H => ∃ S' r' a O, Ext S r S' r' ∧ Rs K ad S' r' O H ∧ rep S' r' a v ∧ Post K ad rep2 W σ S' r' R (f a O)) x := by
  cases x with
  | ok a O => exact fun S2 r2 H v e2 s p => ⟨S2, r2, a, O, e2, s, p, Post.mono e2 h⟩
  | exc a O => exact h
  | bad => exact h
/-- at the end -/
theorem Post.fin {a : α} {O : Store} {H : Hp} {v : β} (h : Post K ad rep W σ S r Q (.ok a O)) (e : Ext S r S' r') (s : Rs K ad S' r' O H) (p : rep S' r' a v) : Q v H := h S' r' H v e s p
end
theorem pe_imp {X : Cx} {e : Expr} {t t' : TE} (h : PE X e t) (k : ∀ σ H Q, t' σ H Q → t σ H Q) : PE X e t' := ⟨fun pins s σ H Q I q => h.run pins s σ H Q I (k σ H Q q)⟩
theorem pt_imp {X : Cx} {e : Expr} {t t' : TT} (h : PT X e t) (k : ∀ σ H Q, t' σ H Q → t σ H Q) : PT X e t' := ⟨fun pins s σ H Q I q => h.run pins s σ H Q I (k σ H Q q)⟩
theorem pa_imp {X : Cx} {e : List Expr} {t t' : TA} (h : PA X e t) (k : ∀ σ H Q, t' σ H Q → t σ H Q) : PA X e t' := ⟨fun pos pins s σ H Q I q => h.run pos pins s σ H Q I (k σ H Q q)⟩
theorem ps_imp {X : Cx} {e : Stmt} {t t' : TS} (h : PS X e t) (k : ∀ En σ H, t' En σ H → t En σ H) : PS X e t' := ⟨fun pins s σ H En I q => h.run pins s σ H En I (k En σ H q)⟩
theorem pss_imp {X : Cx} {e : List Stmt} {t t' : TS} (h : PSs X e t) (k : ∀ En σ H, t' En σ H → t En σ H) : PSs X e t' := ⟨fun pins s σ H En I q => h.run pins s σ H En I (k En σ H q)⟩
/-- TE that gives more holds less -/
structure Mn {β : Type} (t : St → Hp → (β → Hp → Prop) → Prop) : Prop where
  mn : ∀ σ H Q Q', (∀ v H', Q v H' → Q' v H') → t σ H Q → t σ H Q'
end DK
end
section
set_option Elab.async false
set_option linter.all false
set_option autoImplicit false
set_option maxRecDepth 100000
set_option maxHeartbeats 4000000
/-! DKExp: expressions and tests, by mirrors. -/
namespace DK
open PySem L2

def ofO {α : Type} : Option (α × Store) → Res α
  | some (z, O) => .ok z O
  | none => .bad

/-! ### mirrors -/
def mVar (i : Nat) : EM := fun L O => match L[i]? with
  | some (some d) => .ok d O
  | _ => .bad
def mC (d : D) : EM := fun _ O => .ok d O
def mOp (g : Store → D → D → Option (D × Store)) (a b : EM) : EM := fun L O => (a L O).bind fun x O1 => (b L O1).bind fun y O2 => ofO (g O2 x y)
def mUn (g : Store → D → Option (D × Store)) (a : EM) : EM := fun L O => (a L O).bind fun x O1 => ofO (g O1 x)
def mChain (g g' : Store → D → D → Option (D × Store)) (a b c : EM) : EM := fun L O => (a L O).bind fun x O1 => (b L O1).bind fun y O2 => (ofO (g O2 x y)).bind fun z O3 => match z with
  | .bl true => (c L O3).bind fun w O4 => ofO (g' O4 y w)
  | .bl false => .ok (.bl false) O3
  | _ => .bad
def mTest (a : EM) : TM := fun L O => (a L O).bind fun x O1 => match x with
  | .bl b => .ok b O1
  | _ => .bad
def truD (O : Store) : D → Option Bool
  | .non => some false
  | .bl b => some b
  | .int i => some (i != 0)
  | .str s => if s.length ≤ 1000000 then some ((s.length : Int) != 0) else none
  | .lst xs => some (!xs.isEmpty)
  | .rol xs => some (!xs.isEmpty)
  | .tup xs => some (!xs.isEmpty)
  | .hdl n => match O[n]? with
    | some (.lst xs) => some (!xs.isEmpty)
    | some (.dct xs) => some (!xs.isEmpty)
    | _ => none
def mTru (a : EM) : TM := fun L O => (a L O).bind fun x O1 => match truD O1 x with
  | some b => .ok b O1
  | none => .bad
def mAnd (a b : TM) : TM := fun L O => (a L O).bind fun c O1 => if c = true then b L O1 else .ok false O1
def mOr (a b : TM) : TM := fun L O => (a L O).bind fun c O1 => if c = true then .ok true O1 else b L O1
def mNot (a : TM) : TM := fun L O => (a L O).bind fun c O1 => .ok (!c) O1
def mIf (t : TM) (a b : EM) : EM := fun L O => (t L O).bind fun c O1 => if c = true then a L O1 else b L O1
/-- and, or, not of bools, as values -/
def mAndV (a b : EM) : EM := fun L O => (a L O).bind fun c O1 => match c with
  | .bl true => b L O1
  | .bl false => .ok (.bl false) O1
  | _ => .bad
def mOrV (a b : EM) : EM := fun L O => (a L O).bind fun c O1 => match c with
  | .bl true => .ok (.bl true) O1
  | .bl false => b L O1
  | _ => .bad
def mNotV (a : EM) : EM := fun L O => (a L O).bind fun c O1 => match c with
  | .bl b => .ok (.bl (!b)) O1
  | _ => .bad
def mNil : AM := fun _ O => .ok [] O
def mCons (a : EM) (t : AM) : AM := fun L O => (a L O).bind fun x O1 => (t L O1).bind fun xs O2 => .ok (x :: xs) O2
def mTup (t : AM) : EM := fun L O => (t L O).bind fun xs O1 => if xs.length ≤ 1000000 then .ok (.tup xs) O1 else .bad
/-- a new list: for good, or one of the store -/
def newL (h : Bool) (xs : List D) (O : Store) : Res D := if xs.length ≤ 1000000 then (if h = true then .ok (.hdl O.length) (O ++ [.lst xs]) else .ok (.lst xs) O) else .bad
def mLst (h : Bool) (t : AM) : EM := fun L O => (t L O).bind fun xs O1 => newL h xs O1
def mCall (g : Store → List D → Option (D × Store)) (t : AM) : EM := fun L O => (t L O).bind fun xs O1 => ofO (g O1 xs)
def mFn (f : FM) (ds : List D) (t : AM) : EM := fun L O => (t L O).bind fun xs O1 => f (xs ++ ds) O1

/-! ### the state's lists -/
def seqOf (O : Store) : D → Option (List D)
  | .lst xs => some xs
  | .rol xs => some xs
  | .tup xs => some xs
  | .hdl n => match O[n]? with
    | some (.lst xs) => some xs
    | _ => none
  | _ => none
/-- lists that are tracked -/
def lstOf (O : Store) : D → Option (List D)
  | .lst xs => some xs
  | .hdl n => match O[n]? with
    | some (.lst xs) => some xs
    | _ => none
  | _ => none

section
variable {K : PySem.W.Frag} {ad : Str → Addr} {S : Hp} {r : Rg} {O : Store} {H : Hp} {d : D} {x : V} {xs : List D}
theorem hdl_at (s : Rs K ad S r O H) {n : Nat} {o : Ob} (p : Rp K S r (.hdl n) x) (h : O[n]? = some o) : ∃ a, x = .ref a ∧ r.l[n]? = some a ∧ RO K ad S r H a o := by
  obtain ⟨a, e, q⟩ := p
  exact ⟨a, e, q, s.ob n a o q h⟩
theorem seqOf_ok (s : Rs K ad S r O H) (p : Rp K S r d x) (h : seqOf O d = some xs) : ∃ a vs, x = .ref a ∧ (SqL K H a vs ∨ SqT K H a vs) ∧ RpAll K S r xs vs := by
  cases d with
  | lst ds =>
    obtain rfl : ds = xs := Option.some.inj h
    obtain ⟨a, vs, e, q, w⟩ := p
    exact ⟨a, vs, e, .inl (.of (s.sub _ _ q)), w⟩
  | rol ds =>
    obtain rfl : ds = xs := Option.some.inj h
    obtain ⟨a, vs, e, q, w⟩ := p
    exact ⟨a, vs, e, .inl (sqL_same s.sub q), w⟩
  | tup ds =>
    obtain rfl : ds = xs := Option.some.inj h
    obtain ⟨a, vs, e, q, w⟩ := p
    exact ⟨a, vs, e, .inr (sqT_same s.sub q), w⟩
  | hdl n =>
    have h' : (match O[n]? with | some (Ob.lst xs) => some xs | _ => none) = some xs := h
    split at h'
    · rename_i zs e
      obtain rfl : zs = xs := Option.some.inj h'
      obtain ⟨a, e1, e2, _, vs, e3, e4⟩ := hdl_at s p e
      exact ⟨a, vs, e1, .inl (.of e3), e4⟩
    · cases h'
  | non => cases h
  | bl b => cases h
  | int i => cases h
  | str z => cases h
theorem lstOf_ok (s : Rs K ad S r O H) (p : Rp K S r d x) (h : lstOf O d = some xs) : ∃ a vs, x = .ref a ∧ H a = some (.lst vs) ∧ RpAll K S r xs vs := by
  cases d with
  | lst ds =>
    obtain rfl : ds = xs := Option.some.inj h
    obtain ⟨a, vs, e, q, w⟩ := p
    exact ⟨a, vs, e, s.sub _ _ q, w⟩
  | hdl n =>
    have h' : (match O[n]? with | some (Ob.lst xs) => some xs | _ => none) = some xs := h
    split at h'
    · rename_i zs e
      obtain rfl : zs = xs := Option.some.inj h'
      obtain ⟨a, e1, e2, _, vs, e3, e4⟩ := hdl_at s p e
      exact ⟨a, vs, e1, e3, e4⟩
    · cases h'
  | rol ds => cases h
  | tup ds => cases h
  | non => cases h
  | bl b => cases h
  | int i => cases h
  | str z => cases h
theorem million {n : Nat} (h : n ≤ 1000000) : n ≤ sizeLine := Nat.le_trans h (by decide)
theorem million_lt {n : Nat} (h : n ≤ 1000000) : n < sizeLine := Nat.lt_of_le_of_lt h (by decide)
/-- a new list comes -/
theorem newL_post {W : WX} {σ : L2.St} {hm : Bool} {Q : VK} {vs : List V} (s : Rs K ad S r O H) (p : RpAll K S r xs vs) (q : Post K ad (fun S r => Rp K S r) W σ S r Q (newL hm xs O)) : vs.length ≤ sizeLine ∧ ∀ l, H l = none → Q (.ref l) (upd H l (.lst vs)) := by
  unfold newL at q
  split at q
  · rename_i hl
    refine ⟨by rw [p.length]; exact million hl, fun l hn => ?_⟩
    cases hm with
    | true =>
      rw [if_pos rfl] at q
      refine q S (r.push l) _ _ (Ext.push S r l) (s.push hn ⟨s.fresh hn, vs, upd_same, RpAll.mono (Ext.push S r l) _ _ p⟩) ⟨l, rfl, ?_⟩
      show (r.l ++ [l])[O.length]? = some l
      rw [← s.len, List.getElem?_append_right (Nat.le_refl _)]
      simp
    | false =>
      rw [if_neg Bool.false_ne_true] at q
      exact q _ r _ _ (Ext.new (s.fresh hn)) (s.seal hn) ⟨l, vs, rfl, upd_same, RpAll.mono (Ext.new (s.fresh hn)) _ _ p⟩
  · exact q.elim
/-- a new tuple comes -/
theorem newT_post {W : WX} {σ : L2.St} {Q : VK} {vs : List V} (s : Rs K ad S r O H) (p : RpAll K S r xs vs) (q : Post K ad (fun S r => Rp K S r) W σ S r Q (.ok (.tup xs) O)) : ∀ l, H l = none → Q (.ref l) (upd H l (.tup vs)) := fun l hn =>
  q _ r _ _ (Ext.new (s.fresh hn)) (s.seal hn) ⟨l, vs, rfl, .of upd_same, RpAll.mono (Ext.new (s.fresh hn)) _ _ p⟩
end

/-! ### operators by values -/
structure OpD (X : Cx) (ad : Str → Addr) (f : Value → Value → Sem Value) (g : Store → D → D → Option (D × Store)) : Prop where
  ok : ∃ rr, OpR X f rr ∧ ∀ (S : Hp) (r : Rg) (O : Store) (H : Hp) (x y : V) (d e : D) (W : WX) (σ : L2.St) (Q : VK), Rs X.K ad S r O H → Rp X.K S r d x → Rp X.K S r e y →
    Post X.K ad (fun S r => Rp X.K S r) W σ S r Q (ofO (g O d e)) → rr x y H Q
structure UnD (X : Cx) (ad : Str → Addr) (f : Value → Sem Value) (g : Store → D → Option (D × Store)) : Prop where
  ok : ∃ rr, UnR X f rr ∧ ∀ (S : Hp) (r : Rg) (O : Store) (H : Hp) (x : V) (d : D) (W : WX) (σ : L2.St) (Q : VK), Rs X.K ad S r O H → Rp X.K S r d x →
    Post X.K ad (fun S r => Rp X.K S r) W σ S r Q (ofO (g O d)) → rr x H Q
structure CallD (X : Cx) (ad : Str → Addr) (f : Value) (g : Store → List D → Option (D × Store)) : Prop where
  ok : ∃ rr, CallR X f rr ∧ ∀ (S : Hp) (r : Rg) (O : Store) (H : Hp) (vs : List V) (ds : List D) (W : WX) (σ : L2.St) (Q : VK), Rs X.K ad S r O H → RpAll X.K S r ds vs →
    Post X.K ad (fun S r => Rp X.K S r) W σ S r Q (ofO (g O ds)) → rr vs H Q

section
variable {X : Cx} {ad : Str → Addr} {J : JP} {W : WX} {pos : Pos} {a b c e : Expr} {es : List Expr} {ma mb mc : EM} {ta tb : TM} {mt : AM} {op op' : CmpOp} {bop : Operator}
  {g g' : Store → D → D → Option (D × Store)}
theorem de_var {x : Str} {i : Nat} (h : PE X (.Name x pos) (tVar i)) : PE X (.Name x pos) (tE X.K ad J W (mVar i)) := by
  refine pe_imp h ?_
  rintro σ H Q ⟨S, r, L, O, j, rl, rs, p⟩
  unfold mVar at p
  split at p
  · rename_i d q
    obtain ⟨v, q1, q2⟩ := rl.at_ i d q
    exact ⟨v, q1, p S r H v (Ext.refl S r) rs q2⟩
  · exact p.elim
theorem de_c {v : V} {d : D} (h : PE X e (tC v)) (k : ∀ S r, Rp X.K S r d v) : PE X e (tE X.K ad J W (mC d)) := by
  refine pe_imp h ?_
  rintro σ H Q ⟨S, r, L, O, j, rl, rs, p⟩
  exact p S r H v (Ext.refl S r) rs (k S r)
theorem de_int {i : Int} {j : Nat} : PE X (.Constant (.int i) j pos) (tE X.K ad J W (mC (.int i))) := de_c pe_int fun _ _ => rfl
theorem de_bl {i : Bool} {j : Nat} : PE X (.Constant (.bool i) j pos) (tE X.K ad J W (mC (.bl i))) := de_c pe_bl fun _ _ => rfl
theorem de_str {i : Str} {j : Nat} : PE X (.Constant (.str i) j pos) (tE X.K ad J W (mC (.str i))) := de_c pe_str fun _ _ => rfl
theorem de_non {j : Nat} : PE X (.Constant .none j pos) (tE X.K ad J W (mC .non)) := de_c pe_non fun _ _ => rfl
theorem de_op (ho : OpD X ad (binaryOp bop) g) (ha : PE X a (tE X.K ad J W ma)) (hb : PE X b (tE X.K ad J W mb)) : PE X (.BinOp a bop b pos) (tE X.K ad J W (mOp g ma mb)) := by
  obtain ⟨rr, h1, h2⟩ := ho.ok
  refine pe_imp (pe_op h1 ha hb) ?_
  rintro σ H Q ⟨S, r, L, O, j, rl, rs, p⟩
  refine ⟨S, r, L, O, j, rl, rs, (Post.bind p).imp ?_⟩
  rintro x H1 ⟨S1, r1, d, O1, e1, s1, p1, q1⟩
  refine ⟨S1, r1, L, O1, J.mono e1.s j, rl.mono e1, s1, (Post.bind q1).imp ?_⟩
  rintro y H2 ⟨S2, r2, e, O2, e2, s2, p2, q2⟩
  exact h2 S2 r2 O2 H2 x y d e W σ Q s2 (Rp.mono e2 d x p1) p2 q2
theorem de_cmp (ho : OpD X ad (compareOp op) g) (ha : PE X a (tE X.K ad J W ma)) (hb : PE X b (tE X.K ad J W mb)) (hm : behindInMarks op b = false) : PE X (.Compare a [op] [b] pos) (tE X.K ad J W (mOp g ma mb)) := by
  obtain ⟨rr, h1, h2⟩ := ho.ok
  refine pe_imp (pe_cmpR h1 ha hb hm) ?_
  rintro σ H Q ⟨S, r, L, O, j, rl, rs, p⟩
  refine ⟨S, r, L, O, j, rl, rs, (Post.bind p).imp ?_⟩
  rintro x H1 ⟨S1, r1, d, O1, e1, s1, p1, q1⟩
  refine ⟨S1, r1, L, O1, J.mono e1.s j, rl.mono e1, s1, (Post.bind q1).imp ?_⟩
  rintro y H2 ⟨S2, r2, e, O2, e2, s2, p2, q2⟩
  exact h2 S2 r2 O2 H2 x y d e W σ Q s2 (Rp.mono e2 d x p1) p2 q2
theorem test_imp {t : TE} {m : EM} (h : ∀ σ H Q, tE X.K ad J W m σ H Q → t σ H Q) : ∀ σ H Q, tT X.K ad J W (mTest m) σ H Q → tTest t σ H Q := by
  rintro σ H Q ⟨S, r, L, O, j, rl, rs, p⟩
  refine h σ H _ ⟨S, r, L, O, j, rl, rs, (Post.bind p).imp ?_⟩
  rintro x H1 ⟨S1, r1, d, O1, e1, s1, p1, q1⟩
  cases d with
  | bl b => exact ⟨b, p1, q1 S1 r1 H1 b (Ext.refl _ _) s1 rfl⟩
  | non => exact q1.elim
  | int i => exact q1.elim
  | str s => exact q1.elim
  | lst s => exact q1.elim
  | rol s => exact q1.elim
  | tup s => exact q1.elim
  | hdl s => exact q1.elim
theorem dt_cmp (ho : OpD X ad (compareOp op) g) (ha : PE X a (tE X.K ad J W ma)) (hb : PE X b (tE X.K ad J W mb)) (hm : behindInMarks op b = false) : PT X (.Compare a [op] [b] pos) (tT X.K ad J W (mTest (mOp g ma mb))) := by
  obtain ⟨rr, h1, h2⟩ := ho.ok
  refine pt_imp (pt_cmpR h1 ha hb hm) (test_imp ?_)
  rintro σ H Q ⟨S, r, L, O, j, rl, rs, p⟩
  refine ⟨S, r, L, O, j, rl, rs, (Post.bind p).imp ?_⟩
  rintro x H1 ⟨S1, r1, d, O1, e1, s1, p1, q1⟩
  refine ⟨S1, r1, L, O1, J.mono e1.s j, rl.mono e1, s1, (Post.bind q1).imp ?_⟩
  rintro y H2 ⟨S2, r2, e, O2, e2, s2, p2, q2⟩
  exact h2 S2 r2 O2 H2 x y d e W σ Q s2 (Rp.mono e2 d x p1) p2 q2
theorem chain_imp {rr rr' : R2} (h2 : ∀ (S : Hp) (r : Rg) (O : Store) (H : Hp) (x y : V) (d e : D) (W : WX) (σ : L2.St) (Q : VK), Rs X.K ad S r O H → Rp X.K S r d x → Rp X.K S r e y → Post X.K ad (fun S r => Rp X.K S r) W σ S r Q (ofO (g O d e)) → rr x y H Q)
    (h3 : ∀ (S : Hp) (r : Rg) (O : Store) (H : Hp) (x y : V) (d e : D) (W : WX) (σ : L2.St) (Q : VK), Rs X.K ad S r O H → Rp X.K S r d x → Rp X.K S r e y → Post X.K ad (fun S r => Rp X.K S r) W σ S r Q (ofO (g' O d e)) → rr' x y H Q) :
    ∀ σ H Q, tE X.K ad J W (mChain g g' ma mb mc) σ H Q → tChain rr rr' (tE X.K ad J W ma) (tE X.K ad J W mb) (tE X.K ad J W mc) σ H Q := by
  rintro σ H Q ⟨S, r, L, O, j, rl, rs, p⟩
  refine ⟨S, r, L, O, j, rl, rs, (Post.bind p).imp ?_⟩
  rintro x H1 ⟨S1, r1, d, O1, e1, s1, p1, q1⟩
  refine ⟨S1, r1, L, O1, J.mono e1.s j, rl.mono e1, s1, (Post.bind q1).imp ?_⟩
  rintro y H2 ⟨S2, r2, e, O2, e2, s2, p2, q2⟩
  refine h2 S2 r2 O2 H2 x y d e W σ _ s2 (Rp.mono e2 d x p1) p2 ((Post.bind q2).imp ?_)
  rintro z H3 ⟨S3, r3, f, O3, e3, s3, p3, q3⟩
  cases f with
  | bl k =>
    refine ⟨k, p3, ?_⟩
    cases k with
    | true =>
      rw [if_pos rfl]
      refine ⟨S3, r3, L, O3, J.mono (e1.trans (e2.trans e3)).s j, rl.mono (e1.trans (e2.trans e3)), s3, (Post.bind q3).imp ?_⟩
      rintro w H4 ⟨S4, r4, f, O4, e4, s4, p4, q4⟩
      exact h3 S4 r4 O4 H4 y w e f W σ Q s4 (Rp.mono (e3.trans e4) e y p2) p4 q4
    | false =>
      rw [if_neg Bool.false_ne_true]
      exact q3 S3 r3 H3 _ (Ext.refl _ _) s3 rfl
  | non => exact q3.elim
  | int i => exact q3.elim
  | str s => exact q3.elim
  | lst s => exact q3.elim
  | rol s => exact q3.elim
  | tup s => exact q3.elim
  | hdl s => exact q3.elim
theorem de_chain (ho : OpD X ad (compareOp op) g) (ho' : OpD X ad (compareOp op') g') (ha : PE X a (tE X.K ad J W ma)) (hb : PE X b (tE X.K ad J W mb)) (hc : PE X c (tE X.K ad J W mc)) (hm : lastMarks [op, op'] [b, c] = false := by rfl) : PE X (.Compare a [op, op'] [b, c] pos) (tE X.K ad J W (mChain g g' ma mb mc)) := by
  obtain ⟨rr, h1, h2⟩ := ho.ok
  obtain ⟨rr', h1', h2'⟩ := ho'.ok
  exact pe_imp (pe_chain h1 h1' ha hb hc hm) (chain_imp h2 h2')
theorem dt_chain (ho : OpD X ad (compareOp op) g) (ho' : OpD X ad (compareOp op') g') (ha : PE X a (tE X.K ad J W ma)) (hb : PE X b (tE X.K ad J W mb)) (hc : PE X c (tE X.K ad J W mc)) (hm : lastMarks [op, op'] [b, c] = false := by rfl) : PT X (.Compare a [op, op'] [b, c] pos) (tT X.K ad J W (mTest (mChain g g' ma mb mc))) := by
  obtain ⟨rr, h1, h2⟩ := ho.ok
  obtain ⟨rr', h1', h2'⟩ := ho'.ok
  exact pt_imp (pt_chain h1 h1' ha hb hc hm) (test_imp (chain_imp h2 h2'))
theorem dt_val (h : PE X e (tE X.K ad J W ma)) (he : ∀ whole, isTrue e X.env whole = (do let v ← whole; standAt e.pos; holding [v] (truthy v)) := by intro _; rfl) : PT X e (tT X.K ad J W (mTest ma)) := by
  refine pt_imp (pt_val h he) ?_
  intro σ H Q q
  exact test_imp (J := J) (W := W) (fun _ _ _ z => z) σ H Q q
theorem dt_truth (h : PE X e (tE X.K ad J W ma)) (he : ∀ whole, isTrue e X.env whole = (do let v ← whole; standAt e.pos; holding [v] (truthy v)) := by intro _; rfl) : PT X e (tT X.K ad J W (mTru ma)) := by
  refine pt_imp (pt_truth h he) ?_
  rintro σ H Q ⟨S, r, L, O, j, rl, rs, p⟩
  refine ⟨S, r, L, O, j, rl, rs, (Post.bind p).imp ?_⟩
  rintro x H1 ⟨S1, r1, d, O1, e1, s1, p1, q1⟩
  have emp : ∀ {ds : List D} {vs : List V}, RpAll X.K S1 r1 ds vs → (!ds.isEmpty) = !vs.isEmpty := fun {ds vs} h => by
    cases ds with
    | nil => rw [show vs = [] from h]; rfl
    | cons d ds => obtain ⟨v, vr, rfl, _⟩ := h; rfl
  have empP : ∀ {ds : List (Key × D)} {vs : List (Key × V)}, RpP X.K S1 r1 ds vs → (!ds.isEmpty) = !vs.isEmpty := fun {ds vs} h => by
    cases ds with
    | nil => rw [show vs = [] from h]; rfl
    | cons d ds => obtain ⟨v, vr, rfl, _⟩ := h; rfl
  cases hd : truD O1 d with
  | none => rw [hd] at q1; exact q1.elim
  | some k =>
    rw [hd] at q1
    refine ⟨k, ?_, q1 S1 r1 H1 k (Ext.refl _ _) s1 rfl⟩
    cases d with
    | non => rw [show x = .non from p1]; exact (Option.some.inj hd).symm
    | bl b => rw [show x = .bl b from p1]; exact (Option.some.inj hd).symm
    | int i => rw [show x = .int i from p1]; exact (Option.some.inj hd).symm
    | str s =>
      rw [show x = .str s from p1]
      have hd' : (if s.length ≤ 1000000 then some ((s.length : Int) != 0) else none) = some k := hd
      split at hd'
      · rename_i hl
        exact ⟨million hl, (Option.some.inj hd').symm⟩
      · cases hd'
    | lst s =>
      obtain ⟨a, vs, rfl, q, w⟩ := p1
      exact .inl ⟨vs, .of (s1.sub _ _ q), by rw [← emp w]; exact (Option.some.inj hd).symm⟩
    | rol s =>
      obtain ⟨a, vs, rfl, q, w⟩ := p1
      exact .inl ⟨vs, sqL_same s1.sub q, by rw [← emp w]; exact (Option.some.inj hd).symm⟩
    | tup s =>
      obtain ⟨a, vs, rfl, q, w⟩ := p1
      exact .inr (.inl ⟨vs, sqT_same s1.sub q, by rw [← emp w]; exact (Option.some.inj hd).symm⟩)
    | hdl n =>
      have hd' : (match O1[n]? with | some (Ob.lst xs) => some (!xs.isEmpty) | some (Ob.dct xs) => some (!xs.isEmpty) | _ => none) = some k := hd
      split at hd'
      · rename_i zs e
        obtain ⟨a, rfl, e2, _, vs, e3, e4⟩ := hdl_at s1 p1 e
        exact .inl ⟨vs, .of e3, by rw [← emp e4]; exact (Option.some.inj hd').symm⟩
      · rename_i zs e
        obtain ⟨a, rfl, e2, _, vs, e3, e4⟩ := hdl_at s1 p1 e
        exact .inr (.inr ⟨vs, e3, by rw [← empP e4]; exact (Option.some.inj hd').symm⟩)
      · cases hd'
theorem PW.imp' {t t' : TT} (h : PW X e t) (k : ∀ σ H Q, t' σ H Q → t σ H Q) : PW X e t' := ⟨fun wh pins s σ H Q I q => h.run wh pins s σ H Q I (k σ H Q q)⟩
theorem and_imp : ∀ σ H Q, tT X.K ad J W (mAnd ta tb) σ H Q → tAnd (tT X.K ad J W ta) (tT X.K ad J W tb) σ H Q := by
  rintro σ H Q ⟨S, r, L, O, j, rl, rs, p⟩
  refine ⟨S, r, L, O, j, rl, rs, (Post.bind p).imp ?_⟩
  rintro k H1 ⟨S1, r1, d, O1, e1, s1, rfl, q1⟩
  cases k with
  | true =>
    rw [if_pos rfl] at q1 ⊢
    exact ⟨S1, r1, L, O1, J.mono e1.s j, rl.mono e1, s1, q1⟩
  | false =>
    rw [if_neg Bool.false_ne_true] at q1 ⊢
    exact q1 S1 r1 H1 false (Ext.refl _ _) s1 rfl
theorem or_imp : ∀ σ H Q, tT X.K ad J W (mOr ta tb) σ H Q → tOr (tT X.K ad J W ta) (tT X.K ad J W tb) σ H Q := by
  rintro σ H Q ⟨S, r, L, O, j, rl, rs, p⟩
  refine ⟨S, r, L, O, j, rl, rs, (Post.bind p).imp ?_⟩
  rintro k H1 ⟨S1, r1, d, O1, e1, s1, rfl, q1⟩
  cases k with
  | false =>
    rw [if_neg Bool.false_ne_true] at q1 ⊢
    exact ⟨S1, r1, L, O1, J.mono e1.s j, rl.mono e1, s1, q1⟩
  | true =>
    rw [if_pos rfl] at q1 ⊢
    exact q1 S1 r1 H1 true (Ext.refl _ _) s1 rfl
theorem dw_and1 (ha : PT X a (tT X.K ad J W ta)) : PW X (.BoolOp .And [a] pos) (tT X.K ad J W ta) := pw_and1 ha
theorem dw_or1 (ha : PT X a (tT X.K ad J W ta)) : PW X (.BoolOp .Or [a] pos) (tT X.K ad J W ta) := pw_or1 ha
theorem dw_and (ha : PT X a (tT X.K ad J W ta)) (hb : PW X (.BoolOp .And (b :: es) pos) (tT X.K ad J W tb)) : PW X (.BoolOp .And (a :: b :: es) pos) (tT X.K ad J W (mAnd ta tb)) := PW.imp' (pw_and ha hb) and_imp
theorem dw_or (ha : PT X a (tT X.K ad J W ta)) (hb : PW X (.BoolOp .Or (b :: es) pos) (tT X.K ad J W tb)) : PW X (.BoolOp .Or (a :: b :: es) pos) (tT X.K ad J W (mOr ta tb)) := PW.imp' (pw_or ha hb) or_imp
theorem dt_not (ha : PT X a (tT X.K ad J W ta)) : PT X (.UnaryOp .Not a pos) (tT X.K ad J W (mNot ta)) := by
  refine pt_imp (pt_not ha) ?_
  rintro σ H Q ⟨S, r, L, O, j, rl, rs, p⟩
  refine ⟨S, r, L, O, j, rl, rs, (Post.bind p).imp ?_⟩
  rintro k H1 ⟨S1, r1, d, O1, e1, s1, rfl, q1⟩
  exact q1 S1 r1 H1 _ (Ext.refl _ _) s1 rfl
theorem de_if (hc : PT X c (tT X.K ad J W ta)) (ha : PE X a (tE X.K ad J W ma)) (hb : PE X b (tE X.K ad J W mb)) : PE X (.IfExp c a b pos) (tE X.K ad J W (mIf ta ma mb)) := by
  refine pe_imp (pe_ifExp hc ha hb) ?_
  rintro σ H Q ⟨S, r, L, O, j, rl, rs, p⟩
  refine ⟨S, r, L, O, j, rl, rs, (Post.bind p).imp ?_⟩
  rintro k H1 ⟨S1, r1, d, O1, e1, s1, rfl, q1⟩
  cases k with
  | false =>
    rw [if_neg Bool.false_ne_true] at q1 ⊢
    exact ⟨S1, r1, L, O1, J.mono e1.s j, rl.mono e1, s1, q1⟩
  | true =>
    rw [if_pos rfl] at q1 ⊢
    exact ⟨S1, r1, L, O1, J.mono e1.s j, rl.mono e1, s1, q1⟩
theorem de_and1 (ha : PE X a (tE X.K ad J W ma)) {bo : BoolOp} : PE X (.BoolOp bo [a] pos) (tE X.K ad J W ma) := pe_one ha
theorem de_and (ha : PE X a (tE X.K ad J W ma)) (hb : PE X (.BoolOp .And (b :: es) pos) (tE X.K ad J W mb)) : PE X (.BoolOp .And (a :: b :: es) pos) (tE X.K ad J W (mAndV ma mb)) := by
  refine pe_imp (pe_and ha hb) ?_
  rintro σ H Q ⟨S, r, L, O, j, rl, rs, p⟩
  refine ⟨S, r, L, O, j, rl, rs, (Post.bind p).imp ?_⟩
  rintro x H1 ⟨S1, r1, d, O1, e1, s1, p1, q1⟩
  cases d with
  | bl k =>
    refine ⟨k, p1, ?_⟩
    cases k with
    | true =>
      rw [if_pos rfl]
      exact ⟨S1, r1, L, O1, J.mono e1.s j, rl.mono e1, s1, q1⟩
    | false =>
      rw [if_neg Bool.false_ne_true]
      exact q1 S1 r1 H1 _ (Ext.refl _ _) s1 rfl
  | non => exact q1.elim
  | int i => exact q1.elim
  | str s => exact q1.elim
  | lst s => exact q1.elim
  | rol s => exact q1.elim
  | tup s => exact q1.elim
  | hdl s => exact q1.elim
theorem de_or (ha : PE X a (tE X.K ad J W ma)) (hb : PE X (.BoolOp .Or (b :: es) pos) (tE X.K ad J W mb)) : PE X (.BoolOp .Or (a :: b :: es) pos) (tE X.K ad J W (mOrV ma mb)) := by
  refine pe_imp (pe_or ha hb) ?_
  rintro σ H Q ⟨S, r, L, O, j, rl, rs, p⟩
  refine ⟨S, r, L, O, j, rl, rs, (Post.bind p).imp ?_⟩
  rintro x H1 ⟨S1, r1, d, O1, e1, s1, p1, q1⟩
  cases d with
  | bl k =>
    refine ⟨k, p1, ?_⟩
    cases k with
    | false =>
      rw [if_neg Bool.false_ne_true]
      exact ⟨S1, r1, L, O1, J.mono e1.s j, rl.mono e1, s1, q1⟩
    | true =>
      rw [if_pos rfl]
      exact q1 S1 r1 H1 _ (Ext.refl _ _) s1 rfl
  | non => exact q1.elim
  | int i => exact q1.elim
  | str s => exact q1.elim
  | lst s => exact q1.elim
  | rol s => exact q1.elim
  | tup s => exact q1.elim
  | hdl s => exact q1.elim
theorem de_not (ha : PE X a (tE X.K ad J W ma)) : PE X (.UnaryOp .Not a pos) (tE X.K ad J W (mNotV ma)) := by
  refine pe_imp (pe_not ha) ?_
  rintro σ H Q ⟨S, r, L, O, j, rl, rs, p⟩
  refine ⟨S, r, L, O, j, rl, rs, (Post.bind p).imp ?_⟩
  rintro x H1 ⟨S1, r1, d, O1, e1, s1, p1, q1⟩
  cases d with
  | bl k => exact ⟨k, p1, q1 S1 r1 H1 _ (Ext.refl _ _) s1 rfl⟩
  | non => exact q1.elim
  | int i => exact q1.elim
  | str s => exact q1.elim
  | lst s => exact q1.elim
  | rol s => exact q1.elim
  | tup s => exact q1.elim
  | hdl s => exact q1.elim
theorem de_un {uop : UnaryOp} {gu : Store → D → Option (D × Store)} (ho : UnD X ad (unaryOp uop) gu) (ha : PE X a (tE X.K ad J W ma)) (hne : PE X (.UnaryOp uop a pos) (tUn (Classical.choose ho.ok) (tE X.K ad J W ma))) : PE X (.UnaryOp uop a pos) (tE X.K ad J W (mUn gu ma)) := by
  have h2 := (Classical.choose_spec ho.ok).2
  refine pe_imp hne ?_
  rintro σ H Q ⟨S, r, L, O, j, rl, rs, p⟩
  refine ⟨S, r, L, O, j, rl, rs, (Post.bind p).imp ?_⟩
  rintro x H1 ⟨S1, r1, d, O1, e1, s1, p1, q1⟩
  exact h2 S1 r1 O1 H1 x d W σ Q s1 p1 q1
theorem da_nil : PA X [] (tA X.K ad J W mNil) := by
  refine pa_imp pa_nil ?_
  rintro σ H Q ⟨S, r, L, O, j, rl, rs, p⟩
  exact p S r H [] (Ext.refl _ _) rs rfl
theorem da_cons (he : PE X e (tE X.K ad J W ma)) (ht : PA X es (tA X.K ad J W mt)) (hs : starEach (e :: es) X.env = (false, eval e X.env) :: starEach es X.env := by rfl) : PA X (e :: es) (tA X.K ad J W (mCons ma mt)) := by
  refine pa_imp (pa_cons he ht hs) ?_
  rintro σ H Q ⟨S, r, L, O, j, rl, rs, p⟩
  refine ⟨S, r, L, O, j, rl, rs, (Post.bind p).imp ?_⟩
  rintro x H1 ⟨S1, r1, d, O1, e1, s1, p1, q1⟩
  refine ⟨S1, r1, L, O1, J.mono e1.s j, rl.mono e1, s1, (Post.bind q1).imp ?_⟩
  rintro xs H2 ⟨S2, r2, ds, O2, e2, s2, p2, q2⟩
  exact q2 S2 r2 H2 _ (Ext.refl _ _) s2 (.cons (Rp.mono e2 d x p1) p2)
theorem de_tup {k : Nat} (h : PA X es (tA X.K ad J W mt)) : PE X (.Tuple es k pos) (tE X.K ad J W (mTup mt)) := by
  refine pe_imp (pe_tup h) ?_
  rintro σ H Q ⟨S, r, L, O, j, rl, rs, p⟩
  refine ⟨S, r, L, O, j, rl, rs, (Post.bind p).imp ?_⟩
  rintro xs H1 ⟨S1, r1, ds, O1, e1, s1, p1, q1⟩
  have q1 : Post X.K ad (fun S r => Rp X.K S r) W σ S1 r1 Q (if ds.length ≤ 1000000 then .ok (.tup ds) O1 else .bad) := q1
  split at q1
  · rename_i hl
    exact ⟨by rw [p1.length]; exact million hl, newT_post s1 p1 q1⟩
  · exact q1.elim
theorem de_lst {hm : Bool} (h : PA X es (tA X.K ad J W mt)) : PE X (.List es pos) (tE X.K ad J W (mLst hm mt)) := by
  refine pe_imp (pe_lst h) ?_
  rintro σ H Q ⟨S, r, L, O, j, rl, rs, p⟩
  refine ⟨S, r, L, O, j, rl, rs, (Post.bind p).imp ?_⟩
  rintro xs H1 ⟨S1, r1, ds, O1, e1, s1, p1, q1⟩
  exact newL_post s1 p1 q1
theorem de_callB {gc : Store → List D → Option (D × Store)} {x : Str} {id : String} {p : Pos} (hc : CallD X ad (.builtin id) gc) (hg : Gl X x) (hm : X.mg x = none) (hv : bootBuiltins x = some (.builtin id)) (ha : PA X (e :: es) (tA X.K ad J W mt))
    (hn : x ≠ "__name__" := by decide) (hdb : (x == ("__debug__" : Str)) = false := by decide)
    (he : starEach (e :: es) X.env = (false, eval e X.env) :: starEach es X.env := by rfl) (hpl : (backTo pos (starEach es X.env)).any (·.1) = false := by rfl) : PE X (.Call (.Name x p) (e :: es) [] pos) (tE X.K ad J W (mCall gc mt)) := by
  obtain ⟨rr, h1, h2⟩ := hc.ok
  refine pe_imp (pe_callB h1 hg hm hv ha hn hdb he hpl) ?_
  rintro σ H Q ⟨S, r, L, O, j, rl, rs, p⟩
  refine ⟨S, r, L, O, j, rl, rs, (Post.bind p).imp ?_⟩
  rintro xs H1 ⟨S1, r1, ds, O1, e1, s1, p1, q1⟩
  exact h2 S1 r1 O1 H1 xs ds W σ Q s1 p1 q1
theorem de_callTy {gc : Store → List D → Option (D × Store)} {x : Str} {T : String} {p : Pos} (hc : CallD X ad (.type T) gc) (hg : Gl X x) (hm : X.mg x = none) (hv : bootBuiltins x = some (.type T)) (ha : PA X (e :: es) (tA X.K ad J W mt))
    (hn : x ≠ "__name__" := by decide) (hdb : (x == ("__debug__" : Str)) = false := by decide)
    (he : starEach (e :: es) X.env = (false, eval e X.env) :: starEach es X.env := by rfl) (hpl : (backTo pos (starEach es X.env)).any (·.1) = false := by rfl) : PE X (.Call (.Name x p) (e :: es) [] pos) (tE X.K ad J W (mCall gc mt)) := by
  obtain ⟨rr, h1, h2⟩ := hc.ok
  refine pe_imp (pe_callTy h1 hg hm hv ha hn hdb he hpl) ?_
  rintro σ H Q ⟨S, r, L, O, j, rl, rs, p⟩
  refine ⟨S, r, L, O, j, rl, rs, (Post.bind p).imp ?_⟩
  rintro xs H1 ⟨S1, r1, ds, O1, e1, s1, p1, q1⟩
  exact h2 S1 r1 O1 H1 xs ds W σ Q s1 p1 q1
/-- a def of the text is called -/
theorem spM_of {n : Nat} {f : FM} {S : Hp} {r : Rg} {O : Store} {H : Hp} {ds : List D} {vs : List V} {σ : L2.St} {Q : VK} (hl : ds.length = n) (s : Rs X.K ad S r O H) (p : RpAll X.K S r ds vs) (q : Post X.K ad (fun S r => Rp X.K S r) W σ S r Q (f ds O)) : spM X.K ad n f vs H Q (WE W σ) := by
  refine ⟨S, r, O, ds, hl, s, p, ?_⟩
  generalize f ds O = z at q
  cases z with
  | ok a O => exact q
  | exc x O => exact q
  | bad => exact q
/-- the number of arguments is checked by the mirror -/
def arity (n : Nat) (f : FM) : FM := fun ds O => if ds.length = n then f ds O else .bad
theorem spM_ar {n : Nat} {f : FM} {S : Hp} {r : Rg} {O : Store} {H : Hp} {ds : List D} {vs : List V} {σ : L2.St} {Q : VK} (s : Rs X.K ad S r O H) (p : RpAll X.K S r ds vs) (q : Post X.K ad (fun S r => Rp X.K S r) W σ S r Q (arity n f ds O)) : spM X.K ad n f vs H Q (WE W σ) := by
  unfold arity at q
  split at q
  · rename_i hl
    exact spM_of hl s p q
  · exact q.elim
theorem de_call {k n : Nat} {f : Addr} {fd : FuncData} {ps : List Str} {m : FM} {dvs : List V} {dds : List D} {ds : List Value} {x : Str} {p : Pos} (F : FnOk X.prog X.w X.K X.mg X.base (L2.CX X.prog X.w) k f fd ps (spM X.K ad n m)) (hr : Room k X.A) (hg : Gl X x) (hm : X.mg x = some (.ref f)) (hk : PySem.W.keepIn X.K (.ref f) = true)
    (hb : Binds X.K fd ps ds) (hd : Vals dvs ds) (hdd : ∀ S r, RpAll X.K S r dds dvs) (tk : Takes X W) (ha : PA X (e :: es) (tA X.K ad J W mt)) (hdb : (x == ("__debug__" : Str)) = false := by decide)
    (he : starEach (e :: es) X.env = (false, eval e X.env) :: starEach es X.env := by rfl) (hpl : (backTo pos (starEach es X.env)).any (·.1) = false := by rfl) :
    PE X (.Call (.Name x p) (e :: es) [] pos) (tE X.K ad J W (mFn (arity n m) dds mt)) := by
  refine pe_imp (pe_callSD F hr hg hm hk hb hd (fun σ => passAt tk σ) ha hdb he hpl) ?_
  rintro σ H Q ⟨S, r, L, O, j, rl, rs, p⟩
  refine ⟨S, r, L, O, j, rl, rs, (Post.bind p).imp ?_⟩
  rintro xs H1 ⟨S1, r1, ds, O1, e1, s1, p1, q1⟩
  exact spM_ar s1 (p1.append (hdd S1 r1)) q1
end
end DK
end
section
set_option Elab.async false
set_option linter.all false
set_option autoImplicit false
set_option maxRecDepth 100000
set_option maxHeartbeats 4000000
/-! DKStm: statements, loops, defs, by mirrors. -/
namespace DK
open PySem L2

def ofRes {α : Type} (L : Loc) (x : Res α) (f : α → Store → SR) : SR := match x with
  | .ok a O => f a O
  | .exc x O => .exc x L O
  | .bad => .bad
def sNext : SM := fun L O => .next L O
def sSeq (a b : SM) : SM := fun L O => match a L O with
  | .next L1 O1 => b L1 O1
  | .ret d O1 => .ret d O1
  | .brk L1 O1 => .brk L1 O1
  | .cnt L1 O1 => .cnt L1 O1
  | .exc x L1 O1 => .exc x L1 O1
  | .bad => .bad
def sDrop (m : EM) : SM := fun L O => ofRes L (m L O) fun _ O1 => .next L O1
def sRet (m : EM) : SM := fun L O => ofRes L (m L O) fun d O1 => .ret d O1
def sRetN : SM := fun _ O => .ret .non O
def sIf (t : TM) (a b : SM) : SM := fun L O => ofRes L (t L O) fun c O1 => if c = true then a L O1 else b L O1
def sBrk : SM := fun L O => .brk L O
def sCnt : SM := fun L O => .cnt L O
/-- a target: what a value makes of slots and store -/
abbrev BM := D → Loc → Store → Option (Loc × Store)
abbrev BsM := List D → Loc → Store → Option (Loc × Store)
def bName (i : Nat) : BM := fun d L O => some (L.set i (some d), O)
def bNil : BsM := fun ds L O => match ds with
  | [] => some (L, O)
  | _ => none
def bCons (b : BM) (c : BsM) : BsM := fun ds L O => match ds with
  | d :: ds => (b d L O).bind fun p => c ds p.1 p.2
  | [] => none
def bTup (n : Nat) (c : BsM) : BM := fun d L O => match d with
  | .tup ds => if ds.length = n then c ds L O else none
  | _ => none
def ofB : Option (Loc × Store) → SR
  | some p => .next p.1 p.2
  | none => .bad
def sAsg (m : EM) (b : BM) : SM := fun L O => ofRes L (m L O) fun d O1 => ofB (b d L O1)
/-- a turn of a loop -/
def turnOf (b : BM) (body : SM) (d : D) : SM := fun L O => match b d L O with
  | some p => body p.1 p.2
  | none => .bad
def loopD (turn : D → SM) : List D → SM
  | [], L, O => .next L O
  | d :: ds, L, O => match turn d L O with
    | .next L1 O1 => loopD turn ds L1 O1
    | .cnt L1 O1 => loopD turn ds L1 O1
    | .brk L1 O1 => .next L1 O1
    | .ret d O1 => .ret d O1
    | .exc x L1 O1 => .exc x L1 O1
    | .bad => .bad
/-- over a list of the store -/
def loopH (turn : D → SM) (n : Nat) : Nat → Nat → SM
  | 0, i, L, O => match O[n]? with
    | some (.lst xs) => if xs.length ≤ i then .next L O else .bad
    | _ => .bad
  | k + 1, i, L, O => match O[n]? with
    | some (.lst xs) => match xs[i]? with
      | some d => match turn d L O with
        | .next L1 O1 => loopH turn n k (i + 1) L1 O1
        | .cnt L1 O1 => loopH turn n k (i + 1) L1 O1
        | .brk L1 O1 => .next L1 O1
        | .ret d O1 => .ret d O1
        | .exc x L1 O1 => .exc x L1 O1
        | .bad => .bad
      | none => .next L O
    | _ => .bad
def sForL (m : EM) (b : BM) (body : SM) : SM := fun L O => ofRes L (m L O) fun d O1 => match d with
  | .lst ds => loopD (turnOf b body) ds L O1
  | .rol ds => loopD (turnOf b body) ds L O1
  | .hdl n => match O1[n]? with
    | some (.lst xs) => loopH (turnOf b body) n xs.length 0 L O1
    | _ => .bad
  | _ => .bad
def sForT (m : EM) (b : BM) (body : SM) : SM := fun L O => ofRes L (m L O) fun d O1 => match d with
  | .tup ds => loopD (turnOf b body) ds L O1
  | _ => .bad
def rangeD (lo : Int) (n : Nat) : List D := (List.range n).map fun (i : Nat) => .int (lo + (i : Int))
def int1 : List D → Option Int
  | [.int j] => if -1000000000000 ≤ j ∧ j ≤ 1000000000000 then some j else none
  | _ => none
def int2 : List D → Option (Int × Int)
  | [.int i, .int j] => if (-1000000000000 ≤ i ∧ i ≤ 1000000000000) ∧ (-1000000000000 ≤ j ∧ j ≤ 1000000000000) then some (i, j) else none
  | _ => none
theorem int1_ok {ds : List D} {j : Int} (h : int1 ds = some j) : ds = [.int j] ∧ -1000000000000 ≤ j ∧ j ≤ 1000000000000 := by
  unfold int1 at h
  split at h
  · split at h
    · cases h; exact ⟨rfl, by assumption⟩
    · cases h
  · cases h
theorem int2_ok {ds : List D} {p : Int × Int} (h : int2 ds = some p) : ds = [.int p.1, .int p.2] ∧ (-1000000000000 ≤ p.1 ∧ p.1 ≤ 1000000000000) ∧ (-1000000000000 ≤ p.2 ∧ p.2 ≤ 1000000000000) := by
  unfold int2 at h
  split at h
  · split at h
    · cases h; exact ⟨rfl, by assumption⟩
    · cases h
  · cases h
def sForR1 (t : AM) (b : BM) (body : SM) : SM := fun L O => ofRes L (t L O) fun ds O1 => match int1 ds with
  | some j => loopD (turnOf b body) (rangeD 0 j.toNat) L O1
  | none => .bad
def sForR2 (t : AM) (b : BM) (body : SM) : SM := fun L O => ofRes L (t L O) fun ds O1 => match int2 ds with
  | some p => loopD (turnOf b body) (rangeD p.1 (p.2 - p.1).toNat) L O1
  | none => .bad
def loopW (c : TM) (b : SM) : Nat → SM
  | 0, _, _ => .bad
  | n + 1, L, O => ofRes L (c L O) fun k O1 => if k = true then (match b L O1 with
    | .next L2 O2 => loopW c b n L2 O2
    | .cnt L2 O2 => loopW c b n L2 O2
    | .brk L2 O2 => .next L2 O2
    | .ret d O2 => .ret d O2
    | .exc x L2 O2 => .exc x L2 O2
    | .bad => .bad) else .next L O1
def sWhile (n : Nat) (c : TM) (b : SM) : SM := loopW c b n
/-- a def by its body -/
def runF (n : Nat) (b : SM) : FM := fun ds O => match b (ds.map some ++ List.replicate (n - ds.length) none) O with
  | .next _ O1 => .ok .non O1
  | .ret d O1 => .ok d O1
  | .exc x _ O1 => .exc x O1
  | _ => .bad

section
variable {K : PySem.W.Frag} {ad : Str → Addr} {J : JP} {W : WX} {S S' : Hp} {r r' : Rg} {En : Ends} {L : Loc} {σ : L2.St} {α β : Type} {rep : Hp → Rg → α → β → Prop}
theorem PostS.mono {x : SR} (e : Ext S r S' r') (h : PostS K ad J W S r En x) : PostS K ad J W S' r' En x := by
  cases x with
  | next L O => exact fun S2 r2 σ H e2 => h S2 r2 σ H (e.trans e2)
  | ret d O => exact fun S2 r2 H v e2 => h S2 r2 H v (e.trans e2)
  | brk L O => exact fun S2 r2 σ H e2 => h S2 r2 σ H (e.trans e2)
  | cnt L O => exact fun S2 r2 σ H e2 => h S2 r2 σ H (e.trans e2)
  | exc x L O => exact fun S2 r2 σ H d e2 => h S2 r2 σ H d (e.trans e2)
  | bad => exact h
theorem bindS {x : Res α} {f : α → Store → SR} (j : J.p σ S) (rl : Rl K S r L σ) (h : PostS K ad J W S r En (ofRes L x f)) :
    Post K ad rep W σ S r (fun v H => ∃ S' r' a O, Ext S r S' r' ∧ Rs K ad S' r' O H ∧ rep S' r' a v ∧ PostS K ad J W S' r' En (f a O)) x := by
  cases x with
  | ok a O => exact fun S2 r2 H v e2 s p => ⟨S2, r2, a, O, e2, s, p, PostS.mono e2 h⟩
  | exc a O => exact fun S2 r2 H d e2 s p => h S2 r2 σ H d e2 (J.mono e2.s j) (rl.mono e2) s p
  | bad => exact h
theorem Rl.set {d : D} {v : V} (i : Nat) (h : Rl K S r L σ) (p : Rp K S r d v) : Rl K S r (L.set i (some d)) (σ.set i (some v)) where
  len := by rw [List.length_set, List.length_set]; exact h.len
  at_ := fun j e q => by
    by_cases hj : i = j
    · subst hj
      by_cases hl : i < L.length
      · rw [List.getElem?_set_self hl] at q
        cases q
        exact ⟨v, List.getElem?_set_self (by rw [h.len]; exact hl), p⟩
      · rw [List.getElem?_eq_none (by rw [List.length_set]; omega)] at q
        cases q
    · rw [List.getElem?_set_ne hj] at q
      rw [List.getElem?_set_ne hj]
      exact h.at_ j e q
theorem Rl.wipe (i : Nat) (o : Option V) (h : Rl K S r L σ) : Rl K S r (L.set i none) (σ.set i o) where
  len := by rw [List.length_set, List.length_set]; exact h.len
  at_ := fun j e q => by
    by_cases hj : i = j
    · subst hj
      by_cases hl : i < L.length
      · rw [List.getElem?_set_self hl] at q
        cases q
      · rw [List.getElem?_eq_none (by rw [List.length_set]; omega)] at q
        cases q
    · rw [List.getElem?_set_ne hj] at q
      rw [List.getElem?_set_ne hj]
      exact h.at_ j e q
end

abbrev JT : JP := ⟨fun _ _ => True, fun _ _ => trivial⟩
/-! ### small statements -/
section
variable {X : Cx} {ad : Str → Addr} {J : JP} {W : WX} {pos : Pos} {a b c e tg iter : Expr} {es : List Expr} {m : EM} {mt : AM} {tm : TM} {st : Stmt} {rest body els : List Stmt} {s1 s2 : SM} {bm : BM} {bs : BsM}
theorem dss_nil : PSs X [] (tS X.K ad J W sNext) := by
  refine pss_imp pss_nil ?_
  rintro En σ H ⟨S, r, L, O, j, rl, rs, p⟩
  exact p S r σ H (Ext.refl _ _) j rl rs
theorem dss_cons (h1 : PS X st (tS X.K ad J W s1)) (h2 : PSs X rest (tS X.K ad J W s2)) : PSs X (st :: rest) (tS X.K ad J W (sSeq s1 s2)) := by
  refine pss_imp (pss_cons h1 h2) ?_
  rintro En σ H ⟨S, r, L, O, j, rl, rs, p⟩
  refine ⟨S, r, L, O, j, rl, rs, ?_⟩
  unfold sSeq at p
  generalize s1 L O = z at p
  cases z with
  | next L1 O1 => exact fun S1 r1 σ1 H1 e1 j1 l1 q1 => ⟨S1, r1, L1, O1, j1, l1, q1, PostS.mono e1 p⟩
  | ret d O1 => exact p
  | brk L1 O1 => exact p
  | cnt L1 O1 => exact p
  | exc x L1 O1 => exact p
  | bad => exact p
theorem dss_one (h1 : PS X st (tS X.K ad J W s1)) : PSs X [st] (tS X.K ad J W s1) := pss_one h1
theorem ds_pass : PS X (.Pass pos) (tS X.K ad J W sNext) := by
  refine ps_imp ps_pass ?_
  rintro En σ H ⟨S, r, L, O, j, rl, rs, p⟩
  exact p S r σ H (Ext.refl _ _) j rl rs
theorem ds_break : PS X (.Break pos) (tS X.K ad J W sBrk) := by
  refine ps_imp ps_break ?_
  rintro En σ H ⟨S, r, L, O, j, rl, rs, p⟩
  exact p S r σ H (Ext.refl _ _) j rl rs
theorem ds_continue : PS X (.Continue pos) (tS X.K ad J W sCnt) := by
  refine ps_imp ps_continue ?_
  rintro En σ H ⟨S, r, L, O, j, rl, rs, p⟩
  exact p S r σ H (Ext.refl _ _) j rl rs
theorem ds_expr (he : PE X e (tE X.K ad J W m)) (hs : swapsWith e none pos.line X.env = pure false := by rfl) : PS X (.Expr e pos) (tS X.K ad J W (sDrop m)) := by
  refine ps_imp (ps_expr he hs) ?_
  rintro En σ H ⟨S, r, L, O, j, rl, rs, p⟩
  refine ⟨S, r, L, O, j, rl, rs, (bindS j rl p).imp ?_⟩
  rintro x H1 ⟨S1, r1, d, O1, e1, q1, p1, k1⟩
  exact k1 S1 r1 σ H1 (Ext.refl _ _) (J.mono e1.s j) (rl.mono e1) q1
theorem ds_ret (he : PE X e (tE X.K ad J W m)) : PS X (.Return (some e) pos) (tS X.K ad J W (sRet m)) := by
  refine ps_imp (ps_ret he) ?_
  rintro En σ H ⟨S, r, L, O, j, rl, rs, p⟩
  refine ⟨S, r, L, O, j, rl, rs, (bindS j rl p).imp ?_⟩
  rintro x H1 ⟨S1, r1, d, O1, e1, q1, p1, k1⟩
  exact k1 S1 r1 H1 x (Ext.refl _ _) q1 p1
theorem ds_retN : PS X (.Return none pos) (tS X.K ad J W sRetN) := by
  refine ps_imp ps_retN ?_
  rintro En σ H ⟨S, r, L, O, j, rl, rs, p⟩
  exact p S r H .non (Ext.refl _ _) rs rfl
theorem ds_if (hc : PT X c (tT X.K ad J W tm)) (ha : PSs X body (tS X.K ad J W s1)) (hb : PSs X els (tS X.K ad J W s2)) : PS X (.If c body els pos) (tS X.K ad J W (sIf tm s1 s2)) := by
  refine ps_imp (ps_if hc ha hb) ?_
  rintro En σ H ⟨S, r, L, O, j, rl, rs, p⟩
  refine ⟨S, r, L, O, j, rl, rs, (bindS j rl p).imp ?_⟩
  rintro k H1 ⟨S1, r1, d, O1, e1, q1, rfl, k1⟩
  cases k with
  | true =>
    rw [if_pos rfl] at k1 ⊢
    exact ⟨S1, r1, L, O1, J.mono e1.s j, rl.mono e1, q1, k1⟩
  | false =>
    rw [if_neg Bool.false_ne_true] at k1 ⊢
    exact ⟨S1, r1, L, O1, J.mono e1.s j, rl.mono e1, q1, k1⟩

/-! ### targets -/
def PostB (K : PySem.W.Frag) (ad : Str → Addr) (J : JP) (S : Hp) (r : Rg) (Q : L2.St → Hp → Prop) : Option (Loc × Store) → Prop
  | some p => ∀ S' r' σ H, Ext S r S' r' → J.p σ S' → Rl K S' r' p.1 σ → Rs K ad S' r' p.2 H → Q σ H
  | none => False
def tG (K : PySem.W.Frag) (ad : Str → Addr) (J : JP) (b : BM) : TG := fun v σ H Q => ∃ S r L O d, J.p σ S ∧ Rl K S r L σ ∧ Rs K ad S r O H ∧ Rp K S r d v ∧ PostB K ad J S r Q (b d L O)
def tGs (K : PySem.W.Frag) (ad : Str → Addr) (J : JP) (b : BsM) : TGs := fun vs σ H Q => ∃ S r L O ds, J.p σ S ∧ Rl K S r L σ ∧ Rs K ad S r O H ∧ RpAll K S r ds vs ∧ PostB K ad J S r Q (b ds L O)
theorem PostB.mono {S S' : Hp} {r r' : Rg} {Q : L2.St → Hp → Prop} {x : Option (Loc × Store)} (e : Ext S r S' r') (h : PostB X.K ad J S r Q x) : PostB X.K ad J S' r' Q x := by
  cases x with
  | some p => exact fun S2 r2 σ H e2 => h S2 r2 σ H (e.trans e2)
  | none => exact h
theorem pg_imp {t t' : TG} (h : PG X tg t) (k : ∀ v σ H Q, t' v σ H Q → t v σ H Q) : PG X tg t' := ⟨fun pins s σ H v u Q I r q => h.run pins s σ H v u Q I r (k v σ H Q q)⟩
theorem pgs_imp {t t' : TGs} (h : PGs X es t) (k : ∀ v σ H Q, t' v σ H Q → t v σ H Q) : PGs X es t' := ⟨fun pins s σ H v u Q I r q => h.run pins s σ H v u Q I r (k v σ H Q q)⟩
theorem dg_name {i : Nat} {x : Str} (hN : X.N.Nodup) (hi : X.N[i]? = some x) (hx : L2.Loc X.env.scope x) (hJ : ∀ (σ : L2.St) (v : V) (S : Hp), J.p σ S → J.p (σ.set i (some v)) S := by intro _ _ _ _; trivial) (hf : X.fn x = true ∨ X.env.scope.names.lookup x = some .local := by first | exact .inl rfl | exact .inr rfl | assumption) :
    PG X (.Name x pos) (tG X.K ad J (bName i)) := by
  refine pg_imp (pg_name hN hi hx hf) ?_
  rintro v σ H Q ⟨S, r, L, O, d, j, rl, rs, rp, p⟩
  exact p S r _ H (Ext.refl _ _) (hJ _ _ _ j) (rl.set i rp) rs
theorem dgs_nil : PGs X [] (tGs X.K ad J bNil) := by
  refine pgs_imp pgs_nil ?_
  rintro vs σ H Q ⟨S, r, L, O, ds, j, rl, rs, rp, p⟩
  cases ds with
  | nil => exact ⟨rp, p S r σ H (Ext.refl _ _) j rl rs⟩
  | cons d ds => exact p.elim
theorem dgs_cons (h1 : PG X e (tG X.K ad J bm)) (h2 : PGs X es (tGs X.K ad J bs)) (hs : (assignEach (e :: es) X.env).map (·.2) = assign e X.env :: (assignEach es X.env).map (·.2) := by rfl) : PGs X (e :: es) (tGs X.K ad J (bCons bm bs)) := by
  refine pgs_imp (pgs_cons h1 h2 hs) ?_
  rintro vs σ H Q ⟨S, r, L, O, ds, j, rl, rs, rp, p⟩
  cases ds with
  | nil => exact p.elim
  | cons d ds =>
    obtain ⟨v, vr, rfl, q1, q2⟩ := rp
    refine ⟨v, vr, rfl, S, r, L, O, d, j, rl, rs, q1, ?_⟩
    have p : PostB X.K ad J S r Q ((bm d L O).bind fun p => bs ds p.1 p.2) := p
    generalize bm d L O = z at p
    cases z with
    | none => exact p
    | some z => exact fun S1 r1 σ1 H1 e1 j1 l1 k1 => ⟨S1, r1, z.1, z.2, ds, j1, l1, k1, RpAll.mono e1 _ _ q2, p.mono e1⟩
theorem dg_tup {k n : Nat} (hc : X.calm = true) (h : PGs X es (tGs X.K ad J bs)) (hn : (assignEach es X.env).length = n := by rfl) (hst : (assignEach es X.env).findIdx? (·.1) = none := by rfl) : PG X (.Tuple es k pos) (tG X.K ad J (bTup n bs)) := by
  refine pg_imp (pg_tup hc h hn hst) ?_
  rintro v σ H Q ⟨S, r, L, O, d, j, rl, rs, rp, p⟩
  cases d with
  | tup ds =>
    obtain ⟨a, vs, rfl, q1, q2⟩ := rp
    have p : PostB X.K ad J S r Q (if ds.length = n then bs ds L O else none) := p
    split at p
    · rename_i hl
      exact ⟨a, vs, rfl, sqT_same rs.sub q1, by rw [q2.length]; exact hl, S, r, L, O, ds, j, rl, rs, q2, p⟩
    · exact p.elim
  | non => exact p.elim
  | bl b => exact p.elim
  | int i => exact p.elim
  | str s => exact p.elim
  | lst s => exact p.elim
  | rol s => exact p.elim
  | hdl s => exact p.elim
theorem asg_imp {t : TG} (hg : ∀ v σ H Q, tG X.K ad J bm v σ H Q → t v σ H Q) : ∀ En σ H, tS X.K ad J W (sAsg m bm) En σ H → tAsg (tE X.K ad J W m) t En σ H := by
  rintro En σ H ⟨S, r, L, O, j, rl, rs, p⟩
  refine ⟨S, r, L, O, j, rl, rs, (bindS j rl p).imp ?_⟩
  rintro x H1 ⟨S1, r1, d, O1, e1, q1, p1, k1⟩
  refine hg _ _ _ _ ⟨S1, r1, L, O1, d, J.mono e1.s j, rl.mono e1, q1, p1, ?_⟩
  generalize bm d L O1 = z at k1
  cases z with
  | none => exact k1
  | some z => exact k1
theorem ds_asg (he : PE X e (tE X.K ad J W m)) (hg : PG X tg (tG X.K ad J bm)) (hs : swapsWithSole [tg] e pos.line X.env = pure false := by rfl) (hw : swappedStores [tg] e X.env = pure none := by rfl)
    (h1 : (assignEach [tg] X.env).map (·.2) = [assign tg X.env] := by rfl) : PS X (.Assign [tg] e pos) (tS X.K ad J W (sAsg m bm)) :=
  ps_imp (ps_asg he hg hs hw h1) (asg_imp fun _ _ _ _ z => z)
theorem ds_set {i : Nat} {x : Str} {pos' : Pos} (hN : X.N.Nodup) (hi : X.N[i]? = some x) (hx : L2.Loc X.env.scope x) (he : PE X e (tE X.K ad J W m)) (hJ : ∀ (σ : L2.St) (v : Option V) (S : Hp), J.p σ S → J.p (σ.set i v) S := by intro _ _ _ _; trivial) (hs : swapsWith e (some (.Name x pos')) pos.line X.env = pure false := by rfl)
    (hf : X.fn x = true ∨ X.env.scope.names.lookup x = some .local := by first | exact .inl rfl | exact .inr rfl | assumption) : PS X (.Assign [.Name x pos'] e pos) (tS X.K ad J W (sAsg m (bName i))) := by
  refine ps_imp (ps_set hN hi hx he hs hf) (asg_imp ?_)
  rintro v σ H Q ⟨S, r, L, O, d, j, rl, rs, rp, p⟩
  exact p S r _ H (Ext.refl _ _) (hJ _ _ _ j) (rl.set i rp) rs
theorem PostS.ends {S : Hp} {r : Rg} {En En' : Ends} {x : SR} (h1 : ∀ σ H, En.nx σ H → En'.nx σ H) (h2 : ∀ v H, En.rt v H → En'.rt v H) (h3 : ∀ σ H, En.bk σ H → En'.bk σ H) (h4 : ∀ σ H, En.ct σ H → En'.ct σ H) (h : PostS X.K ad J W S r En x) : PostS X.K ad J W S r En' x := by
  cases x with
  | next L O => exact fun S2 r2 σ H e2 j l s => h1 _ _ (h S2 r2 σ H e2 j l s)
  | ret d O => exact fun S2 r2 H v e2 s p => h2 _ _ (h S2 r2 H v e2 s p)
  | brk L O => exact fun S2 r2 σ H e2 j l s => h3 _ _ (h S2 r2 σ H e2 j l s)
  | cnt L O => exact fun S2 r2 σ H e2 j l s => h4 _ _ (h S2 r2 σ H e2 j l s)
  | exc x L O => exact h
  | bad => exact h
/-- one turn, then the rest f -/
def afterT (x : SR) (f : SM) : SR := match x with
  | .next L1 O1 => f L1 O1
  | .cnt L1 O1 => f L1 O1
  | .brk L1 O1 => .next L1 O1
  | .ret d O1 => .ret d O1
  | .exc x L1 O1 => .exc x L1 O1
  | .bad => .bad
theorem turn_post {S : Hp} {r : Rg} {En : Ends} {x : SR} {f : SM} (h : PostS X.K ad J W S r En (afterT x f)) :
    PostS X.K ad J W S r { En with nx := fun σ H => ∃ S' r' L' O', Ext S r S' r' ∧ J.p σ S' ∧ Rl X.K S' r' L' σ ∧ Rs X.K ad S' r' O' H ∧ PostS X.K ad J W S' r' En (f L' O'), ct := fun σ H => ∃ S' r' L' O', Ext S r S' r' ∧ J.p σ S' ∧ Rl X.K S' r' L' σ ∧ Rs X.K ad S' r' O' H ∧ PostS X.K ad J W S' r' En (f L' O'), bk := En.nx } x := by
  cases x with
  | next L O => exact fun S2 r2 σ H e2 j l s => ⟨S2, r2, L, O, e2, j, l, s, PostS.mono e2 h⟩
  | ret d O => exact h
  | brk L O => exact h
  | cnt L O => exact fun S2 r2 σ H e2 j l s => ⟨S2, r2, L, O, e2, j, l, s, PostS.mono e2 h⟩
  | exc x L O => exact h
  | bad => exact h
theorem loopD_cons {turn : D → SM} {d : D} {ds : List D} {L : Loc} {O : Store} : loopD turn (d :: ds) L O = afterT (turn d L O) (loopD turn ds) := by
  show (match turn d L O with
    | .next L1 O1 => loopD turn ds L1 O1
    | .cnt L1 O1 => loopD turn ds L1 O1
    | .brk L1 O1 => .next L1 O1
    | .ret d O1 => .ret d O1
    | .exc x L1 O1 => .exc x L1 O1
    | .bad => .bad) = _
  cases turn d L O <;> rfl
/-- the body of a turn -/
theorem turn_of {S : Hp} {r : Rg} {En : Ends} {L : Loc} {O : Store} {σ : L2.St} {H : Hp} {d : D} {v : V} (j : J.p σ S) (rl : Rl X.K S r L σ) (rs : Rs X.K ad S r O H) (rp : Rp X.K S r d v) (h : PostS X.K ad J W S r En (turnOf bm s1 d L O)) :
    tG X.K ad J bm v σ H fun σ2 H2 => tS X.K ad J W s1 En σ2 H2 := by
  refine ⟨S, r, L, O, d, j, rl, rs, rp, ?_⟩
  unfold turnOf at h
  generalize bm d L O = z at h
  cases z with
  | none => exact h
  | some z => exact fun S2 r2 σ2 H2 e2 j2 l2 q2 => ⟨S2, r2, z.1, z.2, j2, l2, q2, PostS.mono e2 h⟩
/-- a loop over things that stand still -/
theorem for_still {It' : It} {vs : List V} (ds : List D) {S0 : Hp} {r0 : Rg} (hp : RpAll X.K S0 r0 ds vs)
    (go : ∀ (i : Nat) (H : Hp) (S : Hp) (x : V), Same S0 S → Same S H → vs[i]? = some x → It'.go i H) (yl : ∀ (i : Nat) (H : Hp) (S : Hp) (x y : V) (H' : Hp), Same S0 S → Same S H → vs[i]? = some x → It'.yld i H y H' → y = x ∧ H' = H)
    (sp : ∀ (i : Nat) (H : Hp) (S : Hp), Same S0 S → Same S H → vs.length ≤ i → It'.stop i H) {L : Loc} {O : Store} {σ : L2.St} {H : Hp} {En : Ends} (j : J.p σ S0) (rl : Rl X.K S0 r0 L σ) (rs : Rs X.K ad S0 r0 O H) (h : PostS X.K ad J W S0 r0 En (loopD (turnOf bm s1) ds L O)) :
    ∃ W' : Nat → Nat → L2.St → Hp → Prop, (∃ m, W' 0 m σ H) ∧ ∀ i m σ H, W' i m σ H →
      (It'.stop i H ∧ En.nx σ H) ∨ (It'.go i H ∧ ∃ N : L2.St → Hp → Prop, (∀ σ' H', N σ' H' → ∃ m', m' < m ∧ W' (i + 1) m' σ' H') ∧ ∀ x H', It'.yld i H x H' → tG X.K ad J bm x σ H' fun σ2 H2 => tS X.K ad J W s1 { En with nx := N, ct := N, bk := En.nx } σ2 H2) := by
  refine ⟨fun i m σ H => m = vs.length - i ∧ i ≤ vs.length ∧ ∃ S r L O, Ext S0 r0 S r ∧ J.p σ S ∧ Rl X.K S r L σ ∧ Rs X.K ad S r O H ∧ PostS X.K ad J W S r En (loopD (turnOf bm s1) (ds.drop i) L O), ⟨_, rfl, Nat.zero_le _, S0, r0, L, O, Ext.refl _ _, j, rl, rs, h⟩, ?_⟩
  rintro i m σ H ⟨rfl, hi, S, r, L, O, e, j, rl, rs, h⟩
  by_cases hlt : i < vs.length
  · have hx : vs[i]? = some vs[i] := List.getElem?_eq_getElem hlt
    obtain ⟨d, hd, pd⟩ := RpAll.back hp hx
    have hdrop : ds.drop i = d :: ds.drop (i + 1) := by
      obtain ⟨h1, h2⟩ := List.getElem?_eq_some_iff.mp hd
      rw [List.drop_eq_getElem_cons h1, h2]
    rw [hdrop, loopD_cons] at h
    refine .inr ⟨go i H S _ e.s rs.sub hx, fun σ' H' => ∃ S' r' L' O', Ext S r S' r' ∧ J.p σ' S' ∧ Rl X.K S' r' L' σ' ∧ Rs X.K ad S' r' O' H' ∧ PostS X.K ad J W S' r' En (loopD (turnOf bm s1) (ds.drop (i + 1)) L' O'), ?_, fun x H' hy => ?_⟩
    · rintro σ' H' ⟨S', r', L', O', e', j', l', q', h'⟩
      exact ⟨_, by omega, rfl, hlt, S', r', L', O', e.trans e', j', l', q', h'⟩
    · obtain ⟨rfl, rfl⟩ := yl i H S _ x H' e.s rs.sub hx hy
      exact turn_of j rl rs (Rp.mono e d _ pd) (turn_post h)
  · have e2 : ds.drop i = [] := List.drop_eq_nil_of_le (by rw [← hp.length]; omega)
    rw [e2] at h
    exact .inl ⟨sp i H S e.s rs.sub (by omega), h S r σ H (Ext.refl _ _) j rl rs⟩
/-- over a list of the store -/
theorem loopH_cons {turn : D → SM} {n k i : Nat} {L : Loc} {O : Store} : loopH turn n (k + 1) i L O = (match O[n]? with
    | some (.lst xs) => match xs[i]? with
      | some d => afterT (turn d L O) (loopH turn n k (i + 1))
      | none => .next L O
    | _ => .bad) := by
  show (match O[n]? with
    | some (.lst xs) => match xs[i]? with
      | some d => match turn d L O with
        | .next L1 O1 => loopH turn n k (i + 1) L1 O1
        | .cnt L1 O1 => loopH turn n k (i + 1) L1 O1
        | .brk L1 O1 => .next L1 O1
        | .ret d O1 => .ret d O1
        | .exc x L1 O1 => .exc x L1 O1
        | .bad => .bad
      | none => .next L O
    | _ => .bad) = _
  split
  · split
    · rename_i d _
      cases turn d L O <;> rfl
    · rfl
  · rfl
theorem for_handle {a : Addr} {n : Nat} {S0 : Hp} {r0 : Rg} (ha : r0.l[n]? = some a) {k : Nat} {L : Loc} {O : Store} {σ : L2.St} {H : Hp} {En : Ends} (j : J.p σ S0) (rl : Rl X.K S0 r0 L σ) (rs : Rs X.K ad S0 r0 O H) (h : PostS X.K ad J W S0 r0 En (loopH (turnOf bm s1) n k 0 L O)) :
    ∃ W' : Nat → Nat → L2.St → Hp → Prop, (∃ m, W' 0 m σ H) ∧ ∀ i m σ H, W' i m σ H →
      ((Itl X.K a).stop i H ∧ En.nx σ H) ∨ ((Itl X.K a).go i H ∧ ∃ N : L2.St → Hp → Prop, (∀ σ' H', N σ' H' → ∃ m', m' < m ∧ W' (i + 1) m' σ' H') ∧ ∀ x H', (Itl X.K a).yld i H x H' → tG X.K ad J bm x σ H' fun σ2 H2 => tS X.K ad J W s1 { En with nx := N, ct := N, bk := En.nx } σ2 H2) := by
  refine ⟨fun i m σ H => ∃ S r L O, Ext S0 r0 S r ∧ J.p σ S ∧ Rl X.K S r L σ ∧ Rs X.K ad S r O H ∧ PostS X.K ad J W S r En (loopH (turnOf bm s1) n m i L O), ⟨k, S0, r0, L, O, Ext.refl _ _, j, rl, rs, h⟩, ?_⟩
  rintro i m σ H ⟨S, r, L, O, e, j, rl, rs, h⟩
  have hr : r.l[n]? = some a := pre_get e.r ha
  cases m with
  | zero =>
    have h : PostS X.K ad J W S r En (match O[n]? with | some (.lst xs) => if xs.length ≤ i then .next L O else .bad | _ => .bad) := h
    split at h
    · rename_i xs hx
      obtain ⟨_, vs, q1, q2⟩ := rs.ob n a _ hr hx
      split at h
      · rename_i hl
        exact .inl ⟨⟨vs, .of q1, by rw [q2.length]; exact hl⟩, h S r σ H (Ext.refl _ _) j rl rs⟩
      · exact h.elim
    · exact h.elim
  | succ m =>
    rw [loopH_cons] at h
    split at h
    · rename_i xs hx
      obtain ⟨_, vs, q1, q2⟩ := rs.ob n a _ hr hx
      split at h
      · rename_i d hd
        obtain ⟨v, hv, pv⟩ := q2.get hd
        refine .inr ⟨⟨vs, v, .of q1, hv⟩, fun σ' H' => ∃ S' r' L' O', Ext S r S' r' ∧ J.p σ' S' ∧ Rl X.K S' r' L' σ' ∧ Rs X.K ad S' r' O' H' ∧ PostS X.K ad J W S' r' En (loopH (turnOf bm s1) n m (i + 1) L' O'), ?_, fun x H' hy => ?_⟩
        · rintro σ' H' ⟨S', r', L', O', e', j', l', q', h'⟩
          exact ⟨m, Nat.lt_succ_self m, S', r', L', O', e.trans e', j', l', q', h'⟩
        · obtain ⟨rfl, h2⟩ := hy
          have ex : x = v := Option.some.inj ((h2 vs (.of q1)).symm.trans hv)
          subst ex
          exact turn_of j rl rs pv (turn_post h)
      · rename_i hd
        have hl : xs.length ≤ i := List.getElem?_eq_none_iff.mp hd
        exact .inl ⟨⟨vs, .of q1, by rw [q2.length]; exact hl⟩, h S r σ H (Ext.refl _ _) j rl rs⟩
    · exact h.elim
theorem ds_forL (hp : PassesOwn (model X.prog X.w) X.A X.env X.xe) (hc : X.calm = true) (hi : PE X iter (tE X.K ad J W m)) (hg : PG X tg (tG X.K ad J bm)) (hb : PSs X body (tS X.K ad J W s1)) (hs : ∀ x, foldedSetIterable iter X.env x = pure x := by intro _; rfl) :
    PS X (.For tg iter body [] pos) (tS X.K ad J W (sForL m bm s1)) := by
  refine ps_imp (ps_for hp hc (pi_list hi) hg hb hs) ?_
  rintro En σ H ⟨S, r, L, O, j, rl, rs, p⟩
  refine ⟨S, r, L, O, j, rl, rs, (bindS j rl p).imp ?_⟩
  rintro x H1 ⟨S1, r1, d, O1, e1, q1, p1, k1⟩
  have rl1 := rl.mono e1
  cases d with
  | lst ds =>
    obtain ⟨a, vs, rfl, h1, h2⟩ := p1
    have hq : ∀ {S' : Hp} {H : Hp}, Same S1 S' → Same S' H → SqL X.K H a vs := fun e e' => .of (e' _ _ (e _ _ h1))
    refine ⟨a, rfl, ⟨vs, hq (Same.refl _) q1.sub⟩, for_still (It' := Itl X.K a) ds h2 (fun i H S x e e' hx => ⟨vs, x, hq e e', hx⟩) (fun i H S x y H' e e' hx hy => ⟨Option.some.inj ((hy.2 vs (hq e e')).symm.trans hx), hy.1⟩) (fun i H S e e' hl => ⟨vs, hq e e', hl⟩) (J.mono e1.s j) rl1 q1 k1⟩
  | rol ds =>
    obtain ⟨a, vs, rfl, h1, h2⟩ := p1
    have hq : ∀ {S' : Hp} {H : Hp}, Same S1 S' → Same S' H → SqL X.K H a vs := fun e e' => sqL_same e' (sqL_same e h1)
    refine ⟨a, rfl, ⟨vs, hq (Same.refl _) q1.sub⟩, for_still (It' := Itl X.K a) ds h2 (fun i H S x e e' hx => ⟨vs, x, hq e e', hx⟩) (fun i H S x y H' e e' hx hy => ⟨Option.some.inj ((hy.2 vs (hq e e')).symm.trans hx), hy.1⟩) (fun i H S e e' hl => ⟨vs, hq e e', hl⟩) (J.mono e1.s j) rl1 q1 k1⟩
  | hdl n =>
    obtain ⟨a, rfl, ha⟩ := p1
    have k1 : PostS X.K ad J W S1 r1 En (match O1[n]? with | some (.lst xs) => loopH (turnOf bm s1) n xs.length 0 L O1 | _ => .bad) := k1
    split at k1
    · rename_i xs hx
      obtain ⟨_, vs, q3, q4⟩ := q1.ob n a _ ha hx
      exact ⟨a, rfl, ⟨vs, .of q3⟩, for_handle ha (J.mono e1.s j) rl1 q1 k1⟩
    · exact k1.elim
  | non => exact k1.elim
  | bl b => exact k1.elim
  | int i => exact k1.elim
  | str s => exact k1.elim
  | tup s => exact k1.elim
theorem ds_forT (hp : PassesOwn (model X.prog X.w) X.A X.env X.xe) (hc : X.calm = true) (hi : PE X iter (tE X.K ad J W m)) (hg : PG X tg (tG X.K ad J bm)) (hb : PSs X body (tS X.K ad J W s1)) (hs : ∀ x, foldedSetIterable iter X.env x = pure x := by intro _; rfl) :
    PS X (.For tg iter body [] pos) (tS X.K ad J W (sForT m bm s1)) := by
  refine ps_imp (ps_for hp hc (pi_tup hi) hg hb hs) ?_
  rintro En σ H ⟨S, r, L, O, j, rl, rs, p⟩
  refine ⟨S, r, L, O, j, rl, rs, (bindS j rl p).imp ?_⟩
  rintro x H1 ⟨S1, r1, d, O1, e1, q1, p1, k1⟩
  have rl1 := rl.mono e1
  cases d with
  | tup ds =>
    obtain ⟨a, vs, rfl, h1, h2⟩ := p1
    have hq : ∀ {S' : Hp} {H : Hp}, Same S1 S' → Same S' H → SqT X.K H a vs := fun e e' => sqT_same e' (sqT_same e h1)
    refine ⟨a, rfl, ⟨vs, hq (Same.refl _) q1.sub⟩, for_still (It' := Itt X.K a) ds h2 (fun i H S x e e' hx => ⟨vs, x, hq e e', hx⟩) (fun i H S x y H' e e' hx hy => ⟨Option.some.inj ((hy.2 vs (hq e e')).symm.trans hx), hy.1⟩) (fun i H S e e' hl => ⟨vs, hq e e', hl⟩) (J.mono e1.s j) rl1 q1 k1⟩
  | hdl n => exact k1.elim
  | lst n => exact k1.elim
  | rol n => exact k1.elim
  | non => exact k1.elim
  | bl b => exact k1.elim
  | int i => exact k1.elim
  | str s => exact k1.elim
theorem range_rp {S : Hp} {r : Rg} (lo : Int) (n : Nat) : RpAll X.K S r (rangeD lo n) ((List.range n).map fun (i : Nat) => V.int (lo + (i : Int))) := by
  unfold rangeD
  generalize List.range n = l
  induction l with
  | nil => exact rfl
  | cons a l ih => exact ⟨_, _, rfl, rfl, ih⟩
theorem for_range_post {lo : Int} {n : Nat} {S0 : Hp} {r0 : Rg} {L : Loc} {O : Store} {σ : L2.St} {H : Hp} {En : Ends} (j : J.p σ S0) (rl : Rl X.K S0 r0 L σ) (rs : Rs X.K ad S0 r0 O H) (h : PostS X.K ad J W S0 r0 En (loopD (turnOf bm s1) (rangeD lo n) L O)) :
    ∃ W' : Nat → Nat → L2.St → Hp → Prop, (∃ m, W' 0 m σ H) ∧ ∀ i m σ H, W' i m σ H →
      ((Itr lo n).stop i H ∧ En.nx σ H) ∨ ((Itr lo n).go i H ∧ ∃ N : L2.St → Hp → Prop, (∀ σ' H', N σ' H' → ∃ m', m' < m ∧ W' (i + 1) m' σ' H') ∧ ∀ x H', (Itr lo n).yld i H x H' → tG X.K ad J bm x σ H' fun σ2 H2 => tS X.K ad J W s1 { En with nx := N, ct := N, bk := En.nx } σ2 H2) := by
  have hlen : ((List.range n).map fun (i : Nat) => V.int (lo + (i : Int))).length = n := by rw [List.length_map, List.length_range]
  refine for_still (rangeD lo n) (range_rp lo n) (fun i H S x e e' hx => ?_) (fun i H S x y H' e e' hx hy => ?_) (fun i H S e e' hl => ?_) j rl rs h
  · have := (List.getElem?_eq_some_iff.mp hx).1
    rw [hlen] at this
    exact this
  · have hi := (List.getElem?_eq_some_iff.mp hx).1
    rw [hlen] at hi
    rw [List.getElem?_map, List.getElem?_range hi] at hx
    exact ⟨hy.2.trans (Option.some.inj hx), hy.1⟩
  · rw [hlen] at hl
    exact hl
theorem ds_forR1 {p q : Pos} (hp : PassesOwn (model X.prog X.w) X.A X.env X.xe) (hc : X.calm = true) (hg0 : Gl X "range") (hm : X.mg "range" = none) (ha : PA X [a] (tA X.K ad J W mt)) (hg : PG X tg (tG X.K ad J bm)) (hb : PSs X body (tS X.K ad J W s1))
    (hs0 : starEach [a] X.env = [(false, eval a X.env)] := by rfl) (hs : ∀ x, foldedSetIterable (.Call (.Name "range" p) [a] [] q) X.env x = pure x := by intro _; rfl) : PS X (.For tg (.Call (.Name "range" p) [a] [] q) body [] pos) (tS X.K ad J W (sForR1 mt bm s1)) := by
  refine ps_imp (ps_for hp hc (pi_range1 hg0 hm ha hs0) hg hb hs) ?_
  rintro En σ H ⟨S, r, L, O, j, rl, rs, p⟩
  refine ⟨S, r, L, O, j, rl, rs, (bindS j rl p).imp ?_⟩
  rintro vs H1 ⟨S1, r1, ds, O1, e1, q1, p1, k1⟩
  have k2 : PostS X.K ad J W S1 r1 En (match int1 ds with | some j => loopD (turnOf bm s1) (rangeD 0 j.toNat) L O1 | none => .bad) := k1
  clear k1
  revert k2
  cases hj : int1 ds with
  | none => exact fun k2 => k2.elim
  | some jj =>
    intro k1
    obtain ⟨rfl, b1, b2⟩ := int1_ok hj
    obtain ⟨v, vr, rfl, rfl, rfl⟩ := p1
    exact ⟨jj, rfl, by omega, by omega, for_range_post (J.mono e1.s j) (rl.mono e1) q1 k1⟩
theorem ds_forR2 {p q : Pos} (hp : PassesOwn (model X.prog X.w) X.A X.env X.xe) (hc : X.calm = true) (hg0 : Gl X "range") (hm : X.mg "range" = none) (ha : PA X [a, b] (tA X.K ad J W mt)) (hg : PG X tg (tG X.K ad J bm)) (hb : PSs X body (tS X.K ad J W s1))
    (hs0 : starEach [a, b] X.env = [(false, eval a X.env), (false, eval b X.env)] := by rfl) (hs2 : starEach [b] X.env = [(false, eval b X.env)] := by rfl) (hs : ∀ x, foldedSetIterable (.Call (.Name "range" p) [a, b] [] q) X.env x = pure x := by intro _; rfl) : PS X (.For tg (.Call (.Name "range" p) [a, b] [] q) body [] pos) (tS X.K ad J W (sForR2 mt bm s1)) := by
  refine ps_imp (ps_for hp hc (pi_range2 hg0 hm ha hs0 hs2) hg hb hs) ?_
  rintro En σ H ⟨S, r, L, O, j, rl, rs, p⟩
  refine ⟨S, r, L, O, j, rl, rs, (bindS j rl p).imp ?_⟩
  rintro vs H1 ⟨S1, r1, ds, O1, e1, q1, p1, k1⟩
  have k2 : PostS X.K ad J W S1 r1 En (match int2 ds with | some p => loopD (turnOf bm s1) (rangeD p.1 (p.2 - p.1).toNat) L O1 | none => .bad) := k1
  clear k1
  revert k2
  cases hj : int2 ds with
  | none => exact fun k2 => k2.elim
  | some jj =>
    intro k1
    obtain ⟨rfl, ⟨b1, b2⟩, b3, b4⟩ := int2_ok hj
    obtain ⟨v, vr, rfl, rfl, u, ur, rfl, rfl, rfl⟩ := p1
    exact ⟨jj.1, jj.2, rfl, ⟨by omega, by omega, by omega, by omega⟩, for_range_post (J.mono e1.s j) (rl.mono e1) q1 k1⟩
theorem loopW_succ {n : Nat} {L : Loc} {O : Store} : loopW tm s1 (n + 1) L O = ofRes L (tm L O) fun k O1 => if k = true then afterT (s1 L O1) (loopW tm s1 n) else .next L O1 := by
  rfl
theorem ds_while {n : Nat} (hp : PassesOwn (model X.prog X.w) X.A X.env X.xe) (hc : PT X c (tT X.K ad J W tm)) (hb : PSs X body (tS X.K ad J W s1)) : PS X (.While c body [] pos) (tS X.K ad J W (sWhile n tm s1)) := by
  refine ps_imp (ps_while hp hc hb) ?_
  rintro En σ H ⟨S, r, L, O, j, rl, rs, p⟩
  refine ⟨fun m σ H => ∃ S r L O, J.p σ S ∧ Rl X.K S r L σ ∧ Rs X.K ad S r O H ∧ PostS X.K ad J W S r En (loopW tm s1 m L O), ⟨n, S, r, L, O, j, rl, rs, p⟩, ?_⟩
  rintro m σ H ⟨S, r, L, O, j, rl, rs, p⟩
  cases m with
  | zero => exact p.elim
  | succ m =>
    rw [loopW_succ] at p
    refine ⟨S, r, L, O, j, rl, rs, (bindS j rl p).imp ?_⟩
    rintro k H1 ⟨S1, r1, d, O1, e1, q1, rfl, k1⟩
    cases k with
    | true =>
      rw [if_pos rfl] at k1 ⊢
      refine ⟨fun σ' H' => ∃ S' r' L' O', Ext S1 r1 S' r' ∧ J.p σ' S' ∧ Rl X.K S' r' L' σ' ∧ Rs X.K ad S' r' O' H' ∧ PostS X.K ad J W S' r' En (loopW tm s1 m L' O'), ?_, S1, r1, L, O1, J.mono e1.s j, rl.mono e1, q1, turn_post k1⟩
      rintro σ' H' ⟨S', r', L', O', e', j', l', q', h'⟩
      exact ⟨m, Nat.lt_succ_self m, S', r', L', O', j', l', q', h'⟩
    | false =>
      rw [if_neg Bool.false_ne_true] at k1 ⊢
      exact k1 S1 r1 σ H1 (Ext.refl _ _) (J.mono e1.s j) (rl.mono e1) q1
end

/-! ### a def -/
section
variable {P : Program} {w : World} {K : PySem.W.Frag} {mg : Str → Option Value} {base : Heap} {ad : Str → Addr}
theorem start_rl {S : Hp} {r : Rg} {N : List Str} {ds : List D} {vs : List V} (hl : vs.length ≤ N.length) (h : RpAll K S r ds vs) : Rl K S r (ds.map some ++ List.replicate (N.length - ds.length) none) (L2.start N vs) where
  len := by
    unfold L2.start
    rw [List.length_append, List.length_append, List.length_map, List.length_map, List.length_replicate, List.length_replicate, h.length]
  at_ := fun i d q => by
    by_cases hi : i < ds.length
    · rw [List.getElem?_append_left (by rw [List.length_map]; exact hi), List.getElem?_map] at q
      cases e : ds[i]? with
      | none => rw [e] at q; cases q
      | some d' =>
        rw [e] at q
        obtain rfl : d' = d := Option.some.inj (Option.some.inj q)
        obtain ⟨v, hv, p⟩ := h.get e
        refine ⟨v, ?_, p⟩
        unfold L2.start
        rw [List.getElem?_append_left (by rw [List.length_map, h.length]; exact hi), List.getElem?_map, hv]
        rfl
    · rw [List.getElem?_append_right (by rw [List.length_map]; omega), List.getElem?_replicate] at q
      split at q <;> cases q
theorem fn_def {x qual : Str} {params : Arguments} {bd : List Stmt} {scope : Scope} {dvs : List V} {kws : List (Str × V)} {f : Addr} {fd : FuncData} {N ps : List Str} {k : Nat} {b : SM} (F : FunD K x qual params bd scope dvs kws f fd) (sc : FnScope N ps scope)
    (hb : ∀ (cdv : Value) (A : Around) (outer : List Env) (s : Shared) (H : Hp) (E : XK), Room k (A.deeper (PyProof.Rows.envOfC qual scope s.heap.objs.size f cdv)) →
      PSs (cxOf (L2.CX P w) P w K mg base N qual scope f cdv A outer s H E) bd (tS K ad JT (fun c d _ H => E c d H) b)) :
    FnOk P w K mg base (L2.CX P w) (k + 1) f fd ps (spM K ad ps.length (runF N.length b)) := by
  have hpl : ps.length ≤ N.length := by have := congrArg List.length sc.pre; rw [List.length_take] at this; omega
  refine F.ok sc (fun vs H Q E h => ?_) (fun cdv A outer s H vs Q E hr h => ?_)
  · obtain ⟨S, r, O, ds, hl, _, hp, _⟩ := h
    rw [hp.length, hl]
  · refine ⟨_, hb cdv A outer s H E hr, ?_⟩
    obtain ⟨S, r, O, ds, hl, rs, hp, p⟩ := h
    refine ⟨S, r, _, O, trivial, start_rl (by rw [hp.length, hl]; exact hpl) hp, rs, ?_⟩
    unfold runF at p
    generalize b (ds.map some ++ List.replicate (N.length - ds.length) none) O = z at p
    cases z with
    | next L O => exact fun S' r' σ H e _ _ q => p S' r' H .non e q rfl
    | ret d O => exact p
    | brk L O => exact p.elim
    | cnt L O => exact p.elim
    | exc x L O => exact fun S' r' σ H d e _ _ q g => p S' r' H d e q g
    | bad => exact p
end
end DK
end
section
set_option Elab.async false
set_option linter.all false
set_option autoImplicit false
set_option maxRecDepth 100000
set_option maxHeartbeats 4000000
/-! DKOps: operators, subscripts, built-ins, by mirrors. -/
namespace DK
open PySem L2

def pureO (x : Option D) (O : Store) : Option (D × Store) := match x with
  | some d => some (d, O)
  | none => none
def newLO (h : Bool) (xs : List D) (O : Store) : Option (D × Store) := if xs.length ≤ 1000000 then (if h = true then some (.hdl O.length, O ++ [.lst xs]) else some (.lst xs, O)) else none
theorem ofO_newLO (h : Bool) (xs : List D) (O : Store) : ofO (newLO h xs O) = newL h xs O := by
  unfold newLO newL
  split
  · split <;> rfl
  · rfl
section
variable {K : PySem.W.Frag} {ad : Str → Addr} {S : Hp} {r : Rg} {O : Store} {H : Hp} {d : D} {W : WX} {σ : L2.St} {Q : VK}
theorem post_pure {x : Option D} {v : D} (rs : Rs K ad S r O H) (e : x = some v) (p : Post K ad (fun S r => Rp K S r) W σ S r Q (ofO (pureO x O))) (u : V) (h : Rp K S r v u) : Q u H := by
  subst e
  exact p S r H u (Ext.refl _ _) rs h
end

/-! ### + and others -/
def gAdd (h : Bool) : Store → D → D → Option (D × Store) := fun O x y => match x, y with
  | .int i, .int j => some (.int (i + j), O)
  | .str a, .str b => if a.length + b.length ≤ 1000000 then some (.str (a ++ b), O) else none
  | .tup a, .tup b => if a.length + b.length ≤ 1000000 then some (.tup (a ++ b), O) else none
  | _, _ => match lstOf O x, lstOf O y with
    | some a, some b => newLO h (a ++ b) O
    | _, _ => none
def gI (f : Int → Int → D) (C : Int → Int → Bool) : Store → D → D → Option (D × Store) := fun O x y => match x, y with
  | .int i, .int j => if C i j = true then some (f i j, O) else none
  | _, _ => none
def gSub := gI (fun i j => .int (i - j)) (fun _ _ => true)
def gMul := gI (fun i j => .int (i * j)) (fun i j => decide (i.natAbs.log2 + j.natAbs.log2 < 1000000))
def gFdiv := gI (fun i j => .int (i / j)) (fun _ j => decide (0 < j ∧ j.natAbs.log2 < 9000))
def gMod := gI (fun i j => .int (i % j)) (fun _ j => decide (0 < j))
def gPow := gI (fun i j => .int (i ^ j.toNat)) (fun i j => decide (0 ≤ j ∧ j ≤ 1000000 ∧ i.natAbs < 2 ^ 64))
section
variable {X : Cx} {ad : Str → Addr}
theorem catL {S : Hp} {r : Rg} {O : Store} {H : Hp} {x y : V} {d e : D} {W : WX} {σ : L2.St} {Q : VK} {h : Bool} (rs : Rs X.K ad S r O H) (px : Rp X.K S r d x) (py : Rp X.K S r e y)
    (p : Post X.K ad (fun S r => Rp X.K S r) W σ S r Q (ofO (match lstOf O d, lstOf O e with | some a, some b => newLO h (a ++ b) O | _, _ => none))) : rCat x y H Q := by
  split at p
  · rename_i a b ha hb
    obtain ⟨l, vs, rfl, q1, q2⟩ := lstOf_ok rs px ha
    obtain ⟨m, us, rfl, q3, q4⟩ := lstOf_ok rs py hb
    rw [ofO_newLO] at p
    obtain ⟨h1, h2⟩ := newL_post rs (q2.append q4) p
    exact ⟨l, m, vs, us, rfl, rfl, q1, q3, by rw [List.length_append] at h1; exact h1, h2⟩
  · exact p.elim
theorem od_add (h : Bool) : OpD X ad (binaryOp .Add) (gAdd h) where
  ok := by
    refine ⟨_, OpR.or op_add (OpR.or op_add_str (OpR.or op_catA op_cat)), ?_⟩
    intro S r O H x y d e W σ Q rs px py p
    unfold gAdd at p
    split at p
    · rename_i i j
      rw [show x = .int i from px, show y = .int j from py]
      exact .inl ⟨i, j, rfl, rfl, p S r H _ (Ext.refl _ _) rs rfl⟩
    · rename_i a b
      rw [show x = .str a from px, show y = .str b from py]
      split at p
      · rename_i hl
        exact .inr (.inl ⟨a, b, rfl, rfl, million hl, p S r H _ (Ext.refl _ _) rs rfl⟩)
      · exact p.elim
    · rename_i a b
      split at p
      · rename_i hl
        obtain ⟨l, vs, rfl, q1, q2⟩ := px
        obtain ⟨m, us, rfl, q3, q4⟩ := py
        refine .inr (.inr (.inl ⟨l, m, vs, us, rfl, rfl, sqT_same rs.sub q1, sqT_same rs.sub q3, by rw [q2.length, q4.length]; exact million hl, fun e => ?_, fun e1 e2 => ?_, fun e1 e2 => ?_⟩))
        · refine p S r H _ (Ext.refl _ _) rs ⟨m, us, rfl, q3, ?_⟩
          have q5 := q2.append q4
          rw [e] at q5
          exact q5
        · refine p S r H _ (Ext.refl _ _) rs ⟨l, vs, rfl, q1, ?_⟩
          have q5 := q2.append q4
          rw [e2, List.append_nil] at q5
          exact q5
        · exact newT_post rs (q2.append q4) p
      · exact p.elim
    · exact .inr (.inr (.inr (catL rs px py p)))
theorem od_I {bop : Value → Value → Sem Value} {f : Int → Int → V} {g : Int → Int → D} {C : Int → Int → Prop} {c : Int → Int → Bool} (ho : OpR X bop (rI C f)) (hc : ∀ i j, c i j = true → C i j) (hg : ∀ i j S r, Rp X.K S r (g i j) (f i j)) : OpD X ad bop (gI g c) where
  ok := by
    refine ⟨_, ho, ?_⟩
    intro S r O H x y d e W σ Q rs px py p
    unfold gI at p
    split at p
    · rename_i i j
      rw [show x = .int i from px, show y = .int j from py]
      split at p
      · rename_i hcc
        exact ⟨i, j, rfl, rfl, hc i j hcc, p S r H _ (Ext.refl _ _) rs (hg i j S r)⟩
      · exact p.elim
    · exact p.elim
theorem od_I0 {bop : Value → Value → Sem Value} {f : Int → Int → V} {g : Int → Int → D} (ho : OpR X bop (rI0 f)) (hg : ∀ i j S r, Rp X.K S r (g i j) (f i j)) : OpD X ad bop (gI g fun _ _ => true) where
  ok := by
    refine ⟨_, ho, ?_⟩
    intro S r O H x y d e W σ Q rs px py p
    unfold gI at p
    split at p
    · rename_i i j
      rw [show x = .int i from px, show y = .int j from py]
      rw [if_pos rfl] at p
      exact ⟨i, j, rfl, rfl, p S r H _ (Ext.refl _ _) rs (hg i j S r)⟩
    · exact p.elim
theorem od_sub : OpD X ad (binaryOp .Sub) gSub := od_I0 op_sub fun _ _ _ _ => rfl
theorem od_mul : OpD X ad (binaryOp .Mult) gMul := od_I op_mulW (fun i j h => (of_decide_eq_true h : i.natAbs.log2 + j.natAbs.log2 < 1000000)) fun _ _ _ _ => rfl
theorem od_fdiv : OpD X ad (binaryOp .FloorDiv) gFdiv := od_I op_fdivW (fun i j h => (of_decide_eq_true h : 0 < j ∧ j.natAbs.log2 < 9000)) fun _ _ _ _ => rfl
theorem od_mod : OpD X ad (binaryOp .Mod) gMod := od_I op_mod (fun i j h => of_decide_eq_true h) fun _ _ _ _ => rfl
theorem od_pow : OpD X ad (binaryOp .Pow) gPow := od_I op_pow (fun i j h => (of_decide_eq_true h : 0 ≤ j ∧ j ≤ 1000000 ∧ i.natAbs < 2 ^ 64)) fun _ _ _ _ => rfl

/-! ### comparisons -/
/-- ints, texts -/
def gCmp (f : Int → Int → Bool) (g : Str → Str → Bool) : Store → D → D → Option (D × Store) := fun O x y => match x, y with
  | .int i, .int j => some (.bl (f i j), O)
  | .str i, .str j => some (.bl (g i j), O)
  | _, _ => none
def gLt := gCmp (fun i j => decide (i < j)) (fun i j => decide (i.cps.toList < j.cps.toList))
def gLe := gCmp (fun i j => decide (i ≤ j)) (fun i j => !decide (j.cps.toList < i.cps.toList))
def gGt := gCmp (fun i j => decide (j < i)) (fun i j => decide (j.cps.toList < i.cps.toList))
def gGe := gCmp (fun i j => decide (j ≤ i)) (fun i j => !decide (i.cps.toList < j.cps.toList))
theorem od_cmp {bop : Value → Value → Sem Value} {f : Int → Int → Bool} {g : Str → Str → Bool} (h1 : OpR X bop (rI0 fun i j => .bl (f i j))) (h2 : OpR X bop (fun x y H Q => ∃ i j, x = .str i ∧ y = .str j ∧ Q (.bl (g i j)) H)) : OpD X ad bop (gCmp f g) where
  ok := by
    refine ⟨_, OpR.or h1 h2, ?_⟩
    intro S r O H x y d e W σ Q rs px py p
    unfold gCmp at p
    split at p
    · rename_i i j
      rw [show x = .int i from px, show y = .int j from py]
      exact .inl ⟨i, j, rfl, rfl, p S r H _ (Ext.refl _ _) rs rfl⟩
    · rename_i i j
      rw [show x = .str i from px, show y = .str j from py]
      exact .inr ⟨i, j, rfl, rfl, p S r H _ (Ext.refl _ _) rs rfl⟩
    · exact p.elim
theorem od_lt : OpD X ad (compareOp .Lt) gLt := od_cmp op_lt op_lt_str
theorem od_le : OpD X ad (compareOp .LtE) gLe := od_cmp op_le op_le_str
theorem od_gt : OpD X ad (compareOp .Gt) gGt := od_cmp op_gt op_gt_str
theorem od_ge : OpD X ad (compareOp .GtE) gGe := od_cmp op_ge op_ge_str
/-- flat values -/
def flatOf : D → Option V
  | .non => some .non
  | .bl b => some (.bl b)
  | .int i => some (.int i)
  | .str s => some (.str s)
  | _ => none
theorem flatOf_ok {K : PySem.W.Frag} {S : Hp} {r : Rg} {d : D} {v x : V} (h : flatOf d = some v) (p : Rp K S r d x) : x = v ∧ flatV v = true := by
  cases d <;> first | (cases h; done) | (have e := Option.some.inj h; subst e; exact ⟨p, rfl⟩)
/-- a value read through, for == -/
def deep (O : Store) : Nat → D → Option PyData
  | 0, _ => none
  | n + 1, .non => some .none
  | n + 1, .bl b => some (.bool b)
  | n + 1, .int i => some (.int i)
  | n + 1, .str s => some (.str s)
  | n + 1, .lst xs => (xs.mapM (deep O n)).map .list
  | n + 1, .rol xs => (xs.mapM (deep O n)).map .list
  | n + 1, .tup xs => (xs.mapM (deep O n)).map .tuple
  | n + 1, .hdl k => match O[k]? with
    | some (.lst xs) => (xs.mapM (deep O n)).map .list
    | _ => none
theorem mapM_cons {α β : Type} {f : α → Option β} {x : α} {xs : List α} : (x :: xs).mapM f = (f x).bind fun y => (xs.mapM f).bind fun ys => some (y :: ys) := by
  simp [List.mapM_cons]
theorem deepAll_ok {K : PySem.W.Frag} {S : Hp} {r : Rg} {H : Hp} {g : D → Option PyData} (hg : ∀ d v p, Rp K S r d v → g d = some p → Dp K H v p) : ∀ {ds : List D} {vs : List V} {ps : List PyData}, RpAll K S r ds vs → ds.mapM g = some ps → DpAll K H vs ps
  | [], vs, ps, h, e => by
    rw [show vs = [] from h]
    have e : some [] = some ps := by rw [List.mapM_nil] at e; exact e
    cases e
    exact .nil
  | d :: ds, vs, ps, h, e => by
    obtain ⟨v, vr, rfl, h1, h2⟩ := h
    rw [mapM_cons] at e
    cases e1 : g d with
    | none => rw [e1] at e; cases e
    | some p =>
      rw [e1] at e
      cases e2 : ds.mapM g with
      | none =>
        rw [e2] at e
        cases e
      | some qs =>
        rw [e2] at e
        cases e
        exact .cons (hg d v p h1 e1) (deepAll_ok hg h2 e2)
theorem deep_ok {K : PySem.W.Frag} {S : Hp} {r : Rg} {O : Store} {H : Hp} (rs : Rs K ad S r O H) : ∀ (n : Nat) (d : D) (v : V) (p : PyData), Rp K S r d v → deep O n d = some p → Dp K H v p
  | 0, d, v, p, h, e => by cases e
  | n + 1, .non, v, p, h, e => by cases e; rw [show v = .non from h]; exact .non
  | n + 1, .bl b, v, p, h, e => by cases e; rw [show v = .bl b from h]; exact .bl b
  | n + 1, .int i, v, p, h, e => by cases e; rw [show v = .int i from h]; exact .int i
  | n + 1, .str s, v, p, h, e => by cases e; rw [show v = .str s from h]; exact .str s
  | n + 1, .lst xs, v, p, h, e => by
    obtain ⟨a, vs, rfl, q1, q2⟩ := h
    obtain ⟨ps, e1, rfl⟩ := Option.map_eq_some_iff.mp (show (xs.mapM (deep O n)).map .list = some p from e)
    exact .lst (.of (rs.sub _ _ q1)) (deepAll_ok (deep_ok rs n) q2 e1)
  | n + 1, .rol xs, v, p, h, e => by
    obtain ⟨a, vs, rfl, q1, q2⟩ := h
    obtain ⟨ps, e1, rfl⟩ := Option.map_eq_some_iff.mp (show (xs.mapM (deep O n)).map .list = some p from e)
    exact .lst (sqL_same rs.sub q1) (deepAll_ok (deep_ok rs n) q2 e1)
  | n + 1, .tup xs, v, p, h, e => by
    obtain ⟨a, vs, rfl, q1, q2⟩ := h
    obtain ⟨ps, e1, rfl⟩ := Option.map_eq_some_iff.mp (show (xs.mapM (deep O n)).map .tuple = some p from e)
    exact .tup (sqT_same rs.sub q1) (deepAll_ok (deep_ok rs n) q2 e1)
  | n + 1, .hdl k, v, p, h, e => by
    have e : (match O[k]? with | some (.lst xs) => (xs.mapM (deep O n)).map .list | _ => none) = some p := e
    split at e
    · rename_i xs hx
      obtain ⟨a, rfl, q1, _, vs, q3, q4⟩ := hdl_at rs h hx
      obtain ⟨ps, e1, rfl⟩ := Option.map_eq_some_iff.mp e
      exact .lst (.of q3) (deepAll_ok (deep_ok rs n) q4 e1)
    · cases e
/-- == -/
def eqD (O : Store) (x y : D) : Option Bool := match flatOf x, flatOf y with
  | some v, some u => if scal v u = true then some (decide (v = u)) else match deep O 2 x, deep O 2 y with
    | some p, some q => if SeqAt.shaped p = true ∧ SeqAt.shaped q = true then some (PyData.eqv p q) else none
    | _, _ => none
  | _, _ => match deep O 30 x, deep O 30 y with
    | some p, some q => if SeqAt.shaped p = true ∧ SeqAt.shaped q = true then some (PyData.eqv p q) else none
    | _, _ => none
def gEq : Store → D → D → Option (D × Store) := fun O x y => match eqD O x y with
  | some b => some (.bl b, O)
  | none => none
def gNe : Store → D → D → Option (D × Store) := fun O x y => match eqD O x y with
  | some b => some (.bl (!b), O)
  | none => none
theorem eqD_ok {S : Hp} {r : Rg} {O : Store} {H : Hp} {x y : V} {d e : D} {b : Bool} (rs : Rs X.K ad S r O H) (px : Rp X.K S r d x) (py : Rp X.K S r e y) (h : eqD O d e = some b) :
    (scal x y = true ∧ decide (x = y) = b) ∨ (∃ p q, Dp X.K H x p ∧ Dp X.K H y q ∧ SeqAt.shaped p = true ∧ SeqAt.shaped q = true ∧ PyData.eqv p q = b) := by
  have deepCase : ∀ n, (match deep O n d, deep O n e with | some p, some q => if SeqAt.shaped p = true ∧ SeqAt.shaped q = true then some (PyData.eqv p q) else none | _, _ => none) = some b →
      (∃ p q, Dp X.K H x p ∧ Dp X.K H y q ∧ SeqAt.shaped p = true ∧ SeqAt.shaped q = true ∧ PyData.eqv p q = b) := fun n h => by
    split at h
    · rename_i p q e1 e2
      split at h
      · rename_i hs
        exact ⟨p, q, deep_ok rs n d x p px e1, deep_ok rs n e y q py e2, hs.1, hs.2, Option.some.inj h⟩
      · cases h
    · cases h
  unfold eqD at h
  split at h
  · rename_i v u e1 e2
    split at h
    · rename_i hs
      obtain ⟨rfl, _⟩ := flatOf_ok e1 px
      obtain ⟨rfl, _⟩ := flatOf_ok e2 py
      exact .inl ⟨hs, Option.some.inj h⟩
    · exact .inr (deepCase 2 h)
  · exact .inr (deepCase 30 h)
theorem od_eq (hu : X.A.units + 64 < cLine) : OpD X ad (compareOp .Eq) gEq where
  ok := by
    refine ⟨_, OpR.or op_eq (op_eqD hu), ?_⟩
    intro S r O H x y d e W σ Q rs px py p
    unfold gEq at p
    split at p
    · rename_i b hb
      have q := p S r H (.bl b) (Ext.refl _ _) rs rfl
      rcases eqD_ok rs px py hb with ⟨h1, h2⟩ | ⟨p1, p2, h1, h2, h3, h4, h5⟩
      · exact .inl ⟨h1, by rw [h2]; exact q⟩
      · exact .inr ⟨p1, p2, h1, h2, h3, h4, by rw [h5]; exact q⟩
    · exact p.elim
theorem od_ne (hu : X.A.units + 64 < cLine) : OpD X ad (compareOp .NotEq) gNe where
  ok := by
    refine ⟨_, OpR.or op_ne (op_neD hu), ?_⟩
    intro S r O H x y d e W σ Q rs px py p
    unfold gNe at p
    split at p
    · rename_i b hb
      have q := p S r H (.bl (!b)) (Ext.refl _ _) rs rfl
      rcases eqD_ok rs px py hb with ⟨h1, h2⟩ | ⟨p1, p2, h1, h2, h3, h4, h5⟩
      · exact .inl ⟨h1, by rw [h2]; exact q⟩
      · exact .inr ⟨p1, p2, h1, h2, h3, h4, by rw [h5]; exact q⟩
    · exact p.elim
def isNon : D → Bool
  | .non => true
  | _ => false
theorem isNon_ok {K : PySem.W.Frag} {S : Hp} {r : Rg} {d : D} {x : V} (p : Rp K S r d x) : decide (x = .non) = isNon d := by
  cases d with
  | non => rw [show x = .non from p]; rfl
  | bl b => rw [show x = .bl b from p]; rfl
  | int i => rw [show x = .int i from p]; rfl
  | str s => rw [show x = .str s from p]; rfl
  | lst s => obtain ⟨a, _, rfl, _⟩ := p; rfl
  | rol s => obtain ⟨a, _, rfl, _⟩ := p; rfl
  | tup s => obtain ⟨a, _, rfl, _⟩ := p; rfl
  | hdl s => obtain ⟨a, rfl, _⟩ := p; rfl
def gIs : Store → D → D → Option (D × Store) := fun O x y => match y with
  | .non => some (.bl (isNon x), O)
  | _ => none
def gIsNot : Store → D → D → Option (D × Store) := fun O x y => match y with
  | .non => some (.bl (!isNon x), O)
  | _ => none
theorem od_is : OpD X ad (compareOp .Is) gIs where
  ok := by
    refine ⟨_, op_isN, ?_⟩
    intro S r O H x y d e W σ Q rs px py p
    unfold gIs at p
    split at p
    · exact ⟨py, by rw [isNon_ok px]; exact p S r H _ (Ext.refl _ _) rs rfl⟩
    · exact p.elim
theorem od_isnot : OpD X ad (compareOp .IsNot) gIsNot where
  ok := by
    refine ⟨_, op_notN, ?_⟩
    intro S r O H x y d e W σ Q rs px py p
    unfold gIsNot at p
    split at p
    · exact ⟨py, by rw [isNon_ok px]; exact p S r H _ (Ext.refl _ _) rs rfl⟩
    · exact p.elim
/-- in, not in: a sign in a text; a flat value in a list or tuple of flat ones -/
def inD (O : Store) (x y : D) : Option Bool := match x, y with
  | .str z, .str w => match z.cps.toList with
    | [c] => some (decide (c ∈ w.cps.toList))
    | _ => none
  | _, _ => match seqOf O y, flatOf x with
    | some ds, some v => match ds.mapM flatOf with
      | some vs => some (inV v vs)
      | none => none
    | _, _ => none
def gIn : Store → D → D → Option (D × Store) := fun O x y => match inD O x y with
  | some b => some (.bl b, O)
  | none => none
def gNotIn : Store → D → D → Option (D × Store) := fun O x y => match inD O x y with
  | some b => some (.bl (!b), O)
  | none => none
theorem flats_ok {K : PySem.W.Frag} {S : Hp} {r : Rg} : ∀ {ds : List D} {vs us : List V}, ds.mapM flatOf = some vs → RpAll K S r ds us → us = vs ∧ vs.all flatV = true
  | [], vs, us, e, h => by
    have e : some [] = some vs := by rw [List.mapM_nil] at e; exact e
    cases e
    exact ⟨h, rfl⟩
  | d :: ds, vs, us, e, h => by
    obtain ⟨v, vr, rfl, h1, h2⟩ := h
    rw [mapM_cons] at e
    cases e1 : flatOf d with
    | none => rw [e1] at e; cases e
    | some p =>
      rw [e1] at e
      cases e2 : ds.mapM flatOf with
      | none => rw [e2] at e; cases e
      | some qs =>
        rw [e2] at e
        cases e
        obtain ⟨rfl, f1⟩ := flatOf_ok e1 h1
        obtain ⟨rfl, f2⟩ := flats_ok e2 h2
        exact ⟨rfl, by rw [List.all_cons, f1, f2]; rfl⟩
theorem inD_ok {S : Hp} {r : Rg} {O : Store} {H : Hp} {x y : V} {d e : D} {b : Bool} (rs : Rs X.K ad S r O H) (px : Rp X.K S r d x) (py : Rp X.K S r e y) (h : inD O d e = some b) :
    (∃ (c : Nat) (z : Str), x = .str ⟨#[c]⟩ ∧ y = .str z ∧ decide (c ∈ z.cps.toList) = b) ∨ (∃ p xs, y = .ref p ∧ (SqL X.K H p xs ∨ SqT X.K H p xs) ∧ flatV x = true ∧ xs.all flatV = true ∧ inV x xs = b) := by
  unfold inD at h
  split at h
  · rename_i z w
    split at h
    · rename_i c hc
      refine .inl ⟨c, w, ?_, py, Option.some.inj h⟩
      rw [show x = .str z from px]
      congr 1
      obtain ⟨⟨l⟩⟩ := z
      have hc : l = [c] := hc
      rw [hc]
    · cases h
  · split at h
    · rename_i ds v e1 e2
      split at h
      · rename_i vs e3
        obtain ⟨a, us, rfl, q1, q2⟩ := seqOf_ok rs py e1
        obtain ⟨rfl, f1⟩ := flatOf_ok e2 px
        obtain ⟨rfl, f2⟩ := flats_ok e3 q2
        exact .inr ⟨a, us, rfl, q1, f1, f2, Option.some.inj h⟩
      · cases h
    · cases h
theorem od_in : OpD X ad (compareOp .In) gIn where
  ok := by
    refine ⟨_, OpR.or op_in_sign op_in_seq, ?_⟩
    intro S r O H x y d e W σ Q rs px py p
    unfold gIn at p
    split at p
    · rename_i b hb
      have q := p S r H (.bl b) (Ext.refl _ _) rs rfl
      rcases inD_ok rs px py hb with ⟨c, z, h1, h2, h3⟩ | ⟨p1, xs, h1, h2, h3, h4, h5⟩
      · exact .inl ⟨c, z, h1, h2, by rw [h3]; exact q⟩
      · exact .inr ⟨p1, xs, h1, h2, h3, h4, by rw [if_neg Bool.false_ne_true, h5]; exact q⟩
    · exact p.elim
theorem od_notin : OpD X ad (compareOp .NotIn) gNotIn where
  ok := by
    refine ⟨_, OpR.or op_notIn_sign op_notIn_seq, ?_⟩
    intro S r O H x y d e W σ Q rs px py p
    unfold gNotIn at p
    split at p
    · rename_i b hb
      have q := p S r H (.bl (!b)) (Ext.refl _ _) rs rfl
      rcases inD_ok rs px py hb with ⟨c, z, h1, h2, h3⟩ | ⟨p1, xs, h1, h2, h3, h4, h5⟩
      · exact .inl ⟨c, z, h1, h2, by rw [h3]; exact q⟩
      · exact .inr ⟨p1, xs, h1, h2, h3, h4, by rw [if_pos rfl, h5]; exact q⟩
    · exact p.elim
end

/-! ### subscripts -/
/-- xs[i], t[i], s[i] -/
def gIx : Store → D → D → Option (D × Store) := fun O x y => match y with
  | .int i => match x with
    | .str s => if s.length ≤ 1000000 then (match atI s.cps.toList i with
      | some c => some (.str ⟨#[c]⟩, O)
      | none => none) else none
    | _ => match seqOf O x with
      | some ds => match atI ds i with
        | some d => some (d, O)
        | none => none
      | none => none
  | _ => none
section
variable {X : Cx} {ad : Str → Addr} {J : JP} {W : WX} {pos p2 : Pos} {a b e : Expr} {ma mb : EM}
theorem atI_rp {K : PySem.W.Frag} {S : Hp} {r : Rg} {ds : List D} {vs : List V} {i : Int} {d : D} (h : RpAll K S r ds vs) (e : atI ds i = some d) : ∃ v, atI vs i = some v ∧ Rp K S r d v := by
  unfold atI at e ⊢
  rw [h.length]
  cases hj : ixN ds.length i with
  | none => rw [hj] at e; cases e
  | some j =>
    rw [hj] at e
    exact h.get e
theorem de_ix (ha : PE X a (tE X.K ad J W ma)) (hb : PE X b (tE X.K ad J W mb)) (hs : PlainIx b) : PE X (.Subscript a b pos) (tE X.K ad J W (mOp gIx ma mb)) := by
  refine pe_imp (pe_ix ix_seq ha hb hs) ?_
  rintro σ H Q ⟨S, r, L, O, j, rl, rs, p⟩
  refine ⟨S, r, L, O, j, rl, rs, (Post.bind p).imp ?_⟩
  rintro x H1 ⟨S1, r1, d, O1, e1, s1, p1, q1⟩
  refine ⟨S1, r1, L, O1, J.mono e1.s j, rl.mono e1, s1, (Post.bind q1).imp ?_⟩
  rintro y H2 ⟨S2, r2, e, O2, e2, s2, p2, q2⟩
  replace p1 := Rp.mono e2 d x p1
  replace q2 : Post X.K ad (fun S r => Rp X.K S r) W σ S2 r2 Q (ofO (gIx O2 d e)) := q2
  unfold gIx at q2
  split at q2
  · rename_i i
    rw [show y = .int i from p2]
    split at q2
    · rename_i s
      rw [show x = .str s from p1]
      split at q2
      · rename_i hl
        split at q2
        · rename_i c hc
          exact .inr (.inr ⟨s, i, c, rfl, rfl, million hl, hc, q2 S2 r2 H2 _ (Ext.refl _ _) s2 rfl⟩)
        · exact q2.elim
      · exact q2.elim
    · split at q2
      · rename_i ds hds
        split at q2
        · rename_i z hz
          obtain ⟨l, vs, rfl, h1, h2⟩ := seqOf_ok s2 p1 hds
          obtain ⟨v, hv, pv⟩ := atI_rp h2 hz
          have q := q2 S2 r2 H2 v (Ext.refl _ _) s2 pv
          rcases h1 with h1 | h1
          · exact .inl ⟨l, vs, i, v, rfl, rfl, h1, hv, q⟩
          · exact .inr (.inl ⟨l, vs, i, v, rfl, rfl, h1, hv, q⟩)
        · exact q2.elim
      · exact q2.elim
  · exact q2.elim
end
/-- lists alone -/
def lsqOf (O : Store) : D → Option (List D)
  | .lst xs => some xs
  | .rol xs => some xs
  | .hdl n => match O[n]? with
    | some (.lst xs) => some xs
    | _ => none
  | _ => none
theorem lsqOf_ok {K : PySem.W.Frag} {ad : Str → Addr} {S : Hp} {r : Rg} {O : Store} {H : Hp} {d : D} {x : V} {xs : List D} (s : Rs K ad S r O H) (p : Rp K S r d x) (h : lsqOf O d = some xs) : ∃ a vs, x = .ref a ∧ SqL K H a vs ∧ RpAll K S r xs vs := by
  cases d with
  | lst ds =>
    obtain rfl : ds = xs := Option.some.inj h
    obtain ⟨a, vs, e, q, w⟩ := p
    exact ⟨a, vs, e, .of (s.sub _ _ q), w⟩
  | rol ds =>
    obtain rfl : ds = xs := Option.some.inj h
    obtain ⟨a, vs, e, q, w⟩ := p
    exact ⟨a, vs, e, sqL_same s.sub q, w⟩
  | tup ds => cases h
  | hdl n =>
    replace h : (match O[n]? with | some (Ob.lst xs) => some xs | _ => none) = some xs := h
    split at h
    · rename_i zs e
      obtain rfl : zs = xs := Option.some.inj h
      obtain ⟨a, e1, e2, _, vs, e3, e4⟩ := hdl_at s p e
      exact ⟨a, vs, e1, .of e3, e4⟩
    · cases h
  | non => cases h
  | bl b => cases h
  | int i => cases h
  | str z => cases h
/-- a slice's ends -/
abbrev OM := Loc → Store → Res (Option Int)
def oNone : OM := fun _ O => .ok none O
def oSome (m : EM) : OM := fun L O => (m L O).bind fun d O1 => match d with
  | .int i => .ok (some i) O1
  | _ => .bad
def cutD {α : Type} (xs : List α) (lo hi : Option Int) : List α := (xs.drop (HT.sIx xs.length 0 lo)).take (HT.sIx xs.length xs.length hi - HT.sIx xs.length 0 lo)
def gSl (h : Bool) (x : D) (lo hi : Option Int) (O : Store) : Res D := match x with
  | .str s => if s.length ≤ 1000000 then .ok (.str (cutS s lo hi)) O else .bad
  | .tup ds => .ok (.tup (cutD ds lo hi)) O
  | _ => match lsqOf O x with
    | some ds => newL h (cutD ds lo hi) O
    | none => .bad
def mSl (h : Bool) (m : EM) (lo hi : OM) : EM := fun L O => (m L O).bind fun x O1 => (lo L O1).bind fun i O2 => (hi L O2).bind fun j O3 => gSl h x i j O3
section
variable {X : Cx} {ad : Str → Addr} {J : JP} {W : WX} {pos p2 : Pos} {a e : Expr} {ma : EM} {lo hi : Option Expr} {ml mh : OM}
def tO (K : PySem.W.Frag) (ad : Str → Addr) (J : JP) (W : WX) (m : OM) : TO := fun σ H Q => ∃ S r L O, J.p σ S ∧ Rl K S r L σ ∧ Rs K ad S r O H ∧ Post K ad (fun _ _ a v => v = a) W σ S r Q (m L O)
theorem po_imp {t t' : TO} (h : PO X lo t) (k : ∀ σ H Q, t' σ H Q → t σ H Q) : PO X lo t' := ⟨fun pins s σ H Q I q => h.run pins s σ H Q I (k σ H Q q)⟩
theorem do_none : PO X none (tO X.K ad J W oNone) := by
  refine po_imp po_none ?_
  rintro σ H Q ⟨S, r, L, O, j, rl, rs, p⟩
  exact p S r H none (Ext.refl _ _) rs rfl
theorem do_some (he : PE X e (tE X.K ad J W ma)) : PO X (some e) (tO X.K ad J W (oSome ma)) := by
  refine po_imp (po_some he) ?_
  rintro σ H Q ⟨S, r, L, O, j, rl, rs, p⟩
  refine ⟨S, r, L, O, j, rl, rs, (Post.bind p).imp ?_⟩
  rintro x H1 ⟨S1, r1, d, O1, e1, s1, p1, q1⟩
  cases d with
  | int i => exact ⟨i, p1, q1 S1 r1 H1 _ (Ext.refl _ _) s1 rfl⟩
  | non => exact q1.elim
  | bl i => exact q1.elim
  | str s => exact q1.elim
  | lst s => exact q1.elim
  | rol s => exact q1.elim
  | tup s => exact q1.elim
  | hdl s => exact q1.elim
theorem cut_rp {K : PySem.W.Frag} {S : Hp} {r : Rg} {ds : List D} {vs : List V} (h : RpAll K S r ds vs) (lo hi : Option Int) : RpAll K S r (cutD ds lo hi) (cutV vs lo hi) := by
  unfold cutD cutV
  rw [h.length]
  exact (h.drop _).take _
theorem de_sl {hm : Bool} (ha : PE X a (tE X.K ad J W ma)) (hl : PO X lo (tO X.K ad J W ml)) (hh : PO X hi (tO X.K ad J W mh)) : PE X (.Subscript a (.Slice lo hi none p2) pos) (tE X.K ad J W (mSl hm ma ml mh)) := by
  refine pe_imp (pe_slice (SlR.or sl_list (SlR.or sl_tupA sl_str)) ha hl hh) ?_
  rintro σ H Q ⟨S, r, L, O, j, rl, rs, p⟩
  refine ⟨S, r, L, O, j, rl, rs, (Post.bind p).imp ?_⟩
  rintro x H1 ⟨S1, r1, d, O1, e1, s1, p1, q1⟩
  refine ⟨S1, r1, L, O1, J.mono e1.s j, rl.mono e1, s1, (Post.bind q1).imp ?_⟩
  rintro i H2 ⟨S2, r2, i', O2, e2, s2, rfl, q2⟩
  refine ⟨S2, r2, L, O2, J.mono (e1.trans e2).s j, rl.mono (e1.trans e2), s2, (Post.bind q2).imp ?_⟩
  rintro k H3 ⟨S3, r3, k', O3, e3, s3, rfl, q3⟩
  replace p1 := Rp.mono (e2.trans e3) d x p1
  unfold gSl at q3
  split at q3
  · rename_i s
    rw [show x = .str s from p1]
    split at q3
    · rename_i hl
      exact .inr (.inr ⟨s, rfl, million hl, q3 S3 r3 H3 _ (Ext.refl _ _) s3 rfl⟩)
    · exact q3.elim
  · rename_i ds
    obtain ⟨l, vs, rfl, h1, h2⟩ := p1
    have h3 := cut_rp h2 i k
    refine .inr (.inl ⟨l, vs, rfl, sqT_same s3.sub h1, fun ⟨z1, z2⟩ => ?_, fun _ => newT_post s3 h3 q3⟩)
    refine q3 S3 r3 H3 _ (Ext.refl _ _) s3 ⟨l, vs, rfl, h1, ?_⟩
    have e4 : cutV vs i k = vs := by
      unfold cutV
      rw [z1, z2, List.drop_zero, Nat.sub_zero, List.take_length]
    rw [e4] at h3
    exact h3
  · split at q3
    · rename_i ds hds
      obtain ⟨l, vs, rfl, h1, h2⟩ := lsqOf_ok s3 p1 hds
      exact .inl ⟨l, vs, rfl, h1, (newL_post s3 (cut_rp h2 i k) q3).2⟩
    · exact q3.elim
end
end DK
end
section
set_option Elab.async false
set_option linter.all false
set_option autoImplicit false
set_option maxRecDepth 100000
set_option maxHeartbeats 4000000
/-! DKCall: built-ins, methods, fields, objects, by mirrors. -/
namespace DK
open PySem L2

def g1 (f : Store → D → Option (D × Store)) : Store → List D → Option (D × Store) := fun O ds => match ds with
  | [d] => f O d
  | _ => none
def g2 (f : Store → D → D → Option (D × Store)) : Store → List D → Option (D × Store) := fun O ds => match ds with
  | [d, e] => f O d e
  | _ => none
theorem g1_cases {α : Type} {f : Store → D → Option (D × Store)} {O : Store} {ds : List D} {P : Res D → Prop} (hb : P .bad → False) (h : P (ofO (g1 f O ds))) : ∃ d, ds = [d] ∧ P (ofO (f O d)) := by
  unfold g1 at h
  split at h
  · exact ⟨_, rfl, h⟩
  · exact (hb h).elim
theorem g2_cases {f : Store → D → D → Option (D × Store)} {O : Store} {ds : List D} {P : Res D → Prop} (hb : P .bad → False) (h : P (ofO (g2 f O ds))) : ∃ d e, ds = [d, e] ∧ P (ofO (f O d e)) := by
  unfold g2 at h
  split at h
  · exact ⟨_, _, rfl, h⟩
  · exact (hb h).elim

/-! ### len, int, abs, str, list, .. -/
def gLen : Store → D → Option (D × Store) := fun O d => match d with
  | .str s => if s.length ≤ 1000000 then some (.int s.length, O) else none
  | .hdl n => match O[n]? with
    | some (.lst xs) => some (.int xs.length, O)
    | some (.dct xs) => some (.int xs.length, O)
    | _ => none
  | _ => match seqOf O d with
    | some xs => some (.int xs.length, O)
    | none => none
def gInt : Store → D → Option (D × Store) := fun O d => match d with
  | .int i => some (.int i, O)
  | .bl b => some (.int (if b then 1 else 0), O)
  | .str s => if s.length ≤ 640 then (match PySem.intText? s with
    | some n => some (.int n, O)
    | none => none) else none
  | _ => none
def gAbs : Store → D → Option (D × Store) := fun O d => match d with
  | .int i => some (.int (if i < 0 then -i else i), O)
  | _ => none
def gMax2 : Store → D → D → Option (D × Store) := fun O d e => match d, e with
  | .int i, .int j => some (.int (if j > i then j else i), O)
  | _, _ => none
def gMin2 : Store → D → D → Option (D × Store) := fun O d e => match d, e with
  | .int i, .int j => some (.int (if j < i then j else i), O)
  | _, _ => none
def gStr : Store → D → Option (D × Store) := fun O d => match d with
  | .int i => if i.natAbs.log2 < 1920 then some (.str (toString i), O) else none
  | .str s => some (.str s, O)
  | _ => none
def gList (h : Bool) : Store → D → Option (D × Store) := fun O d => match seqOf O d with
  | some xs => newLO h xs O
  | none => none
def intsOf : List D → Option (List Int)
  | [] => some []
  | .int i :: ds => (intsOf ds).map (i :: ·)
  | _ => none
def gSum : Store → D → Option (D × Store) := fun O d => match lsqOf O d with
  | some xs => match intsOf xs with
    | some ns => some (.int ns.sum, O)
    | none => none
  | none => none
def maxI : List Int → Option Int
  | [] => none
  | x :: xs => some (xs.foldl (fun a b => if b > a then b else a) x)
def minI : List Int → Option Int
  | [] => none
  | x :: xs => some (xs.foldl (fun a b => if b < a then b else a) x)
def gMaxL : Store → D → Option (D × Store) := fun O d => match lsqOf O d with
  | some xs => match (intsOf xs).bind maxI with
    | some n => some (.int n, O)
    | none => none
  | none => none
def gMinL : Store → D → Option (D × Store) := fun O d => match lsqOf O d with
  | some xs => match (intsOf xs).bind minI with
    | some n => some (.int n, O)
    | none => none
  | none => none
def boolsOf : List D → Option (List Bool)
  | [] => some []
  | .bl i :: ds => (boolsOf ds).map (i :: ·)
  | _ => none
def gAny : Store → D → Option (D × Store) := fun O d => match lsqOf O d with
  | some xs => match boolsOf xs with
    | some ns => some (.bl (ns.any id), O)
    | none => none
  | none => none
def gAll : Store → D → Option (D × Store) := fun O d => match lsqOf O d with
  | some xs => match boolsOf xs with
    | some ns => some (.bl (ns.all id), O)
    | none => none
  | none => none
theorem intsOf_rp {K : PySem.W.Frag} {S : Hp} {r : Rg} : ∀ {ds : List D} {vs : List V} {ns : List Int}, RpAll K S r ds vs → intsOf ds = some ns → vs = ns.map V.int
  | [], vs, ns, h, e => by cases e; exact h
  | .int i :: ds, vs, ns, h, e => by
    obtain ⟨v, vr, rfl, rfl, h2⟩ := h
    have e : (intsOf ds).map (i :: ·) = some ns := e
    obtain ⟨ms, e1, rfl⟩ := Option.map_eq_some_iff.mp e
    rw [intsOf_rp h2 e1]
    rfl
  | .non :: _, _, _, _, e => by cases e
  | .bl _ :: _, _, _, _, e => by cases e
  | .str _ :: _, _, _, _, e => by cases e
  | .lst _ :: _, _, _, _, e => by cases e
  | .rol _ :: _, _, _, _, e => by cases e
  | .tup _ :: _, _, _, _, e => by cases e
  | .hdl _ :: _, _, _, _, e => by cases e
theorem boolsOf_rp {K : PySem.W.Frag} {S : Hp} {r : Rg} : ∀ {ds : List D} {vs : List V} {ns : List Bool}, RpAll K S r ds vs → boolsOf ds = some ns → vs = ns.map V.bl
  | [], vs, ns, h, e => by cases e; exact h
  | .bl i :: ds, vs, ns, h, e => by
    obtain ⟨v, vr, rfl, rfl, h2⟩ := h
    have e : (boolsOf ds).map (i :: ·) = some ns := e
    obtain ⟨ms, e1, rfl⟩ := Option.map_eq_some_iff.mp e
    rw [boolsOf_rp h2 e1]
    rfl
  | .non :: _, _, _, _, e => by cases e
  | .int _ :: _, _, _, _, e => by cases e
  | .str _ :: _, _, _, _, e => by cases e
  | .lst _ :: _, _, _, _, e => by cases e
  | .rol _ :: _, _, _, _, e => by cases e
  | .tup _ :: _, _, _, _, e => by cases e
  | .hdl _ :: _, _, _, _, e => by cases e
theorem maxI_is {ns : List Int} {m m' : Int} (h : maxI ns = some m) (h1 : m' ∈ ns) (h2 : ∀ y, y ∈ ns → y ≤ m') : m' = m := by
  have key : ∀ (l : List Int) (a : Int), (a ≤ l.foldl (fun a b => if b > a then b else a) a) ∧ (∀ y ∈ l, y ≤ l.foldl (fun a b => if b > a then b else a) a) ∧ (l.foldl (fun a b => if b > a then b else a) a = a ∨ l.foldl (fun a b => if b > a then b else a) a ∈ l) := by
    intro l
    induction l with
    | nil => intro a; exact ⟨Int.le_refl a, fun y hy => by simp at hy, .inl rfl⟩
    | cons b l ih =>
      intro a
      obtain ⟨i1, i2, i3⟩ := ih (if b > a then b else a)
      rw [List.foldl_cons]
      refine ⟨?_, fun y hy => ?_, ?_⟩
      · refine Int.le_trans ?_ i1
        split <;> omega
      · rcases List.mem_cons.mp hy with rfl | hy
        · refine Int.le_trans ?_ i1
          split <;> omega
        · exact i2 y hy
      · rcases i3 with i3 | i3
        · rw [i3]
          split
          · exact .inr List.mem_cons_self
          · exact .inl rfl
        · exact .inr (List.mem_cons_of_mem _ i3)
  cases ns with
  | nil => cases h
  | cons a l =>
    cases h
    obtain ⟨i1, i2, i3⟩ := key l a
    refine Int.le_antisymm ?_ (h2 _ ?_)
    · rcases List.mem_cons.mp h1 with rfl | h1
      · exact i1
      · exact i2 _ h1
    · rcases i3 with i3 | i3
      · rw [i3]; exact List.mem_cons_self
      · exact List.mem_cons_of_mem _ i3
theorem minI_is {ns : List Int} {m m' : Int} (h : minI ns = some m) (h1 : m' ∈ ns) (h2 : ∀ y, y ∈ ns → m' ≤ y) : m' = m := by
  have key : ∀ (l : List Int) (a : Int), (l.foldl (fun a b => if b < a then b else a) a ≤ a) ∧ (∀ y ∈ l, l.foldl (fun a b => if b < a then b else a) a ≤ y) ∧ (l.foldl (fun a b => if b < a then b else a) a = a ∨ l.foldl (fun a b => if b < a then b else a) a ∈ l) := by
    intro l
    induction l with
    | nil => intro a; exact ⟨Int.le_refl a, fun y hy => by simp at hy, .inl rfl⟩
    | cons b l ih =>
      intro a
      obtain ⟨i1, i2, i3⟩ := ih (if b < a then b else a)
      rw [List.foldl_cons]
      refine ⟨?_, fun y hy => ?_, ?_⟩
      · refine Int.le_trans i1 ?_
        split <;> omega
      · rcases List.mem_cons.mp hy with rfl | hy
        · refine Int.le_trans i1 ?_
          split <;> omega
        · exact i2 y hy
      · rcases i3 with i3 | i3
        · rw [i3]
          split
          · exact .inr List.mem_cons_self
          · exact .inl rfl
        · exact .inr (List.mem_cons_of_mem _ i3)
  cases ns with
  | nil => cases h
  | cons a l =>
    cases h
    obtain ⟨i1, i2, i3⟩ := key l a
    refine Int.le_antisymm (h2 _ ?_) ?_
    · rcases i3 with i3 | i3
      · rw [i3]; exact List.mem_cons_self
      · exact List.mem_cons_of_mem _ i3
    · rcases List.mem_cons.mp h1 with rfl | h1
      · exact i1
      · exact i2 _ h1
section
variable {X : Cx} {ad : Str → Addr}
theorem cd_1 {f : Value} {rr : List V → Hp → VK → Prop} {g : Store → D → Option (D × Store)} (hc : CallR X f rr)
    (h : ∀ (S : Hp) (r : Rg) (O : Store) (H : Hp) (x : V) (d : D) (W : WX) (σ : L2.St) (Q : VK), Rs X.K ad S r O H → Rp X.K S r d x → Post X.K ad (fun S r => Rp X.K S r) W σ S r Q (ofO (g O d)) → rr [x] H Q) : CallD X ad f (g1 g) where
  ok := by
    refine ⟨rr, hc, fun S r O H vs ds W σ Q rs p q => ?_⟩
    unfold g1 at q
    split at q
    · rename_i d
      obtain ⟨v, vr, rfl, h1, rfl⟩ := p
      exact h S r O H v d W σ Q rs h1 q
    · exact q.elim
theorem cd_2 {f : Value} {rr : List V → Hp → VK → Prop} {g : Store → D → D → Option (D × Store)} (hc : CallR X f rr)
    (h : ∀ (S : Hp) (r : Rg) (O : Store) (H : Hp) (x y : V) (d e : D) (W : WX) (σ : L2.St) (Q : VK), Rs X.K ad S r O H → Rp X.K S r d x → Rp X.K S r e y → Post X.K ad (fun S r => Rp X.K S r) W σ S r Q (ofO (g O d e)) → rr [x, y] H Q) : CallD X ad f (g2 g) where
  ok := by
    refine ⟨rr, hc, fun S r O H vs ds W σ Q rs p q => ?_⟩
    unfold g2 at q
    split at q
    · rename_i d e
      obtain ⟨v, vr, rfl, h1, u, ur, rfl, h2, rfl⟩ := p
      exact h S r O H v u d e W σ Q rs h1 h2 q
    · exact q.elim
theorem cd_len : CallD X ad (.builtin "len") (g1 gLen) := cd_1 (CallR.or call_len call_lenD) fun S r O H x d W σ Q rs p q => by
  have seqCase : ∀ {xs : List D}, seqOf O d = some xs → Post X.K ad (fun S r => Rp X.K S r) W σ S r Q (ofO (some (D.int xs.length, O))) → ((∃ y n, [x] = [y] ∧ LenV X.K y H n ∧ Q (.int n) H) ∨ (∃ a kvs, [x] = [V.ref a] ∧ H a = some (.dK kvs) ∧ Q (.int kvs.length) H)) := fun {xs} e q => by
    obtain ⟨a, vs, rfl, h1, h2⟩ := seqOf_ok rs p e
    refine .inl ⟨_, vs.length, rfl, ?_, by rw [h2.length]; exact q S r H _ (Ext.refl _ _) rs rfl⟩
    rcases h1 with h1 | h1
    · exact .inl ⟨vs, h1, rfl⟩
    · exact .inr ⟨vs, h1, rfl⟩
  unfold gLen at q
  split at q
  · rename_i s
    rw [show x = .str s from p]
    split at q
    · rename_i hl
      exact .inl ⟨_, s.length, rfl, ⟨million hl, rfl⟩, q S r H _ (Ext.refl _ _) rs rfl⟩
    · exact q.elim
  · rename_i n
    split at q
    · rename_i xs hx
      refine seqCase ?_ q
      show (match O[n]? with | some (Ob.lst xs) => some xs | _ => none) = some xs
      rw [hx]
    · rename_i xs hx
      obtain ⟨a, rfl, h1, _, vs, h2, h3⟩ := hdl_at rs p hx
      have hl : ∀ {ks : List (Key × D)} {us : List (Key × V)}, RpP X.K S r ks us → us.length = ks.length := fun {ks} => by
        induction ks with
        | nil => intro us h; rw [show us = [] from h]; rfl
        | cons k ks ih => intro us h; obtain ⟨_, _, rfl, _, h⟩ := h; rw [List.length_cons, List.length_cons, ih h]
      exact .inr ⟨a, vs, rfl, h2, by rw [hl h3]; exact q S r H _ (Ext.refl _ _) rs rfl⟩
    · exact q.elim
  · split at q
    · rename_i xs hx
      exact seqCase hx q
    · exact q.elim
theorem cd_int : CallD X ad (.type "int") (g1 gInt) := cd_1 (CallR.or call_int1 call_int_str) fun S r O H x d W σ Q rs p q => by
  unfold gInt at q
  split at q
  · rename_i i
    rw [show x = .int i from p]
    exact .inl (.inl ⟨i, rfl, q S r H _ (Ext.refl _ _) rs rfl⟩)
  · rename_i b
    rw [show x = .bl b from p]
    exact .inl (.inr ⟨b, rfl, q S r H _ (Ext.refl _ _) rs rfl⟩)
  · rename_i s
    rw [show x = .str s from p]
    split at q
    · rename_i hl
      split at q
      · rename_i n hn
        exact .inr ⟨s, n, rfl, hn, hl, q S r H _ (Ext.refl _ _) rs rfl⟩
      · exact q.elim
    · exact q.elim
  · exact q.elim
theorem cd_abs : CallD X ad (.builtin "abs") (g1 gAbs) := cd_1 call_abs fun S r O H x d W σ Q rs p q => by
  unfold gAbs at q
  split at q
  · rename_i i
    rw [show x = .int i from p]
    exact ⟨i, rfl, q S r H _ (Ext.refl _ _) rs rfl⟩
  · exact q.elim
theorem cd_max2 (hc : X.calm = true) : CallD X ad (.builtin "max") (g2 gMax2) := cd_2 (call_max2 hc) fun S r O H x y d e W σ Q rs p1 p2 q => by
  unfold gMax2 at q
  split at q
  · rename_i i j
    rw [show x = .int i from p1, show y = .int j from p2]
    exact ⟨i, j, rfl, q S r H _ (Ext.refl _ _) rs rfl⟩
  · exact q.elim
theorem cd_min2 (hc : X.calm = true) : CallD X ad (.builtin "min") (g2 gMin2) := cd_2 (call_min2 hc) fun S r O H x y d e W σ Q rs p1 p2 q => by
  unfold gMin2 at q
  split at q
  · rename_i i j
    rw [show x = .int i from p1, show y = .int j from p2]
    exact ⟨i, j, rfl, q S r H _ (Ext.refl _ _) rs rfl⟩
  · exact q.elim
theorem cd_str : CallD X ad (.type "str") (g1 gStr) := cd_1 (CallR.or call_str_int SkE.call_str_str) fun S r O H x d W σ Q rs p q => by
  unfold gStr at q
  split at q
  · rename_i i
    rw [show x = .int i from p]
    split at q
    · rename_i hl
      exact .inl ⟨i, rfl, hl, q S r H _ (Ext.refl _ _) rs rfl⟩
    · exact q.elim
  · rename_i i
    rw [show x = .str i from p]
    exact .inr ⟨i, rfl, q S r H _ (Ext.refl _ _) rs rfl⟩
  · exact q.elim
theorem cd_list (h : Bool) : CallD X ad (.type "list") (g1 (gList h)) := cd_1 call_list_of fun S r O H x d W σ Q rs p q => by
  unfold gList at q
  split at q
  · rename_i xs hx
    obtain ⟨a, vs, rfl, h1, h2⟩ := seqOf_ok rs p hx
    rw [ofO_newLO] at q
    exact ⟨a, vs, rfl, h1, (newL_post rs h2 q).2⟩
  · exact q.elim
theorem cd_sum (hc : X.calm = true) : CallD X ad (.builtin "sum") (g1 gSum) := cd_1 (cr_sum hc) fun S r O H x d W σ Q rs p q => by
  unfold gSum at q
  split at q
  · rename_i xs hx
    obtain ⟨a, vs, rfl, h1, h2⟩ := lsqOf_ok rs p hx
    split at q
    · rename_i ns hn
      rw [intsOf_rp h2 hn] at h1
      exact ⟨a, ns, rfl, h1, q S r H _ (Ext.refl _ _) rs rfl⟩
    · exact q.elim
  · exact q.elim
theorem cd_maxL (hc : X.calm = true) : CallD X ad (.builtin "max") (g1 gMaxL) := cd_1 (cr_max hc) fun S r O H x d W σ Q rs p q => by
  unfold gMaxL at q
  split at q
  · rename_i xs hx
    obtain ⟨a, vs, rfl, h1, h2⟩ := lsqOf_ok rs p hx
    split at q
    · rename_i n hn
      obtain ⟨ns, e1, e2⟩ := Option.bind_eq_some_iff.mp hn
      rw [intsOf_rp h2 e1] at h1
      refine ⟨a, ns, rfl, h1, ?_, fun m hm hy => ?_⟩
      · cases ns with
        | nil => cases e2
        | cons z zs => exact Nat.succ_pos _
      · rw [maxI_is e2 hm hy]
        exact q S r H _ (Ext.refl _ _) rs rfl
    · exact q.elim
  · exact q.elim
theorem cd_minL (hc : X.calm = true) : CallD X ad (.builtin "min") (g1 gMinL) := cd_1 (cr_min hc) fun S r O H x d W σ Q rs p q => by
  unfold gMinL at q
  split at q
  · rename_i xs hx
    obtain ⟨a, vs, rfl, h1, h2⟩ := lsqOf_ok rs p hx
    split at q
    · rename_i n hn
      obtain ⟨ns, e1, e2⟩ := Option.bind_eq_some_iff.mp hn
      rw [intsOf_rp h2 e1] at h1
      refine ⟨a, ns, rfl, h1, ?_, fun m hm hy => ?_⟩
      · cases ns with
        | nil => cases e2
        | cons z zs => exact Nat.succ_pos _
      · rw [minI_is e2 hm hy]
        exact q S r H _ (Ext.refl _ _) rs rfl
    · exact q.elim
  · exact q.elim
theorem cd_any (hc : X.calm = true) : CallD X ad (.builtin "any") (g1 gAny) := cd_1 (cr_any hc) fun S r O H x d W σ Q rs p q => by
  unfold gAny at q
  split at q
  · rename_i xs hx
    obtain ⟨a, vs, rfl, h1, h2⟩ := lsqOf_ok rs p hx
    split at q
    · rename_i ns hn
      rw [boolsOf_rp h2 hn] at h1
      exact ⟨a, ns, rfl, h1, q S r H _ (Ext.refl _ _) rs rfl⟩
    · exact q.elim
  · exact q.elim
theorem cd_all (hc : X.calm = true) : CallD X ad (.builtin "all") (g1 gAll) := cd_1 (cr_all hc) fun S r O H x d W σ Q rs p q => by
  unfold gAll at q
  split at q
  · rename_i xs hx
    obtain ⟨a, vs, rfl, h1, h2⟩ := lsqOf_ok rs p hx
    split at q
    · rename_i ns hn
      rw [boolsOf_rp h2 hn] at h1
      exact ⟨a, ns, rfl, h1, q S r H _ (Ext.refl _ _) rs rfl⟩
    · exact q.elim
  · exact q.elim
theorem ud_neg : UnD X ad (unaryOp .USub) (fun O d => match d with | .int i => some (.int (-i), O) | _ => none) where
  ok := by
    refine ⟨_, un_neg, fun S r O H x d W σ Q rs p q => ?_⟩
    split at q
    · rename_i i
      rw [show x = .int i from p]
      exact ⟨i, rfl, q S r H _ (Ext.refl _ _) rs rfl⟩
    · exact q.elim
end
def mNeg (m : EM) : EM := fun L O => (m L O).bind fun d O1 => match d with
  | .int i => .ok (.int (-i)) O1
  | _ => .bad

/-! ### isinstance -/
def tyD (O : Store) : D → Option String
  | .non => some "NoneType"
  | .bl _ => some "bool"
  | .int _ => some "int"
  | .str _ => some "str"
  | .lst _ => some "list"
  | .rol _ => some "list"
  | .tup _ => some "tuple"
  | .hdl n => match O[n]? with
    | some (.lst _) => some "list"
    | some (.dct _) => some "dict"
    | _ => none
/-- isinstance(x, T) -/
def mIsi (T : String) (m : EM) : EM := fun L O => (m L O).bind fun d O1 => match tyD O1 d with
  | some t => match kitB t T with
    | some b => .ok (.bl b) O1
    | none => .bad
  | none => .bad
def kitL (t : String) : List String → Option Bool
  | [] => some false
  | T :: Ts => match kitB t T with
    | some true => some true
    | some false => kitL t Ts
    | none => none
def mIsiT (Ts : List String) (m : EM) : EM := fun L O => (m L O).bind fun d O1 => match tyD O1 d with
  | some t => match kitL t Ts with
    | some b => .ok (.bl b) O1
    | none => .bad
  | none => .bad
section
variable {X : Cx} {ad : Str → Addr} {J : JP} {W : WX} {pos p p2 p3 p4 p5 : Pos} {a b e : Expr} {es : List Expr} {m : EM} {mt : AM}
theorem tyD_ok {S : Hp} {r : Rg} {O : Store} {H : Hp} {d : D} {x : V} {t : String} (rs : Rs X.K ad S r O H) (px : Rp X.K S r d x) (h : tyD O d = some t) : TyX X.K H x (.type t) := by
  cases d with
  | non => cases h; rw [show x = .non from px]; exact .base .non
  | bl b => cases h; rw [show x = .bl b from px]; exact .base (.bl b)
  | int b => cases h; rw [show x = .int b from px]; exact .base (.int b)
  | str b => cases h; rw [show x = .str b from px]; exact .base (.str b)
  | lst s =>
    cases h
    obtain ⟨a, vs, rfl, q, _⟩ := px
    exact .base (.lst (rs.sub _ _ q))
  | rol s =>
    cases h
    obtain ⟨a, vs, rfl, q, _⟩ := px
    rcases sqL_same rs.sub q with (q | ⟨o, q⟩) | ⟨o, its, n, q, c, _⟩
    · exact .base (.lst q)
    · exact .base (.frz q)
    · exact .kList q c
  | tup s =>
    cases h
    obtain ⟨a, vs, rfl, q, _⟩ := px
    rcases sqT_same rs.sub q with (q | ⟨o, q⟩) | ⟨o, its, n, q, c, _⟩
    · exact .base (.tup q)
    · exact .fTuple q
    · exact .kTuple q c
  | hdl n =>
    replace h : (match O[n]? with | some (Ob.lst _) => some "list" | some (Ob.dct _) => some "dict" | _ => none) = some t := h
    split at h
    · rename_i zs e
      cases h
      obtain ⟨a, rfl, _, _, vs, q, _⟩ := hdl_at rs px e
      exact .base (.lst q)
    · rename_i zs e
      cases h
      obtain ⟨a, rfl, _, _, vs, q, _⟩ := hdl_at rs px e
      exact .base (.dK q)
    · cases h
theorem de_isi {T : String} {x : Str} (hg : Gl X "isinstance") (hm : X.mg "isinstance" = none) (hv : bootBuiltins "isinstance" = some (.builtin "isinstance")) (hg2 : Gl X x) (hm2 : X.mg x = none) (hv2 : bootBuiltins x = some (.type T)) (he : PE X e (tE X.K ad J W m))
    (hn : x ≠ "__name__" := by decide) (hd : (x == ("__debug__" : Str)) = false := by decide)
    (hs1 : starEach (e :: [.Name x p2]) X.env = (false, eval e X.env) :: starEach [.Name x p2] X.env := by rfl) (hs2 : starEach (.Name x p2 :: []) X.env = (false, eval (.Name x p2) X.env) :: starEach [] X.env := by rfl)
    (hpl : (backTo pos (starEach [.Name x p2] X.env)).any (·.1) = false := by rfl) : PE X (.Call (.Name "isinstance" p) [e, .Name x p2] [] pos) (tE X.K ad J W (mIsi T m)) := by
  refine pe_imp (pe_callB call_isi hg hm hv (pa_cons he (pa_cons (pe_bltn (v := .ty T) hg2 hm2 hv2 rfl hn hd) pa_nil hs2) hs1) (by decide) (by decide) hs1 hpl) ?_
  rintro σ H Q ⟨S, r, L, O, j, rl, rs, q⟩
  refine ⟨S, r, L, O, j, rl, rs, (Post.bind q).imp ?_⟩
  rintro x H1 ⟨S1, r1, d, O1, e1, s1, p1, q1⟩
  split at q1
  · rename_i t ht
    split at q1
    · rename_i b hb
      exact ⟨x, .ty T, _, .type T, b, rfl, .ty T, tyD_ok s1 p1 ht, kit_ty hb, q1 S1 r1 H1 _ (Ext.refl _ _) s1 rfl⟩
    · exact q1.elim
  · exact q1.elim
/-- the classes written in a tuple -/
inductive TyEs (X : Cx) : List Expr → List String → Prop where
  | nil : TyEs X [] []
  | cons {x : Str} {q : Pos} {T : String} {es : List Expr} {Ts : List String} (hg2 : Gl X x) (hm2 : X.mg x = none) (hv2 : bootBuiltins x = some (.type T)) (hn : x ≠ "__name__") (hd : (x == ("__debug__" : Str)) = false)
      (hs : starEach (.Name x q :: es) X.env = (false, eval (.Name x q) X.env) :: starEach es X.env) (h : TyEs X es Ts) : TyEs X (.Name x q :: es) (T :: Ts)
def tTys (Ts : List String) : TA := fun _ H Q => Q (Ts.map V.ty) H
theorem TyEs.pa {es : List Expr} {Ts : List String} (h : TyEs X es Ts) : PA X es (tTys Ts) := by
  induction h with
  | nil => exact pa_imp pa_nil fun _ _ _ q => q
  | cons hg2 hm2 hv2 hn hd hs h ih => exact pa_imp (pa_cons (pe_bltn (v := .ty _) hg2 hm2 hv2 rfl hn hd) ih hs) fun _ _ _ q => q
theorem kitL_ok {K : PySem.W.Frag} {t : String} : ∀ {Ts : List String} {b : Bool}, kitL t Ts = some b → PySem.W.kitAny K (.type t) (Ts.map Value.type) = some b
  | [], b, h => h
  | T :: Ts, b, h => by
    unfold kitL at h
    split at h
    · rename_i hk
      exact kitAny_cons (kit_ty hk) (fun z => nomatch z) fun _ => (Option.some.inj h).symm
    · rename_i hk
      exact kitAny_cons (kit_ty hk) (fun _ => kitL_ok h) fun z => nomatch z
    · cases h
theorem paired_ty : ∀ Ts : List String, Paired ClsV (Ts.map V.ty) (Ts.map Value.type)
  | [] => .nil
  | T :: Ts => .cons (.ty T) (paired_ty Ts)
theorem de_isiT {Ts : List String} {k : Nat} (hg : Gl X "isinstance") (hm : X.mg "isinstance" = none) (hv : bootBuiltins "isinstance" = some (.builtin "isinstance")) (ht : TyEs X es Ts) (hl : Ts.length ≤ 1000) (he : PE X e (tE X.K ad J W m))
    (hs1 : starEach (e :: [.Tuple es k p2]) X.env = (false, eval e X.env) :: starEach [.Tuple es k p2] X.env := by rfl) (hs2 : starEach (.Tuple es k p2 :: []) X.env = (false, eval (.Tuple es k p2) X.env) :: starEach [] X.env := by rfl)
    (hpl : (backTo pos (starEach [.Tuple es k p2] X.env)).any (·.1) = false := by rfl) : PE X (.Call (.Name "isinstance" p) [e, .Tuple es k p2] [] pos) (tE X.K ad J W (mIsiT Ts m)) := by
  refine pe_imp (pe_callB call_isiT hg hm hv (pa_cons he (pa_cons (pe_tup ht.pa) pa_nil hs2) hs1) (by decide) (by decide) hs1 hpl) ?_
  rintro σ H Q ⟨S, r, L, O, j, rl, rs, q⟩
  refine ⟨S, r, L, O, j, rl, rs, (Post.bind q).imp ?_⟩
  rintro x H1 ⟨S1, r1, d, O1, e1, s1, p1, q1⟩
  refine ⟨by rw [List.length_map]; exact million (by omega), fun tp hp => ?_⟩
  split at q1
  · rename_i t ht
    split at q1
    · rename_i b hb
      have s2 := s1.junk (o := .tup (Ts.map V.ty)) hp
      exact ⟨x, tp, Ts.map V.ty, _, Ts.map Value.type, b, rfl, upd_same, paired_ty Ts, tyD_ok s2 p1 ht, kitL_ok hb, q1 S1 r1 _ _ (Ext.refl _ _) s2 rfl⟩
    · exact q1.elim
  · exact q1.elim
theorem de_neg (ha : PE X a (tE X.K ad J W m)) : PE X (.UnaryOp .USub a pos) (tE X.K ad J W (mNeg m)) := by
  refine pe_imp (pe_un un_neg ha) ?_
  rintro σ H Q ⟨S, r, L, O, j, rl, rs, q⟩
  refine ⟨S, r, L, O, j, rl, rs, (Post.bind q).imp ?_⟩
  rintro x H1 ⟨S1, r1, d, O1, e1, s1, p1, q1⟩
  cases d with
  | int i => exact ⟨i, p1, q1 S1 r1 H1 _ (Ext.refl _ _) s1 rfl⟩
  | non => exact q1.elim
  | bl i => exact q1.elim
  | str s => exact q1.elim
  | lst s => exact q1.elim
  | rol s => exact q1.elim
  | tup s => exact q1.elim
  | hdl s => exact q1.elim
end
end DK
end
section
set_option Elab.async false
set_option linter.all false
set_option autoImplicit false
set_option maxRecDepth 100000
set_option maxHeartbeats 4000000
/-! DKObj: lists that change, objects, exceptions, comprehensions, by mirrors. -/
namespace DK
open PySem L2

/-! ### lists that change -/
/-- xs.append(e), the list one of the store -/
def mApp (m e : EM) : EM := fun L O => (m L O).bind fun x O1 => match x with
  | .hdl n => match lstOf O1 (.hdl n) with
    | some _ => (e L O1).bind fun y O2 => match lstOf O2 (.hdl n) with
      | some xs => if xs.length ≤ 1000000 then .ok .non (O2.set n (.lst (xs ++ [y]))) else .bad
      | none => .bad
    | none => .bad
  | _ => .bad
/-- o[i] = v, the list one of the store -/
def bSubL (mo mi : EM) : BM := fun d L O => match mo L O with
  | .ok (.hdl n) O1 => match mi L O1 with
    | .ok (.int i) O2 => match lstOf O2 (.hdl n) with
      | some xs => match ixN xs.length i with
        | some k => some (L, O2.set n (.lst (xs.set k d)))
        | none => none
      | none => none
    | _ => none
  | _ => none
section
variable {X : Cx} {ad : Str → Addr} {J : JP} {W : WX} {pos p p2 apos cpos : Pos} {a b e o : Expr} {es : List Expr} {m me mo mi : EM} {mt : AM}
theorem hdl_lst {S : Hp} {r : Rg} {O : Store} {H : Hp} {n : Nat} {a : Addr} {xs : List D} (rs : Rs X.K ad S r O H) (hr : r.l[n]? = some a) (h : lstOf O (.hdl n) = some xs) : S a = none ∧ ∃ vs, H a = some (.lst vs) ∧ RpAll X.K S r xs vs := by
  replace h : (match O[n]? with | some (Ob.lst xs) => some xs | _ => none) = some xs := h
  split at h
  · rename_i zs hz
    obtain rfl : zs = xs := Option.some.inj h
    exact rs.ob n a _ hr hz
  · cases h
theorem set_lst {S : Hp} {r : Rg} {O : Store} {H : Hp} {n : Nat} {a : Addr} {vs us : List V} {ys : List D} (rs : Rs X.K ad S r O H) (hr : r.l[n]? = some a) (hz : S a = none) (h : RpAll X.K S r ys us) : Rs X.K ad S r (O.set n (.lst ys)) (upd H a (.lst us)) :=
  rs.write hr hz ⟨hz, us, upd_same, h⟩
theorem de_app (hm : PE X o (tE X.K ad J W m)) (he : PE X e (tE X.K ad J W me)) (hbase : attributeBase o "append" X.env (eval o X.env) = eval o X.env := by rfl)
    (hfew : ((backTo cpos (starEach (e :: []) X.env)).all (fun x => !x.1) && (backToKw cpos (keywordEach [] X.env)).all (fun x => x.1.isSome)
      && decide ((e :: []).length + ([] : List Keyword).length + (if ([] : List Keyword).isEmpty then 0 else 1) < 30)) = true := by rfl)
    (hline : (apos.endLine == cpos.line) = true := by rfl) (hs : starEach (e :: []) X.env = (false, eval e X.env) :: starEach [] X.env := by rfl) (hplain : (backTo cpos (starEach [] X.env)).any (·.1) = false := by rfl) :
    PE X (.Call (.Attribute o "append" apos) [e] [] cpos) (tE X.K ad J W (mApp m me)) := by
  refine pe_imp (pe_bm PySem.F.plainAttrs_list PySem.F.slot_list_append PySem.F.type_list_append mt_append hm (pa_cons he pa_nil hs) hbase hfew hline hs hplain) ?_
  rintro σ H Q ⟨S, r, L, O, j, rl, rs, q⟩
  refine ⟨S, r, L, O, j, rl, rs, (Post.bind q).imp ?_⟩
  rintro x H1 ⟨S1, r1, d, O1, e1, s1, p1, q1⟩
  cases d with
  | hdl n =>
    obtain ⟨l, rfl, hl⟩ := p1
    replace q1 : Post X.K ad (fun S r => Rp X.K S r) W σ S1 r1 Q (match lstOf O1 (.hdl n) with
      | some _ => (me L O1).bind fun y O2 => match lstOf O2 (.hdl n) with
        | some xs => if xs.length ≤ 1000000 then .ok .non (O2.set n (.lst (xs ++ [y]))) else .bad
        | none => .bad
      | none => .bad) := q1
    split at q1
    · rename_i zs hz
      obtain ⟨_, vs, g1, g2⟩ := hdl_lst s1 hl hz
      refine ⟨.inl ⟨rfl, vs, .of g1⟩, S1, r1, L, O1, J.mono e1.s j, rl.mono e1, s1, (Post.bind q1).imp ?_⟩
      rintro y H2 ⟨S2, r2, d, O2, e2, s2, p2, q2⟩
      have hl2 := pre_get e2.r hl
      replace q2 : Post X.K ad (fun S r => Rp X.K S r) W σ S2 r2 Q (match lstOf O2 (.hdl n) with | some xs => if xs.length ≤ 1000000 then .ok .non (O2.set n (.lst (xs ++ [d]))) else .bad | none => .bad) := q2
      split at q2
      · rename_i xs hx
        obtain ⟨z2, us, g3, g4⟩ := hdl_lst s2 hl2 hx
        split at q2
        · rename_i hlen
          exact ⟨l, us, y, rfl, rfl, g3, by rw [g4.length]; exact million_lt hlen, q2 S2 r2 _ _ (Ext.refl _ _) (set_lst (vs := us) s2 hl2 z2 (g4.append (.cons p2 .nil))) rfl⟩
        · exact q2.elim
      · exact q2.elim
    · exact q1.elim
  | non => exact q1.elim
  | bl i => exact q1.elim
  | int i => exact q1.elim
  | str s => exact q1.elim
  | lst s => exact q1.elim
  | rol s => exact q1.elim
  | tup s => exact q1.elim
theorem dg_subL (ho : PE X o (tE X.K ad J W mo)) (hi : PE X e (tE X.K ad J W mi))
    (ha : ∀ v, assign (.Subscript o e pos) X.env v = (do
      let ov ← holding [v] (eval o X.env)
      let iv ← holding [v, ov] (eval e X.env)
      standAt pos
      holding [v, ov, iv] (setItem ov iv v)
      release [v, ov, iv] []) := by intro _; rfl) : PG X (.Subscript o e pos) (tG X.K ad J (bSubL mo mi)) := by
  refine pg_imp (pg_sub ho hi set_list ha) ?_
  rintro v σ H Q ⟨S, r, L, O, d, j, rl, rs, rp, q⟩
  refine ⟨S, r, L, O, j, rl, rs, ?_⟩
  replace q : PostB X.K ad J S r Q (match mo L O with
    | .ok (.hdl n) O1 => match mi L O1 with
      | .ok (.int i) O2 => match lstOf O2 (.hdl n) with
        | some xs => match ixN xs.length i with
          | some k => some (L, O2.set n (.lst (xs.set k d)))
          | none => none
        | none => none
      | _ => none
    | _ => none) := q
  generalize mo L O = z at q
  cases z with
  | exc x O1 => exact q.elim
  | bad => exact q.elim
  | ok y O1 =>
    intro S1 r1 H1 u e1 s1 p1
    cases y with
    | hdl n =>
      obtain ⟨l, rfl, hl⟩ := p1
      refine ⟨S1, r1, L, O1, J.mono e1.s j, rl.mono e1, s1, ?_⟩
      replace q : PostB X.K ad J S r Q (match mi L O1 with
        | .ok (.int i) O2 => match lstOf O2 (.hdl n) with
          | some xs => match ixN xs.length i with
            | some k => some (L, O2.set n (.lst (xs.set k d)))
            | none => none
          | none => none
        | _ => none) := q
      generalize mi L O1 = z at q
      cases z with
      | exc x O2 => exact q.elim
      | bad => exact q.elim
      | ok y O2 =>
        intro S2 r2 H2 u2 e2 s2 p2
        cases y with
        | int i =>
          rw [show u2 = .int i from p2]
          have hl2 := pre_get e2.r hl
          replace q : PostB X.K ad J S r Q (match lstOf O2 (.hdl n) with
            | some xs => match ixN xs.length i with
              | some k => some (L, O2.set n (.lst (xs.set k d)))
              | none => none
            | none => none) := q
          split at q
          · rename_i xs hx
            obtain ⟨z2, us, g3, g4⟩ := hdl_lst s2 hl2 hx
            split at q
            · rename_i k hk
              refine ⟨l, us, i, k, rfl, rfl, g3, by rw [g4.length]; exact hk, ?_⟩
              exact q S2 r2 σ _ (e1.trans e2) (J.mono (e1.trans e2).s j) (rl.mono (e1.trans e2)) (set_lst (vs := us) s2 hl2 z2 (g4.set k (Rp.mono (e1.trans e2) d v rp)))
            · exact q.elim
          · exact q.elim
        | non => exact q.elim
        | bl i => exact q.elim
        | hdl i => exact q.elim
        | str s => exact q.elim
        | lst s => exact q.elim
        | rol s => exact q.elim
        | tup s => exact q.elim
    | non => exact q.elim
    | bl i => exact q.elim
    | int i => exact q.elim
    | str s => exact q.elim
    | lst s => exact q.elim
    | rol s => exact q.elim
    | tup s => exact q.elim
end
/-- a, b = a list -/
def bLst (n : Nat) (c : BsM) : BM := fun d L O => match lsqOf O d with
  | some ds => if ds.length = n then c ds L O else none
  | none => none
section
variable {X : Cx} {ad : Str → Addr} {J : JP} {W : WX} {pos : Pos} {es : List Expr} {bs : BsM}
theorem dg_lst {k n : Nat} (hc : X.calm = true) (h : PGs X es (tGs X.K ad J bs)) (hn : (assignEach es X.env).length = n := by rfl) (hst : (assignEach es X.env).findIdx? (·.1) = none := by rfl) : PG X (.Tuple es k pos) (tG X.K ad J (bLst n bs)) := by
  refine pg_imp (pg_lst hc h hn hst) ?_
  rintro v σ H Q ⟨S, r, L, O, d, j, rl, rs, rp, q⟩
  replace q : PostB X.K ad J S r Q (match lsqOf O d with | some ds => if ds.length = n then bs ds L O else none | none => none) := q
  split at q
  · rename_i ds hd
    obtain ⟨a, vs, rfl, q1, q2⟩ := lsqOf_ok rs rp hd
    split at q
    · rename_i hl
      exact ⟨a, vs, rfl, q1, by rw [q2.length]; exact hl, S, r, L, O, ds, j, rl, rs, q2, q⟩
    · exact q.elim
  · exact q.elim
end

/-! ### objects -/
def mFld (c f : Str) (m : EM) : EM := fun L O => (m L O).bind fun x O1 => match x with
  | .hdl n => match O1[n]? with
    | some (.ins c' fs) => if c' = c then (match fs.lookup f with
      | some d => .ok d O1
      | none => .bad) else .bad
    | _ => .bad
  | _ => .bad
def putD (f : Str) (d : D) : List (Str × D) → List (Str × D)
  | [] => [(f, d)]
  | (g, e) :: r => if g = f then (g, d) :: r else (g, e) :: putD f d r
/-- o.f = e : the value first -/
def sFldM (c f : Str) (mo mv : EM) : SM := fun L O => ofRes L (mv L O) fun y O1 => ofRes L (mo L O1) fun x O2 => match x with
  | .hdl n => match O2[n]? with
    | some (.ins c' fs) => if c' = c ∧ fs.length < 1000 then .next L (O2.set n (.ins c' (putD f y fs))) else .bad
    | _ => .bad
  | _ => .bad
def mMeth (c m : Str) (f : FM) (dds : List D) (mo : EM) (t : AM) : EM := fun L O => (mo L O).bind fun x O1 => match x with
  | .hdl n => match O1[n]? with
    | some (.ins c' fs) => if c' = c ∧ fs.lookup m = none then (t L O1).bind fun xs O2 => f (.hdl n :: (xs ++ dds)) O2 else .bad
    | _ => .bad
  | _ => .bad
def mMake (c : Str) (f : FM) (dds : List D) (t : AM) : EM := fun L O => (t L O).bind fun xs O1 => (f (.hdl O1.length :: (xs ++ dds)) (O1 ++ [.ins c []])).bind fun d O2 => match d with
  | .non => .ok (.hdl O1.length) O2
  | _ => .bad
section
variable {K : PySem.W.Frag} {S : Hp} {r : Rg}
theorem RpP.lookup {f : Str} : ∀ {fs : List (Str × D)} {gs : List (Str × V)} {d : D}, RpP K S r fs gs → fs.lookup f = some d → ∃ v, gs.lookup f = some v ∧ Rp K S r d v
  | [], gs, d, h, e => by cases e
  | (g, x) :: fs, gs, d, h, e => by
    obtain ⟨v, gr, rfl, h1, h2⟩ := h
    rw [List.lookup_cons] at e ⊢
    cases hb : f == g with
    | true =>
      rw [hb] at e
      cases e
      exact ⟨v, rfl, h1⟩
    | false =>
      rw [hb] at e
      exact RpP.lookup h2 e
theorem RpP.lookup0 {f : Str} : ∀ {fs : List (Str × D)} {gs : List (Str × V)}, RpP K S r fs gs → fs.lookup f = none → gs.lookup f = none
  | [], gs, h, e => by rw [show gs = [] from h]; rfl
  | (g, x) :: fs, gs, h, e => by
    obtain ⟨v, gr, rfl, h1, h2⟩ := h
    rw [List.lookup_cons] at e ⊢
    cases hb : f == g with
    | true => rw [hb] at e; cases e
    | false => rw [hb] at e; exact RpP.lookup0 h2 e
theorem RpP.length {κ : Type} : ∀ {fs : List (κ × D)} {gs : List (κ × V)}, RpP K S r fs gs → gs.length = fs.length
  | [], gs, h => by rw [show gs = [] from h]; rfl
  | (g, x) :: fs, gs, h => by
    obtain ⟨v, gr, rfl, h1, h2⟩ := h
    rw [List.length_cons, List.length_cons, RpP.length h2]
theorem RpP.put {f : Str} {d : D} {v : V} (hv : Rp K S r d v) : ∀ {fs : List (Str × D)} {gs : List (Str × V)}, RpP K S r fs gs → RpP K S r (putD f d fs) (putF f v gs)
  | [], gs, h => by
    rw [show gs = [] from h]
    exact ⟨v, [], rfl, hv, rfl⟩
  | (g, x) :: fs, gs, h => by
    obtain ⟨u, gr, rfl, h1, h2⟩ := h
    unfold putD putF
    split
    · exact ⟨v, gr, rfl, hv, h2⟩
    · exact ⟨u, putF f v gr, rfl, h1, RpP.put hv h2⟩
end
section
variable {X : Cx} {ad : Str → Addr} {J : JP} {W : WX} {pos pos' p p2 apos cpos : Pos} {a b e o : Expr} {es : List Expr} {m me mo mi mv : EM} {mt : AM} {c f : Str}
theorem de_fld (he : PE X e (tE X.K ad J W m)) (hc : Cls X.K (ad c)) (hn : NoAttr X.K (ad c) f) (hb : attributeBase e f X.env (eval e X.env) = eval e X.env := by rfl) : PE X (.Attribute e f pos) (tE X.K ad J W (mFld c f m)) := by
  refine pe_imp (pe_fld he hb) ?_
  rintro σ H Q ⟨S, r, L, O, j, rl, rs, q⟩
  refine ⟨S, r, L, O, j, rl, rs, (Post.bind q).imp ?_⟩
  rintro x H1 ⟨S1, r1, d, O1, e1, s1, p1, q1⟩
  cases d with
  | hdl n =>
    replace q1 : Post X.K ad (fun S r => Rp X.K S r) W σ S1 r1 Q (match O1[n]? with
      | some (.ins c' fs) => if c' = c then (match fs.lookup f with
        | some d => .ok d O1
        | none => .bad) else .bad
      | _ => .bad) := q1
    split at q1
    · rename_i c' fs ho
      split at q1
      · rename_i hcc
        subst hcc
        split at q1
        · rename_i d hd
          obtain ⟨l, rfl, _, _, dx, gs, g1, g2⟩ := hdl_at s1 p1 ho
          obtain ⟨v, hv, pv⟩ := g2.lookup hd
          exact ⟨l, ad c', dx, gs, v, rfl, g1, hc, hn, hv, q1 S1 r1 H1 v (Ext.refl _ _) s1 pv⟩
        · exact q1.elim
      · exact q1.elim
    · exact q1.elim
  | non => exact q1.elim
  | bl i => exact q1.elim
  | int i => exact q1.elim
  | str s => exact q1.elim
  | lst s => exact q1.elim
  | rol s => exact q1.elim
  | tup s => exact q1.elim
theorem ds_fld (ho : PE X o (tE X.K ad J W mo)) (he : PE X e (tE X.K ad J W mv)) (hc : Cls X.K (ad c)) (hn : NoAttr X.K (ad c) f) (hs : swapsWith e (some (.Attribute o f pos')) pos.line X.env = pure false := by rfl) : PS X (.Assign [.Attribute o f pos'] e pos) (tS X.K ad J W (sFldM c f mo mv)) := by
  refine ps_imp (ps_fld ho he hs) ?_
  rintro En σ H ⟨S, r, L, O, j, rl, rs, q⟩
  refine ⟨S, r, L, O, j, rl, rs, (bindS j rl q).imp ?_⟩
  rintro y H1 ⟨S1, r1, dy, O1, e1, s1, p1, q1⟩
  refine ⟨S1, r1, L, O1, J.mono e1.s j, rl.mono e1, s1, (bindS (J.mono e1.s j) (rl.mono e1) q1).imp ?_⟩
  rintro x H2 ⟨S2, r2, d, O2, e2, s2, p2, q2⟩
  cases d with
  | hdl n =>
    replace q2 : PostS X.K ad J W S2 r2 En (match O2[n]? with
      | some (.ins c' fs) => if c' = c ∧ fs.length < 1000 then .next L (O2.set n (.ins c' (putD f dy fs))) else .bad
      | _ => .bad) := q2
    split at q2
    · rename_i c' fs ho
      split at q2
      · rename_i hcc
        obtain ⟨rfl, hl⟩ := hcc
        obtain ⟨l, rfl, hr, hz, dx, gs, g1, g2⟩ := hdl_at s2 p2 ho
        refine ⟨l, ad c', dx, gs, rfl, g1, hc, hn, by rw [g2.length]; exact hl, ?_⟩
        exact q2 S2 r2 σ _ (Ext.refl _ _) (J.mono (e1.trans e2).s j) (rl.mono (e1.trans e2)) (s2.write hr hz ⟨hz, dx, _, upd_same, RpP.put (Rp.mono e2 _ _ p1) g2⟩)
      · exact q2.elim
    · exact q2.elim
  | non => exact q2.elim
  | bl i => exact q2.elim
  | int i => exact q2.elim
  | str s => exact q2.elim
  | lst s => exact q2.elim
  | rol s => exact q2.elim
  | tup s => exact q2.elim
/-- a method's call, at the slots -/
theorem meth_run {pins : List (Addr × Obj)} {s : Shared} {σ : L2.St} {H : Hp} {Q : VK} {k : Nat} {g : Addr} {fd : FuncData} {ps : List Str} {sp : Sp} {dvs : List V} {ds : List Value} {E : L2.St → XK} {nm : Str} {C : Addr} {t : TA} {ta : TE} {pl : Sem Bool}
    (he : PE X o ta) (hc : Cls X.K C) (hm : Meth X.K C nm g) (F : FnOk X.prog X.w X.K X.mg X.base (L2.CX X.prog X.w) k g fd ps sp) (hr : Room k X.A) (hb : Binds X.K fd ps ds) (hd : Vals dvs ds) (hx : ∀ σ, PassesAt (L2.CX X.prog X.w) X σ (E σ)) (ha : PA X (e :: es) t)
    (hst : starEach (e :: es) X.env = (false, eval e X.env) :: starEach es X.env) (hpl : (backTo pos (starEach es X.env)).any (·.1) = false)
    (ht : eval (.Call (.Attribute o nm apos) (e :: es) [] pos) X.env = (do
      let ov ← eval o X.env
      standAt apos.atName
      let (f, first) ← holding [ov] (getMethod ov nm pl)
      callWith pos f first (backTo pos (starEach (e :: es) X.env)) (backToKw pos (keywordEach [] X.env))))
    (I : Inv X pins σ H s) (h : ta σ H fun x H1 => ∃ a dx fs, x = .ref a ∧ H1 a = some (.ins C dx fs) ∧ fs.lookup nm = none ∧ t σ H1 fun vs H2 => sp (x :: (vs ++ dvs)) H2 Q (E σ)) :
    wpAny (model X.prog X.w) X.A (eval (.Call (.Attribute o nm apos) (e :: es) [] pos) X.env) (EP X pins σ Q) X.xe s := by
  refine PySem.W.methodCall_KW (pl := pl) (thn (he.run pins s σ H _ I h) ?_) ht
  rintro u s1 ⟨x, H1, I1, rx, a, dx, fs, ex, ea, l, q⟩
  subst ex
  obtain rfl : u = Value.ref a := rx
  refine getmeth_ok I1 ea hc hm l ?_
  refine PySem.W.callWith_K (first := [.ref a]) (h₀ := X.base) I.ok.mod.kin hm.kp (thn (ha.run pos pins s1 σ H1 _ I1 q) ?_) hst hpl
  rintro us s2 ⟨vs, H2, I2, rr, q2⟩
  exact ⟨I2.kIn, run_fnSD (us := .ref a :: us) (vs := .ref a :: vs) F hr hb hd (hx σ) I2 (.cons rfl rr) q2⟩
theorem meth_run0 {pins : List (Addr × Obj)} {s : Shared} {σ : L2.St} {H : Hp} {Q : VK} {k : Nat} {g : Addr} {fd : FuncData} {ps : List Str} {sp : Sp} {dvs : List V} {ds : List Value} {E : L2.St → XK} {nm : Str} {C : Addr} {ta : TE} {pl : Sem Bool}
    (he : PE X o ta) (hc : Cls X.K C) (hm : Meth X.K C nm g) (F : FnOk X.prog X.w X.K X.mg X.base (L2.CX X.prog X.w) k g fd ps sp) (hr : Room k X.A) (hb : Binds X.K fd ps ds) (hd : Vals dvs ds) (hx : ∀ σ, PassesAt (L2.CX X.prog X.w) X σ (E σ))
    (ht : eval (.Call (.Attribute o nm apos) [] [] pos) X.env = (do
      let ov ← eval o X.env
      standAt apos.atName
      let (f, first) ← holding [ov] (getMethod ov nm pl)
      callWith pos f first (backTo pos (starEach [] X.env)) (backToKw pos (keywordEach [] X.env))))
    (I : Inv X pins σ H s) (h : ta σ H fun x H1 => ∃ a dx fs, x = .ref a ∧ H1 a = some (.ins C dx fs) ∧ fs.lookup nm = none ∧ sp (x :: dvs) H1 Q (E σ)) :
    wpAny (model X.prog X.w) X.A (eval (.Call (.Attribute o nm apos) [] [] pos) X.env) (EP X pins σ Q) X.xe s := by
  refine PySem.W.methodCall_KW (pl := pl) (thn (he.run pins s σ H _ I h) ?_) ht
  rintro u s1 ⟨x, H1, I1, rx, a, dx, fs, ex, ea, l, q⟩
  subst ex
  obtain rfl : u = Value.ref a := rx
  refine getmeth_ok I1 ea hc hm l ?_
  exact PySem.W.callWith_K0 (first := [.ref a]) I1.kIn hm.kp (run_fnSD (us := [.ref a]) (vs := [.ref a]) F hr hb hd (hx σ) I1 (.cons rfl .nil) q)
theorem meth_imp {nm : Str} {n : Nat} {fm : FM} {dvs : List V} {dds : List D} (hdd : ∀ S r, RpAll X.K S r dds dvs) : ∀ σ H Q, tE X.K ad J W (mMeth c nm (arity n fm) dds mo mt) σ H Q →
    (tE X.K ad J W mo) σ H fun x H1 => ∃ a dx fs, x = .ref a ∧ H1 a = some (.ins (ad c) dx fs) ∧ fs.lookup nm = none ∧ (tA X.K ad J W mt) σ H1 fun vs H2 => spM X.K ad n fm (x :: (vs ++ dvs)) H2 Q (WE W σ) := by
  rintro σ H Q ⟨S, r, L, O, j, rl, rs, q⟩
  refine ⟨S, r, L, O, j, rl, rs, (Post.bind q).imp ?_⟩
  rintro x H1 ⟨S1, r1, d, O1, e1, s1, p1, q1⟩
  cases d with
  | hdl n' =>
    replace q1 : Post X.K ad (fun S r => Rp X.K S r) W σ S1 r1 Q (match O1[n']? with
      | some (.ins c' fs) => if c' = c ∧ fs.lookup nm = none then (mt L O1).bind fun xs O2 => arity n fm (.hdl n' :: (xs ++ dds)) O2 else .bad
      | _ => .bad) := q1
    split at q1
    · rename_i c' fs ho
      split at q1
      · rename_i hcc
        obtain ⟨rfl, hl⟩ := hcc
        obtain ⟨l, rfl, hr, hz, dx, gs, g1, g2⟩ := hdl_at s1 p1 ho
        refine ⟨l, dx, gs, rfl, g1, g2.lookup0 hl, S1, r1, L, O1, J.mono e1.s j, rl.mono e1, s1, (Post.bind q1).imp ?_⟩
        rintro vs H2 ⟨S2, r2, ds, O2, e2, s2, p2, q2⟩
        exact spM_ar s2 (.cons (Rp.mono e2 (.hdl n') _ p1) (p2.append (hdd S2 r2))) q2
      · exact q1.elim
    · exact q1.elim
  | non => exact q1.elim
  | bl i => exact q1.elim
  | int i => exact q1.elim
  | str s => exact q1.elim
  | lst s => exact q1.elim
  | rol s => exact q1.elim
  | tup s => exact q1.elim
theorem de_meth {nm : Str} {k n : Nat} {g : Addr} {fd : FuncData} {ps : List Str} {fm : FM} {dvs : List V} {dds : List D} {ds : List Value} {pl : Sem Bool} (he : PE X o (tE X.K ad J W mo)) (hc : Cls X.K (ad c)) (hm : Meth X.K (ad c) nm g) (F : FnOk X.prog X.w X.K X.mg X.base (L2.CX X.prog X.w) k g fd ps (spM X.K ad n fm))
    (hr : Room k X.A) (hb : Binds X.K fd ps ds) (hd : Vals dvs ds) (hdd : ∀ S r, RpAll X.K S r dds dvs) (tk : Takes X W) (ha : PA X (e :: es) (tA X.K ad J W mt))
    (hst : starEach (e :: es) X.env = (false, eval e X.env) :: starEach es X.env := by rfl) (hpl : (backTo pos (starEach es X.env)).any (·.1) = false := by rfl)
    (ht : eval (.Call (.Attribute o nm apos) (e :: es) [] pos) X.env = (do
      let ov ← eval o X.env
      standAt apos.atName
      let (f, first) ← holding [ov] (getMethod ov nm pl)
      callWith pos f first (backTo pos (starEach (e :: es) X.env)) (backToKw pos (keywordEach [] X.env))) := by rfl) :
    PE X (.Call (.Attribute o nm apos) (e :: es) [] pos) (tE X.K ad J W (mMeth c nm (arity n fm) dds mo mt)) :=
  ⟨fun pins s σ H Q I h => meth_run he hc hm F hr hb hd (fun σ => passAt tk σ) ha hst hpl ht I (meth_imp hdd σ H Q h)⟩
theorem de_meth0 {nm : Str} {k n : Nat} {g : Addr} {fd : FuncData} {ps : List Str} {fm : FM} {dvs : List V} {dds : List D} {ds : List Value} {pl : Sem Bool} (he : PE X o (tE X.K ad J W mo)) (hc : Cls X.K (ad c)) (hm : Meth X.K (ad c) nm g) (F : FnOk X.prog X.w X.K X.mg X.base (L2.CX X.prog X.w) k g fd ps (spM X.K ad n fm))
    (hr : Room k X.A) (hb : Binds X.K fd ps ds) (hd : Vals dvs ds) (hdd : ∀ S r, RpAll X.K S r dds dvs) (tk : Takes X W)
    (ht : eval (.Call (.Attribute o nm apos) [] [] pos) X.env = (do
      let ov ← eval o X.env
      standAt apos.atName
      let (f, first) ← holding [ov] (getMethod ov nm pl)
      callWith pos f first (backTo pos (starEach [] X.env)) (backToKw pos (keywordEach [] X.env))) := by rfl) :
    PE X (.Call (.Attribute o nm apos) [] [] pos) (tE X.K ad J W (mMeth c nm (arity n fm) dds mo mNil)) :=
  ⟨fun pins s σ H Q I h => meth_run0 he hc hm F hr hb hd (fun σ => passAt tk σ) ht I (by
    obtain ⟨S, r, L, O, j, rl, rs, q⟩ := meth_imp (mt := mNil) hdd σ H Q h
    refine ⟨S, r, L, O, j, rl, rs, q.imp ?_⟩
    rintro x H1 ⟨a, dx, fs, ex, ea, l, S1, r1, L1, O1, j1, rl1, rs1, q1⟩
    exact ⟨a, dx, fs, ex, ea, l, q1 S1 r1 H1 [] (Ext.refl _ _) rs1 rfl⟩)⟩
/-- an object is made, at the slots -/
theorem make_run {pins : List (Addr × Obj)} {s : Shared} {σ : L2.St} {H : Hp} {Q : VK} {k : Nat} {C g : Addr} {fd : FuncData} {ps : List Str} {sp : Sp} {dvs : List V} {ds : List Value} {E : XK} {us : List Value} {vs : List V} (M : Mk X.K C g) (F : FnOk X.prog X.w X.K X.mg X.base (L2.CX X.prog X.w) k g fd ps sp) (hr : Room (k + 1) X.A)
    (hb : Binds X.K fd ps ds) (hd : Vals dvs ds) (hx : PassesAt (L2.CX X.prog X.w) X σ E) (I : Inv X pins σ H s) (rr : Vals vs us)
    (h : ∀ x dx, H x = none → H dx = none → dx ≠ x → sp (.ref x :: (vs ++ dvs)) (upd (upd H dx (.own x)) x (.ins C dx [])) (fun v H2 => v = .non ∧ Q (.ref x) H2) E) :
    wpAny (model X.prog X.w) X.A (call (.ref C) us) (EP X pins σ Q) X.xe s := by
  let n := s.heap.objs.size
  have I2 := Inv.made (C := C) I
  have hq := h (n + 1) n (I.hok.fresh (Nat.le_succ n)) (I.hok.fresh (Nat.le_refl n)) (Nat.ne_of_lt (Nat.lt_succ_self n))
  have r2 : Vals (V.ref (n + 1) :: (vs ++ dvs)) (Value.ref (n + 1) :: (us ++ ds)) := .cons rfl (rr.append hd)
  have hl : ((Value.ref (n + 1) :: us) ++ ds).length = ps.length := by
    rw [← F.len _ _ _ _ hq]
    exact r2.length.symm
  have inner := F.run _ X.stack _ _ ⟨Value.ref (n + 1) :: us, []⟩ (Value.ref (n + 1) :: (us ++ ds)) _ _ E (hr.make C us []) (I2.env0.make C us []) (hb _ (Value.ref (n + 1) :: us) I2.kIn hl) r2 hq
  refine wpAny_call (make_map (f := g) I.kIn M.makes M.init (beq_iff_eq.mp M.fn) (codeAny_mono inner ?_))
  intro res s' hres
  cases res with
  | error e => exact hx pins _ _ e s' I2 hres
  | ok fl =>
    cases fl with
    | ret u =>
      obtain ⟨v, H', I3, rv, ev, q3⟩ := I2.after hres
      subst ev
      exact ⟨rv, V.ref (n + 1), H', I3, rfl, q3⟩
    | next => exact hres.elim
    | brk => exact hres.elim
    | cont => exact hres.elim
/-- the new object joins the store -/
theorem make_post {n : Nat} {fm : FM} {S : Hp} {r : Rg} {O : Store} {H : Hp} {xs : List D} {vs : List V} {σ : L2.St} {Q : VK} (rs : Rs X.K ad S r O H) (p : RpAll X.K S r xs vs)
    (q : Post X.K ad (fun S r => Rp X.K S r) W σ S r Q ((arity n fm (.hdl O.length :: xs) (O ++ [.ins c []])).bind fun d O2 => match d with | .non => .ok (.hdl O.length) O2 | _ => .bad)) :
    ∀ x dx, H x = none → H dx = none → dx ≠ x → spM X.K ad n fm (.ref x :: vs) (upd (upd H dx (.own x)) x (.ins (ad c) dx [])) (fun v H2 => v = .non ∧ Q (.ref x) H2) (WE W σ) := by
  intro x dx hx hdx hne
  have hx2 : (upd H dx (.own x)) x = none := by rw [upd_ne (Ne.symm hne)]; exact hx
  have s2 : Rs X.K ad S (r.push x) (O ++ [.ins c []]) (upd (upd H dx (.own x)) x (.ins (ad c) dx [])) := (rs.junk hdx).push hx2 ⟨rs.fresh hx, dx, [], upd_same, rfl⟩
  have e2 := Ext.push S r x
  have hself : Rp X.K S (r.push x) (.hdl O.length) (.ref x) := by
    refine ⟨x, rfl, ?_⟩
    show (r.l ++ [x])[O.length]? = some x
    rw [← rs.len, List.getElem?_append_right (Nat.le_refl _)]
    simp
  refine spM_ar (σ := σ) s2 (.cons hself (RpAll.mono e2 _ _ p)) ?_
  refine (Post.bind (Post.mono e2 q)).imp ?_
  rintro v H2 ⟨S3, r3, d, O3, e3, s3, p3, q3⟩
  cases d with
  | non => exact ⟨p3, q3 S3 r3 H2 _ (Ext.refl _ _) s3 (Rp.mono e3 (.hdl O.length) _ hself)⟩
  | hdl i => exact q3.elim
  | bl i => exact q3.elim
  | int i => exact q3.elim
  | str s => exact q3.elim
  | lst s => exact q3.elim
  | rol s => exact q3.elim
  | tup s => exact q3.elim
theorem de_make {x : Str} {k n : Nat} {g : Addr} {fd : FuncData} {ps : List Str} {fm : FM} {dvs : List V} {dds : List D} {ds : List Value} (M : Mk X.K (ad c) g) (F : FnOk X.prog X.w X.K X.mg X.base (L2.CX X.prog X.w) k g fd ps (spM X.K ad n fm)) (hr : Room (k + 1) X.A) (hg : Gl X x) (hm : X.mg x = some (.ref (ad c)))
    (hb : Binds X.K fd ps ds) (hd : Vals dvs ds) (hdd : ∀ S r, RpAll X.K S r dds dvs) (tk : Takes X W) (ha : PA X (e :: es) (tA X.K ad J W mt)) (hdb : (x == ("__debug__" : Str)) = false := by decide)
    (he : starEach (e :: es) X.env = (false, eval e X.env) :: starEach es X.env := by rfl) (hpl : (backTo pos (starEach es X.env)).any (·.1) = false := by rfl) : PE X (.Call (.Name x p) (e :: es) [] pos) (tE X.K ad J W (mMake c (arity n fm) dds mt)) := by
  refine ⟨fun pins s σ H Q I h => ?_⟩
  refine wpAny_Call_Name_kw (ld_glob I hg hm ?_ hdb)
  obtain ⟨S, r, L, O, j, rl, rs, q⟩ := h
  refine PySem.W.callWith_K (h₀ := X.base) I.ok.mod.kin M.kp (thn (ha.run pos pins s σ H _ I ⟨S, r, L, O, j, rl, rs, Post.bind q⟩) ?_) he hpl
  rintro us s1 ⟨vs, H1, I1, rr, S1, r1, ds, O1, e1, s1', p1, q1⟩
  exact ⟨I1.kIn, make_run M F hr hb hd (passAt tk σ) I1 rr (make_post s1' (p1.append (hdd S1 r1)) q1)⟩
theorem de_make0 {x : Str} {k n : Nat} {g : Addr} {fd : FuncData} {ps : List Str} {fm : FM} {dvs : List V} {dds : List D} {ds : List Value} (M : Mk X.K (ad c) g) (F : FnOk X.prog X.w X.K X.mg X.base (L2.CX X.prog X.w) k g fd ps (spM X.K ad n fm)) (hr : Room (k + 1) X.A) (hg : Gl X x) (hm : X.mg x = some (.ref (ad c)))
    (hb : Binds X.K fd ps ds) (hd : Vals dvs ds) (hdd : ∀ S r, RpAll X.K S r dds dvs) (tk : Takes X W) (hdb : (x == ("__debug__" : Str)) = false := by decide) : PE X (.Call (.Name x p) [] [] pos) (tE X.K ad J W (mMake c (arity n fm) dds mNil)) := by
  refine ⟨fun pins s σ H Q I h => ?_⟩
  refine wpAny_Call_Name_kw (ld_glob I hg hm ?_ hdb)
  obtain ⟨S, r, L, O, j, rl, rs, q⟩ := h
  refine PySem.W.callWith_K0 I.kIn M.kp ?_
  exact make_run (us := []) (vs := []) M F hr hb hd (passAt tk σ) I .nil (make_post rs (hdd S r) q)
end
end DK
end
section
set_option Elab.async false
set_option linter.all false
set_option autoImplicit false
set_option maxRecDepth 100000
set_option maxHeartbeats 4000000
/-! DKExc: raise, try, comprehensions, by mirrors. -/
namespace DK
open PySem L2

abbrev WF : WX := fun _ _ _ _ => False
theorem takesF {X : Cx} : Takes X WF := takes0

/-! ### raise, try -/
def sRaise (c : Str) (t : AM) : SM := fun L O => ofRes L (t L O) fun ds O1 => if ds.length ≤ 1000 then .exc ⟨c, none⟩ L O1 else .bad
def sTryAs (subc : Str → Option Bool) (i : Nat) (b : SM) (suite : Str → SM) : SM := fun L O => match b L O with
  | .next L1 O1 => .next L1 O1
  | .ret d O1 => .ret d O1
  | .brk L1 O1 => .brk L1 O1
  | .cnt L1 O1 => .cnt L1 O1
  | .exc ⟨c, none⟩ L1 O1 => match subc c with
    | some true => if i < L1.length then (match suite c (L1.set i none) O1 with
      | .next L2 O2 => .next (L2.set i none) O2
      | .ret d O2 => .ret d O2
      | .brk L2 O2 => .brk (L2.set i none) O2
      | .cnt L2 O2 => .cnt (L2.set i none) O2
      | _ => .bad) else .bad
    | some false => .exc ⟨c, none⟩ L1 O1
    | none => .bad
  | .exc ⟨_, some _⟩ _ _ => .bad
  | .bad => .bad
def sTry (subc : Str → Option Bool) (b : SM) (suite : Str → SM) : SM := fun L O => match b L O with
  | .next L1 O1 => .next L1 O1
  | .ret d O1 => .ret d O1
  | .brk L1 O1 => .brk L1 O1
  | .cnt L1 O1 => .cnt L1 O1
  | .exc ⟨c, none⟩ L1 O1 => match subc c with
    | some true => (match suite c L1 O1 with
      | .next L2 O2 => .next L2 O2
      | .ret d O2 => .ret d O2
      | .brk L2 O2 => .brk L2 O2
      | .cnt L2 O2 => .cnt L2 O2
      | _ => .bad)
    | some false => .exc ⟨c, none⟩ L1 O1
    | none => .bad
  | .exc ⟨_, some _⟩ _ _ => .bad
  | .bad => .bad
abbrev Jx (i : Nat) (a : Addr) : JP := ⟨fun σ _ => σ[i]? = some (some (.ref a)), fun _ h => h⟩
section
variable {X : Cx} {ad : Str → Addr} {J : JP} {W : WX} {pos pos' p p2 np : Pos} {e : Expr} {es : List Expr} {mt : AM} {c : Str} {body suite : List Stmt} {b0 : Stmt} {sb : SM} {ss : Str → SM}
theorem ds_raise {x : Str} {bmB : List Value} {B newId initId : String} (hc : X.calm = true) (tk : Takes X W) (F : ExcBaseFacts B newId initId bmB) (q : PySem.W.excIn X.K (ad c) bmB newId = true) (gC : X.mg x = some (.ref (ad c))) (kC : PySem.W.keepIn X.K (.ref (ad c)) = true) (r : Raises X (.ref (ad c))) (hg : Gl X x)
    (ha : PA X (e :: es) (tA X.K ad J W mt)) (hdb : (x == ("__debug__" : Str)) = false := by decide) (he : starEach (e :: es) X.env = (false, eval e X.env) :: starEach es X.env := by rfl) (hpl : (backTo p2 (starEach es X.env)).any (·.1) = false := by rfl) :
    PS X (.Raise (some (.Call (.Name x p) (e :: es) [] p2)) none pos) (tS X.K ad J W (sRaise c mt)) := by
  refine ps_imp (ps_raise hc tk (pmk_ownA F q gC kC r hg ha hdb he hpl)) ?_
  rintro En σ H ⟨S, r, L, O, j, rl, rs, z⟩
  refine ⟨S, r, L, O, j, rl, rs, (bindS j rl z).imp ?_⟩
  rintro vs H1 ⟨S1, r1, ds, O1, e1, s1, p1, q1⟩
  replace q1 : PostS X.K ad J W S1 r1 En (if ds.length ≤ 1000 then .exc ⟨c, none⟩ L O1 else .bad) := q1
  split at q1
  · rename_i hl
    exact ⟨by rw [p1.length]; exact million (by omega), q1 S1 r1 σ H1 none (Ext.refl _ _) (J.mono e1.s j) (rl.mono e1) s1 rfl⟩
  · exact q1.elim
/-- a statement whose mirror is told by what is at hand -/
theorem pss_ex {α : Type} {st : List Stmt} {P : α → Prop} {t : α → TS} (h : ∀ x, P x → PSs X st (t x)) : PSs X st (fun En σ H => ∃ x, P x ∧ t x En σ H) := ⟨fun pins s σ H En I ⟨x, hp, q⟩ => (h x hp).run pins s σ H En I q⟩
theorem ds_try_as {x n : Str} {i : Nat} {cv : Value} {subc : Str → Option Bool} (hs : X.stack = X.env :: X.outer) (hf : X.env.frame = some X.env.locals) (hN : X.N.Nodup) (hi : X.N[i]? = some n) (hln : X.env.kindOf n = some .local) (hc : Names X x cv) (tk : Takes X W)
    (hsub : ∀ nm b, subc nm = some b → PySem.W.exmOne X.K (.ref (ad nm)) cv = some b)
    (hb : ∀ (W : WX) (pn : List (Addr × Obj)) (xe : Value → Shared → Prop), Takes (X.tr pn xe) W → PassesOwn (model X.prog X.w) X.A X.env xe → PSs (X.tr pn xe) body (tS X.K ad JT W sb))
    (hsu : ∀ (nm : Str) (a : Addr) (oe : Obj) (pn : List (Addr × Obj)), subc nm = some true → Zc (.ref (ad nm)) none oe → (∃ vs, oe.data = .fields vs) → PSs (X.suite a ((a, oe) :: pn)) (b0 :: suite) (tS X.K ad (Jx i a) WF (ss nm))) :
    PS X (.Try body [.ExceptHandler (some (.Name x np)) (some n) (b0 :: suite) pos'] [] [] pos) (tS X.K ad JT W (sTryAs subc i sb ss)) := by
  refine ps_imp (ps_try_as (i := i) (tb := fun W => tS X.K ad JT W sb) (ts := fun a cls d En σ H => ∃ nm : Str, (cls = .ref (ad nm) ∧ d = none ∧ subc nm = some true) ∧ tS X.K ad (Jx i a) WF (ss nm) En σ H) hs hf hN hi hln hc tk hb ?_) ?_
  · intro a oe cls d pn hz hfl
    exact pss_ex fun nm hp => by
      obtain ⟨rfl, rfl, h3⟩ := hp
      exact hsu nm a oe pn h3 hz hfl
  rintro En σ H ⟨S, r, L, O, j, rl, rs, z⟩
  refine ⟨S, r, L, O, j, rl, rs, ?_⟩
  unfold sTryAs at z
  generalize sb L O = y at z
  cases y with
  | next L O => exact z
  | ret L O => exact z
  | brk L O => exact z
  | cnt L O => exact z
  | bad => exact z.elim
  | exc x L1 O1 =>
    obtain ⟨nm, fs⟩ := x
    cases fs with
    | some fs => exact z.elim
    | none =>
      replace z : PostS X.K ad JT W S r En (match subc nm with
        | some true => if i < L1.length then (match ss nm (L1.set i none) O1 with
          | .next L2 O2 => .next (L2.set i none) O2
          | .ret d O2 => .ret d O2
          | .brk L2 O2 => .brk (L2.set i none) O2
          | .cnt L2 O2 => .cnt (L2.set i none) O2
          | _ => .bad) else .bad
        | some false => .exc ⟨nm, none⟩ L1 O1
        | none => .bad) := z
      intro S1 r1 σ1 H1 d e1 j1 l1 s1 hd
      obtain rfl : d = none := hd
      cases hsc : subc nm with
      | none => rw [hsc] at z; exact z.elim
      | some b =>
        rw [hsc] at z
        refine ⟨b, hsub nm b hsc, fun hbt a ha => ?_, fun hbf => ?_⟩
        · subst hbt
          replace z : PostS X.K ad JT W S r En (if i < L1.length then (match ss nm (L1.set i none) O1 with
            | .next L2 O2 => .next (L2.set i none) O2
            | .ret d O2 => .ret d O2
            | .brk L2 O2 => .brk (L2.set i none) O2
            | .cnt L2 O2 => .cnt (L2.set i none) O2
            | _ => .bad) else .bad) := z
          refine ⟨nm, ⟨rfl, rfl, hsc⟩, S1, r1, L1.set i none, O1, ?_, l1.wipe i _, s1, ?_⟩
          · split at z
            · rename_i hil
              exact List.getElem?_set_self (by rw [l1.len]; exact hil)
            · exact z.elim
          · split at z
            · generalize ss nm (L1.set i none) O1 = y at z
              cases y with
              | next L2 O2 => exact fun S2 r2 σ2 H2 e2 j2 l2 s2 => z S2 r2 _ H2 (e1.trans e2) trivial (l2.wipe i none) s2
              | ret d O2 => exact fun S2 r2 H2 v e2 s2 p2 => z S2 r2 H2 v (e1.trans e2) s2 p2
              | brk L2 O2 => exact fun S2 r2 σ2 H2 e2 j2 l2 s2 => z S2 r2 _ H2 (e1.trans e2) trivial (l2.wipe i none) s2
              | cnt L2 O2 => exact fun S2 r2 σ2 H2 e2 j2 l2 s2 => z S2 r2 _ H2 (e1.trans e2) trivial (l2.wipe i none) s2
              | exc x L2 O2 => exact z.elim
              | bad => exact z.elim
            · exact z.elim
        · subst hbf
          exact z S1 r1 σ1 H1 none e1 j1 l1 s1 rfl
theorem ds_try {x : Str} {cv : Value} {subc : Str → Option Bool} (hs : X.stack = X.env :: X.outer) (hf : X.env.frame = some X.env.locals) (hc : Names X x cv) (tk : Takes X W)
    (hsub : ∀ nm b, subc nm = some b → PySem.W.exmOne X.K (.ref (ad nm)) cv = some b)
    (hb : ∀ (W : WX) (pn : List (Addr × Obj)) (xe : Value → Shared → Prop), Takes (X.tr pn xe) W → PassesOwn (model X.prog X.w) X.A X.env xe → PSs (X.tr pn xe) body (tS X.K ad JT W sb))
    (hsu : ∀ (nm : Str) (a : Addr) (oe : Obj) (pn : List (Addr × Obj)), subc nm = some true → Zc (.ref (ad nm)) none oe → (∃ vs, oe.data = .fields vs) → PSs (X.suite a ((a, oe) :: pn)) (b0 :: suite) (tS X.K ad JT WF (ss nm))) :
    PS X (.Try body [.ExceptHandler (some (.Name x np)) none (b0 :: suite) pos'] [] [] pos) (tS X.K ad JT W (sTry subc sb ss)) := by
  refine ps_imp (ps_try_only (tb := fun W => tS X.K ad JT W sb) (ts := fun a cls d En σ H => ∃ nm : Str, (cls = .ref (ad nm) ∧ d = none ∧ subc nm = some true) ∧ tS X.K ad JT WF (ss nm) En σ H) hs hf hc tk hb ?_) ?_
  · intro a oe cls d pn hz hfl
    exact pss_ex fun nm hp => by
      obtain ⟨rfl, rfl, h3⟩ := hp
      exact hsu nm a oe pn h3 hz hfl
  rintro En σ H ⟨S, r, L, O, j, rl, rs, z⟩
  refine ⟨S, r, L, O, j, rl, rs, ?_⟩
  unfold sTry at z
  generalize sb L O = y at z
  cases y with
  | next L O => exact z
  | ret L O => exact z
  | brk L O => exact z
  | cnt L O => exact z
  | bad => exact z.elim
  | exc x L1 O1 =>
    obtain ⟨nm, fs⟩ := x
    cases fs with
    | some fs => exact z.elim
    | none =>
      replace z : PostS X.K ad JT W S r En (match subc nm with
        | some true => (match ss nm L1 O1 with
          | .next L2 O2 => .next L2 O2
          | .ret d O2 => .ret d O2
          | .brk L2 O2 => .brk L2 O2
          | .cnt L2 O2 => .cnt L2 O2
          | _ => .bad)
        | some false => .exc ⟨nm, none⟩ L1 O1
        | none => .bad) := z
      intro S1 r1 σ1 H1 d e1 j1 l1 s1 hd
      obtain rfl : d = none := hd
      cases hsc : subc nm with
      | none => rw [hsc] at z; exact z.elim
      | some b =>
        rw [hsc] at z
        refine ⟨b, hsub nm b hsc, fun hbt a ha => ?_, fun hbf => ?_⟩
        · subst hbt
          refine ⟨nm, ⟨rfl, rfl, hsc⟩, S1, r1, L1, O1, trivial, l1, s1, ?_⟩
          generalize ss nm L1 O1 = y at z
          cases y with
          | next L2 O2 => exact fun S2 r2 σ2 H2 e2 j2 l2 s2 => z S2 r2 _ H2 (e1.trans e2) trivial l2 s2
          | ret d O2 => exact fun S2 r2 H2 v e2 s2 p2 => z S2 r2 H2 v (e1.trans e2) s2 p2
          | brk L2 O2 => exact fun S2 r2 σ2 H2 e2 j2 l2 s2 => z S2 r2 _ H2 (e1.trans e2) trivial l2 s2
          | cnt L2 O2 => exact fun S2 r2 σ2 H2 e2 j2 l2 s2 => z S2 r2 _ H2 (e1.trans e2) trivial l2 s2
          | exc x L2 O2 => exact z.elim
          | bad => exact z.elim
        · subst hbf
          exact z S1 r1 σ1 H1 none e1 j1 l1 s1 rfl
/-- isinstance(e, C) in an except suite, e what is handled -/
theorem de_isE {a : Addr} {oe : Obj} {pn : List (Addr × Obj)} {nm x ex : Str} {i : Nat} {v : V} {cv : Value} {b : Bool} (C : ExcC X.K (ad nm)) (hz : Zc (.ref (ad nm)) none oe) (hf : ∃ vs, oe.data = .fields vs) (hv : PE (X.suite a ((a, oe) :: pn)) (.Name ex p) (tVar i)) (hC : PE (X.suite a ((a, oe) :: pn)) (.Name x p2) (tC v))
    (hcv : ∀ u, RelV v u → u = cv) (hk : PySem.W.kitOne X.K (.ref (ad nm)) cv = some b) (hg : Gl X "isinstance") (hm : X.mg "isinstance" = none) (hbv : bootBuiltins "isinstance" = some (.builtin "isinstance"))
    (hs1 : starEach (.Name ex p :: [.Name x p2]) X.env = (false, eval (.Name ex p) X.env) :: starEach [.Name x p2] X.env := by rfl) (hs2 : starEach (.Name x p2 :: []) X.env = (false, eval (.Name x p2) X.env) :: starEach [] X.env := by rfl)
    (hpl : (backTo pos (starEach [.Name x p2] X.env)).any (·.1) = false := by rfl) :
    PE (X.suite a ((a, oe) :: pn)) (.Call (.Name "isinstance" np) [.Name ex p, .Name x p2] [] pos) (tE X.K ad (Jx i a) WF (mC (.bl b))) := by
  refine pe_imp (pe_callB (X := X.suite a ((a, oe) :: pn)) (call_isE C hz hf) hg hm hbv (pa_cons hv (pa_cons hC pa_nil hs2) hs1) (by decide) (by decide) hs1 hpl) ?_
  rintro σ H Q ⟨S, r, L, O, j, rl, rs, q⟩
  exact ⟨.ref a, j, v, cv, b, rfl, hcv, hk, q S r H _ (Ext.refl _ _) rs rfl⟩
end

/-! ### comprehensions -/
def wipeL (L : Loc) : List Nat → Loc
  | [] => L
  | v :: vs => (wipeL L vs).set v none
def lcTurn (vs : List Nat) (b : BM) (tt : TM) (el : EM) (L : Loc) (d : D) (O : Store) (acc : List D) : Option (Store × List D) := match b d (wipeL L vs) O with
  | some p => match tt p.1 p.2 with
    | .ok true O2 => match el p.1 O2 with
      | .ok y O3 => if acc.length ≤ 900000 then some (O3, acc ++ [y]) else none
      | _ => none
    | .ok false O2 => some (O2, acc)
    | _ => none
  | none => none
def lcG (nx : Nat → Store → Option (Option D)) (turn : D → Store → List D → Option (Store × List D)) : Nat → Nat → Store → List D → Option (Store × List D)
  | 0, i, O, acc => match nx i O with
    | some none => some (O, acc)
    | _ => none
  | k + 1, i, O, acc => match nx i O with
    | some none => some (O, acc)
    | some (some d) => match turn d O acc with
      | some p => lcG nx turn k (i + 1) p.1 p.2
      | none => none
    | none => none
def mYes : TM := fun _ O => .ok true O
def lcEnd (h : Bool) : Option (Store × List D) → Res D
  | some p => newL h p.2 p.1
  | none => .bad
/-- over a list -/
def mLcL (h : Bool) (src : EM) (vs : List Nat) (b : BM) (tt : TM) (el : EM) : EM := fun L O => (src L O).bind fun d O1 => match lsqOf O1 d with
  | some xs => lcEnd h (lcG (fun i O => (lsqOf O d).map (·[i]?)) (lcTurn vs b tt el L) xs.length 0 O1 [])
  | none => .bad
def mLcT (h : Bool) (src : EM) (vs : List Nat) (b : BM) (tt : TM) (el : EM) : EM := fun L O => (src L O).bind fun d O1 => match d with
  | .tup xs => lcEnd h (lcG (fun i _ => some xs[i]?) (lcTurn vs b tt el L) xs.length 0 O1 [])
  | _ => .bad
def mLcR1 (h : Bool) (t : AM) (vs : List Nat) (b : BM) (tt : TM) (el : EM) : EM := fun L O => (t L O).bind fun ds O1 => match int1 ds with
  | some j => lcEnd h (lcG (fun i _ => some (rangeD 0 j.toNat)[i]?) (lcTurn vs b tt el L) j.toNat 0 O1 [])
  | none => .bad
def mLcR2 (h : Bool) (t : AM) (vs : List Nat) (b : BM) (tt : TM) (el : EM) : EM := fun L O => (t L O).bind fun ds O1 => match int2 ds with
  | some p => lcEnd h (lcG (fun i _ => some (rangeD p.1 (p.2 - p.1).toNat)[i]?) (lcTurn vs b tt el L) (p.2 - p.1).toNat 0 O1 [])
  | none => .bad
/-- what a block may not touch -/
def Cl (vs : List Nat) (J : JP) : Prop := ∀ (σ : L2.St) (v : V) (S : Hp) (i : Nat), i ∈ vs → J.p σ S → J.p (σ.set i (some v)) S
section
variable {X : Cx} {ad : Str → Addr} {J : JP} {W : WX} {pos p q : Pos} {a b tg elt iter : Expr} {ifs : List Expr} {m me : EM} {mt : AM} {bm : BM} {tm : TM} {own : List (Str × Nat)} {scope : Scope}
theorem wipe_rl {K : PySem.W.Frag} {S : Hp} {r : Rg} {L : Loc} {σ : L2.St} (h : Rl K S r L σ) : ∀ vs : List Nat, Rl K S r (wipeL L vs) (wipe σ vs)
  | [] => h
  | v :: vs => by
    unfold wipeL wipe
    exact (wipe_rl h vs).wipe v none
abbrev Jw (vs : List Nat) (σ0 : L2.St) : JP := ⟨fun σ _ => wipe σ vs = σ0, fun _ h => h⟩
theorem wipe_cl {σ0 : L2.St} {vs : List Nat} : Cl vs (Jw vs σ0) := fun σ v _ i hi h => by
  have key : ∀ (vs : List Nat) (σ : L2.St), i ∈ vs → wipe (σ.set i (some v)) vs = wipe σ vs := fun vs => by
    induction vs with
    | nil => intro σ hi; simp at hi
    | cons w ws ih =>
      intro σ hi
      unfold wipe
      by_cases hw : i ∈ ws
      · rw [ih σ hw]
      · have e : i = w := by
          rcases List.mem_cons.mp hi with e | e
          · exact e
          · exact absurd e hw
        subst e
        have comm : ∀ (us : List Nat) (σ : L2.St), i ∉ us → wipe (σ.set i (some v)) us = (wipe σ us).set i (some v) := fun us => by
          induction us with
          | nil => intro σ _; rfl
          | cons u us ih2 =>
            intro σ hu
            unfold wipe
            rw [ih2 σ (fun z => hu (List.mem_cons_of_mem _ z)), List.set_comm _ _ (fun z => hu (by rw [z]; exact List.mem_cons_self))]
        rw [comm ws σ hw, List.set_set]
  show wipe (σ.set i (some v)) vs = σ0
  rw [key vs σ hi]
  exact h
/-- what is told for every J that lets the block's names change -/
def tGx (K : PySem.W.Frag) (ad : Str → Addr) (vs : List Nat) (b : BM) : TG := fun v σ H Q => ∃ J', Cl vs J' ∧ tG K ad J' b v σ H Q
def tTx (K : PySem.W.Frag) (ad : Str → Addr) (vs : List Nat) (m : TM) : TT := fun σ H Q => ∃ J', Cl vs J' ∧ tT K ad J' WF m σ H Q
def tEx (K : PySem.W.Frag) (ad : Str → Addr) (vs : List Nat) (m : EM) : TE := fun σ H Q => ∃ J', Cl vs J' ∧ tE K ad J' WF m σ H Q
theorem gx_of {Y : Cx} {vs : List Nat} (h : ∀ J', Cl vs J' → PG Y tg (tG Y.K ad J' bm)) : PG Y tg (tGx Y.K ad vs bm) := ⟨fun pins s σ H v u Q I r ⟨J', hJ, z⟩ => (h J' hJ).run pins s σ H v u Q I r z⟩
theorem tx_of {Y : Cx} {vs : List Nat} (h : ∀ J', Cl vs J' → PTs Y ifs (tT Y.K ad J' WF tm)) : PTs Y ifs (tTx Y.K ad vs tm) := ⟨fun pins s σ H Q I ⟨J', hJ, z⟩ => (h J' hJ).run pins s σ H Q I z⟩
theorem ex_of {Y : Cx} {vs : List Nat} (h : ∀ J', Cl vs J' → PE Y elt (tE Y.K ad J' WF me)) : PE Y elt (tEx Y.K ad vs me) := ⟨fun pins s σ H Q I ⟨J', hJ, z⟩ => (h J' hJ).run pins s σ H Q I z⟩
theorem dts_nil {Y : Cx} : PTs Y [] (tT Y.K ad J W mYes) := ⟨fun pins s σ H Q I ⟨S, r, L, O, j, rl, rs, z⟩ => pts_nil.run pins s σ H Q I (z S r H true (Ext.refl _ _) rs rfl)⟩
theorem dts_one {Y : Cx} (h : PT Y a (tT Y.K ad J W tm)) : PTs Y [a] (tT Y.K ad J W tm) := pts_one h
/-- a comprehension's loop -/
theorem lc_post {It' : It} {nx : Nat → Store → Option (Option D)} {hm : Bool} {vs : List Nat} {S1 : Hp} {r1 : Rg} {L : Loc} {σ : L2.St} {Q : VK} {k : Nat} {O1 : Store} {H1 : Hp}
    (hgo : ∀ (i : Nat) (S : Hp) (r : Rg) (O : Store) (H : Hp) (d : D), Same S1 S → r1.l <+: r.l → Rs X.K ad S r O H → nx i O = some (some d) → It'.go i H ∧ ∀ x H', It'.yld i H x H' → H' = H ∧ Rp X.K S r d x)
    (hst : ∀ (i : Nat) (S : Hp) (r : Rg) (O : Store) (H : Hp), Same S1 S → r1.l <+: r.l → Rs X.K ad S r O H → nx i O = some none → It'.stop i H)
    (rl : Rl X.K S1 r1 L σ) (rs : Rs X.K ad S1 r1 O1 H1) (z : Post X.K ad (fun S r => Rp X.K S r) W σ S1 r1 Q (lcEnd hm (lcG nx (lcTurn vs bm tm me L) k 0 O1 []))) :
    ∀ Dn, H1 Dn = none → ∃ W' : Nat → Nat → Hp → Prop, (∃ m, W' 0 m (upd H1 Dn (.lst []))) ∧ ∀ i m H, W' i m H →
      (It'.stop i H ∧ Q (.ref Dn) H) ∨ (It'.go i H ∧ ∃ Nx : Hp → Prop, (∀ H', Nx H' → ∃ m', m' < m ∧ W' (i + 1) m' H') ∧ ∀ x H', It'.yld i H x H' → tGx X.K ad vs bm x (wipe σ vs) H' fun σ2 H2 => wipe σ2 vs = wipe σ vs ∧ tTx X.K ad vs tm σ2 H2 fun b H3 =>
        if b = true then tEx X.K ad vs me σ2 H3 fun y H4 => ∃ acc, H4 Dn = some (.lst acc) ∧ acc.length < sizeLine ∧ Nx (upd H4 Dn (.lst (acc ++ [y]))) else Nx H3) := by
  intro Dn hDn
  have hfr : r1.fr Dn = none := rs.fr.free hDn
  have ww : wipe (wipe σ vs) vs = wipe σ vs := by
    have key : ∀ (us : List Nat) (τ : L2.St), (∀ u ∈ us, ∀ w, τ[u]? = some w → w = none) → wipe τ us = τ := fun us => by
      induction us with
      | nil => intro τ _; rfl
      | cons u us ih =>
        intro τ h
        unfold wipe
        rw [ih τ fun u' hu' => h u' (List.mem_cons_of_mem _ hu')]
        refine List.ext_getElem? fun n => ?_
        by_cases hn : u = n
        · subst hn
          by_cases hl : u < τ.length
          · rw [List.getElem?_set_self hl]
            have := h u List.mem_cons_self τ[u] (List.getElem?_eq_getElem hl)
            rw [List.getElem?_eq_getElem hl, this]
          · rw [List.getElem?_eq_none (by rw [List.length_set]; omega), List.getElem?_eq_none (by omega)]
        · rw [List.getElem?_set_ne hn]
    refine key vs _ fun u hu w hw => ?_
    cases w with
    | none => rfl
    | some w => exact absurd hu (wipe_some hw).2
  refine ⟨fun i m H => ∃ S r O acc us, Same S1 S ∧ r1.l <+: r.l ∧ r.fr = r1.fr ∧ Rs X.K ad S (r.at (upd r1.fr Dn (.lst us))) O H ∧ RpAll X.K S r acc us ∧ Post X.K ad (fun S r => Rp X.K S r) W σ S1 r1 Q (lcEnd hm (lcG nx (lcTurn vs bm tm me L) m i O acc)),
    ⟨k, S1, r1, O1, [], [], Same.refl _, List.prefix_rfl, rfl, rs.hold hDn, rfl, z⟩, ?_⟩
  rintro i m H ⟨S, r, O, acc, us, es, el, ef, rs, ra, z⟩
  have fin : nx i O = some none → Post X.K ad (fun S r => Rp X.K S r) W σ S1 r1 Q (lcEnd hm (some (O, acc))) → It'.stop i H ∧ Q (.ref Dn) H := fun hn z => by
    refine ⟨hst i S (r.at (upd r1.fr Dn (.lst us))) O H es el rs hn, ?_⟩
    have rs' : Rs X.K ad S (r.at (upd r.fr Dn (.lst us))) O H := by rw [ef]; exact rs
    obtain ⟨q1, q2, q3, q4⟩ := rs'.unhold (by rw [ef]; exact hfr)
    have e0 : Ext S1 r1 S r := ⟨es, ef, el⟩
    replace z : Post X.K ad (fun S r => Rp X.K S r) W σ S1 r1 Q (newL hm acc O) := z
    unfold newL at z
    split at z
    · cases hm with
      | true =>
        rw [if_pos rfl] at z
        refine z S (r.push Dn) H _ (e0.trans (Ext.push S r Dn)) (q1.pushAt ⟨q3, us, q2, RpAll.mono (Ext.push S r Dn) _ _ ra⟩ q4 (by rw [ef]; exact hfr)) ⟨Dn, rfl, ?_⟩
        show (r.l ++ [Dn])[O.length]? = some Dn
        rw [← q1.len, List.getElem?_append_right (Nat.le_refl _)]
        simp
      | false =>
        rw [if_neg Bool.false_ne_true] at z
        exact z (upd S Dn (.lst us)) r H _ (e0.trans (Ext.new q3)) (q1.sealAt q2 q3 q4 (by rw [ef]; exact hfr)) ⟨Dn, us, rfl, upd_same, RpAll.mono (Ext.new q3) _ _ ra⟩
    · exact z.elim
  have next : ∀ m', m = m' + 1 → ∀ d, nx i O = some (some d) → Post X.K ad (fun S r => Rp X.K S r) W σ S1 r1 Q (lcEnd hm (match lcTurn vs bm tm me L d O acc with | some p => lcG nx (lcTurn vs bm tm me L) m' (i + 1) p.1 p.2 | none => none)) →
      (It'.go i H ∧ ∃ Nx : Hp → Prop, (∀ H', Nx H' → ∃ m'', m'' < m ∧ (∃ S r O acc us, Same S1 S ∧ r1.l <+: r.l ∧ r.fr = r1.fr ∧ Rs X.K ad S (r.at (upd r1.fr Dn (.lst us))) O H' ∧ RpAll X.K S r acc us ∧ Post X.K ad (fun S r => Rp X.K S r) W σ S1 r1 Q (lcEnd hm (lcG nx (lcTurn vs bm tm me L) m'' (i + 1) O acc)))) ∧
        ∀ x H', It'.yld i H x H' → tGx X.K ad vs bm x (wipe σ vs) H' fun σ2 H2 => wipe σ2 vs = wipe σ vs ∧ tTx X.K ad vs tm σ2 H2 fun b H3 =>
          if b = true then tEx X.K ad vs me σ2 H3 fun y H4 => ∃ acc, H4 Dn = some (.lst acc) ∧ acc.length < sizeLine ∧ Nx (upd H4 Dn (.lst (acc ++ [y]))) else Nx H3) := by
    intro m' hm' d hd z
    obtain ⟨g1, g2⟩ := hgo i S (r.at (upd r1.fr Dn (.lst us))) O H d es el rs hd
    refine ⟨g1, _, fun H' hN => ⟨m', by omega, hN⟩, fun x H' hy => ?_⟩
    obtain ⟨rfl, px⟩ := g2 x H' hy
    let rr := r.at (upd r1.fr Dn (.lst us))
    have rlw : Rl X.K S rr (wipeL L vs) (wipe σ vs) := ⟨(wipe_rl rl vs).len, fun n d hn => by
      obtain ⟨v, q1, q2⟩ := (wipe_rl rl vs).at_ n d hn
      exact ⟨v, q1, Rp.monoW (r' := rr) es el d v q2⟩⟩
    refine ⟨Jw vs (wipe σ vs), wipe_cl, S, rr, wipeL L vs, O, d, ww, rlw, rs, px, ?_⟩
    unfold lcTurn at z
    generalize bm d (wipeL L vs) O = w at z
    cases w with
    | none => exact z.elim
    | some w =>
      intro S2 r2 σ2 H2 e2 j2 l2 s2
      refine ⟨j2, Jw vs (wipe σ vs), wipe_cl, S2, r2, w.1, w.2, j2, l2, s2, ?_⟩
      replace z : Post X.K ad (fun S r => Rp X.K S r) W σ S1 r1 Q (lcEnd hm (match (match tm w.1 w.2 with
        | .ok true O2 => match me w.1 O2 with
          | .ok y O3 => if acc.length ≤ 900000 then some (O3, acc ++ [y]) else none
          | _ => none
        | .ok false O2 => some (O2, acc)
        | _ => none) with | some p => lcG nx (lcTurn vs bm tm me L) m' (i + 1) p.1 p.2 | none => none)) := z
      generalize tm w.1 w.2 = t at z
      cases t with
      | exc x O3 => exact z.elim
      | bad => exact z.elim
      | ok k O3 =>
        intro S3 r3 H3 k' e3 s3 ek
        obtain rfl : k' = k := ek
        cases k' with
        | false =>
          rw [if_neg Bool.false_ne_true]
          have e23 := e2.trans e3
          have hr3 : r3 = (r3.at r1.fr).at (upd r1.fr Dn (.lst us)) := by
            obtain ⟨l3, f3⟩ := r3
            have : f3 = upd r1.fr Dn (.lst us) := e23.f
            subst this
            rfl
          rw [hr3] at s3
          exact ⟨S3, r3.at r1.fr, O3, acc, us, es.trans e23.s, List.IsPrefix.trans el e23.r, rfl, s3, RpAll.monoW (r := r) (r' := r3.at r1.fr) e23.s e23.r _ _ ra, z⟩
        | true =>
          rw [if_pos rfl]
          refine ⟨Jw vs (wipe σ vs), wipe_cl, S3, r3, w.1, O3, j2, l2.mono e3, s3, ?_⟩
          replace z : Post X.K ad (fun S r => Rp X.K S r) W σ S1 r1 Q (lcEnd hm (match (match me w.1 O3 with
            | .ok y O3 => if acc.length ≤ 900000 then some (O3, acc ++ [y]) else none
            | _ => none) with | some p => lcG nx (lcTurn vs bm tm me L) m' (i + 1) p.1 p.2 | none => none)) := z
          generalize me w.1 O3 = t at z
          cases t with
          | exc x O3 => exact z.elim
          | bad => exact z.elim
          | ok y O4 =>
            intro S4 r4 H4 v e4 s4 pv
            have e24 := (e2.trans e3).trans e4
            have hr4 : r4 = (r4.at r1.fr).at (upd r1.fr Dn (.lst us)) := by
              obtain ⟨l4, f4⟩ := r4
              have : f4 = upd r1.fr Dn (.lst us) := e24.f
              subst this
              rfl
            rw [hr4] at s4
            replace z : Post X.K ad (fun S r => Rp X.K S r) W σ S1 r1 Q (lcEnd hm (match (if acc.length ≤ 900000 then some (O4, acc ++ [y]) else none) with | some p => lcG nx (lcTurn vs bm tm me L) m' (i + 1) p.1 p.2 | none => none)) := z
            split at z
            · rename_i hacc
              split at hacc
              · rename_i hlen
                cases hacc
                refine ⟨us, s4.fr Dn _ upd_same, by rw [ra.length]; exact million_lt (by omega), S4, r4.at r1.fr, O4, acc ++ [y], us ++ [v], es.trans e24.s, List.IsPrefix.trans el e24.r, rfl, s4.rehold, ?_, z⟩
                exact (RpAll.monoW (r := r) (r' := r4.at r1.fr) e24.s e24.r _ _ ra).append (.cons (Rp.monoW (r := r4) (r' := r4.at r1.fr) (Same.refl _) List.prefix_rfl _ _ pv) .nil)
              · cases hacc
            · exact z.elim
  cases hn : nx i O with
  | none =>
    have e : lcG nx (lcTurn vs bm tm me L) m i O acc = none := by
      cases m with
      | zero => unfold lcG; rw [hn]
      | succ m => unfold lcG; rw [hn]
    rw [e] at z
    exact z.elim
  | some o =>
    cases o with
    | none =>
      have e : lcG nx (lcTurn vs bm tm me L) m i O acc = some (O, acc) := by
        cases m with
        | zero => unfold lcG; rw [hn]
        | succ m => unfold lcG; rw [hn]
      rw [e] at z
      exact .inl (fin hn z)
    | some d =>
      cases m with
      | zero =>
        have e : lcG nx (lcTurn vs bm tm me L) 0 i O acc = none := by unfold lcG; rw [hn]
        rw [e] at z
        exact z.elim
      | succ m =>
        have e : lcG nx (lcTurn vs bm tm me L) (m + 1) i O acc = (match lcTurn vs bm tm me L d O acc with | some p => lcG nx (lcTurn vs bm tm me L) m (i + 1) p.1 p.2 | none => none) := by
          show (match nx i O with | some none => some (O, acc) | some (some d) => (match lcTurn vs bm tm me L d O acc with | some p => lcG nx (lcTurn vs bm tm me L) m (i + 1) p.1 p.2 | none => none) | none => none) = _
          rw [hn]
        rw [e] at z
        exact .inr (next m rfl d hn z)
theorem lcL_imp {hm : Bool} : ∀ σ H Q, (tE X.K ad J W (mLcL hm m (own.map (·.2)) bm tm me)) σ H Q → tLc (iList X.K (tE X.K ad J W m)) (tGx X.K ad (own.map (·.2)) bm) (tTx X.K ad (own.map (·.2)) tm) (tEx X.K ad (own.map (·.2)) me) (own.map (·.2)) σ H Q := by
  rintro σ H Q ⟨S, r, L, O, j, rl, rs, z⟩
  refine ⟨S, r, L, O, j, rl, rs, (Post.bind z).imp ?_⟩
  rintro x H1 ⟨S1, r1, d, O1, e1, s1, p1, q1⟩
  replace q1 : Post X.K ad (fun S r => Rp X.K S r) W σ S1 r1 Q (match lsqOf O1 d with
    | some xs => lcEnd hm (lcG (fun i O => (lsqOf O d).map (·[i]?)) (lcTurn (own.map (·.2)) bm tm me L) xs.length 0 O1 [])
    | none => .bad) := q1
  split at q1
  · rename_i xs hx
    obtain ⟨a, vs, rfl, h1, h2⟩ := lsqOf_ok s1 p1 hx
    refine ⟨a, rfl, ⟨vs, h1⟩, lc_post (fun i S r O H d' es el rs hn => ?_) (fun i S r O H es el rs hn => ?_) (rl.mono e1) s1 q1⟩
    · obtain ⟨ys, hy, e⟩ := Option.map_eq_some_iff.mp (show (lsqOf O d).map (·[i]?) = some (some d') from hn)
      obtain ⟨a', us, ea, g1, g2⟩ := lsqOf_ok rs (Rp.monoW es el d _ p1) hy
      cases ea
      obtain ⟨v, hv, pv⟩ := g2.get e
      exact ⟨⟨us, v, g1, hv⟩, fun x H' hyy => ⟨hyy.1, by rw [Option.some.inj ((hyy.2 us g1).symm.trans hv)]; exact pv⟩⟩
    · obtain ⟨ys, hy, e⟩ := Option.map_eq_some_iff.mp (show (lsqOf O d).map (·[i]?) = some none from hn)
      obtain ⟨a', us, ea, g1, g2⟩ := lsqOf_ok rs (Rp.monoW es el d _ p1) hy
      cases ea
      exact ⟨us, g1, by rw [g2.length]; exact List.getElem?_eq_none_iff.mp e⟩
  · exact q1.elim
theorem de_lcL {hm : Bool} (hc : X.calm = true) (hN : X.N.Nodup) (hi : PE X iter (tE X.K ad J W m)) (ok : BlkOk X.N X.env.scope scope own)
    (hg : ∀ (s : Shared) (H : Hp) (C : Addr) (cl : List (Str × Addr)) (fp : List Addr) (J' : JP), Cl (own.map (·.2)) J' → PG (X.blk s H scope (PySem.compEnvC scope cl C X.env) fp) tg (tG X.K ad J' bm))
    (ht : ∀ (s : Shared) (H : Hp) (C : Addr) (cl : List (Str × Addr)) (fp : List Addr) (J' : JP), Cl (own.map (·.2)) J' → PTs (X.blk s H scope (PySem.compEnvC scope cl C X.env) fp) ifs (tT X.K ad J' WF tm))
    (he : ∀ (s : Shared) (H : Hp) (C : Addr) (cl : List (Str × Addr)) (fp : List Addr) (J' : JP), Cl (own.map (·.2)) J' → PE (X.blk s H scope (PySem.compEnvC scope cl C X.env) fp) elt (tE X.K ad J' WF me)) (hs : ∀ x, foldedSetIterable iter X.env x = pure x := by intro _; rfl) :
    PE X (.ListComp elt [⟨tg, iter, ifs, 0⟩] scope pos) (tE X.K ad J W (mLcL hm m (own.map (·.2)) bm tm me)) :=
  pe_imp (pe_lc hc hN (pi_list hi) ok (g := tGx X.K ad (own.map (·.2)) bm) (tt := tTx X.K ad (own.map (·.2)) tm) (te := tEx X.K ad (own.map (·.2)) me) (fun s H C cl fp => gx_of (hg s H C cl fp)) (fun s H C cl fp => tx_of (ht s H C cl fp)) (fun s H C cl fp => ex_of (he s H C cl fp)) hs) lcL_imp
theorem ds_setLcL {y : Str} {py spos : Pos} {iy : Nat} {hm : Bool} (hc : X.calm = true) (hN : X.N.Nodup) (hi : PE X iter (tE X.K ad J W m)) (ok : BlkOk X.N X.env.scope scope own)
    (hg : ∀ (s : Shared) (H : Hp) (C : Addr) (cl : List (Str × Addr)) (fp : List Addr) (J' : JP), Cl (own.map (·.2)) J' → PG (X.blk s H scope (PySem.compEnvC scope cl C X.env) fp) tg (tG X.K ad J' bm))
    (ht : ∀ (s : Shared) (H : Hp) (C : Addr) (cl : List (Str × Addr)) (fp : List Addr) (J' : JP), Cl (own.map (·.2)) J' → PTs (X.blk s H scope (PySem.compEnvC scope cl C X.env) fp) ifs (tT X.K ad J' WF tm))
    (he : ∀ (s : Shared) (H : Hp) (C : Addr) (cl : List (Str × Addr)) (fp : List Addr) (J' : JP), Cl (own.map (·.2)) J' → PE (X.blk s H scope (PySem.compEnvC scope cl C X.env) fp) elt (tE X.K ad J' WF me)) (hs : ∀ x, foldedSetIterable iter X.env x = pure x := by intro _; rfl) (hy : X.N[iy]? = some y) (hyl : X.env.scope.names.lookup y = some .local) (hsw : swapsWith (.ListComp elt [⟨tg, iter, ifs, 0⟩] scope pos) (some (.Name y py)) spos.line X.env = pure true) (hJ : ∀ (σ : L2.St) (v : Option V) (S : Hp), J.p σ S → J.p (σ.set iy v) S := by intro _ _ _ _; trivial) :
    PS X (.Assign [.Name y py] (.ListComp elt [⟨tg, iter, ifs, 0⟩] scope pos) spos) (tS X.K ad J W (sAsg (mLcL hm m (own.map (·.2)) bm tm me) (bName iy))) := by
  refine ps_imp (ps_setLc hc hN hy hyl hsw (pi_list hi) ok (g := tGx X.K ad (own.map (·.2)) bm) (tt := tTx X.K ad (own.map (·.2)) tm) (te := tEx X.K ad (own.map (·.2)) me) (fun s H C cl fp => gx_of (hg s H C cl fp)) (fun s H C cl fp => tx_of (ht s H C cl fp)) (fun s H C cl fp => ex_of (he s H C cl fp)) hs) ?_
  rintro En σ H h
  refine lcL_imp (hm := hm) (W := W) (J := J) σ H _ ?_
  refine asg_imp (t := gName iy) ?_ En σ H h
  rintro v σ H Q ⟨S, r, L, O, d, j, rl, rs, rp, p⟩
  exact p S r _ H (Ext.refl _ _) (hJ _ _ _ j) (rl.set iy rp) rs
theorem lcT_imp {hm : Bool} : ∀ σ H Q, (tE X.K ad J W (mLcT hm m (own.map (·.2)) bm tm me)) σ H Q → tLc (iTup X.K (tE X.K ad J W m)) (tGx X.K ad (own.map (·.2)) bm) (tTx X.K ad (own.map (·.2)) tm) (tEx X.K ad (own.map (·.2)) me) (own.map (·.2)) σ H Q := by
  rintro σ H Q ⟨S, r, L, O, j, rl, rs, z⟩
  refine ⟨S, r, L, O, j, rl, rs, (Post.bind z).imp ?_⟩
  rintro x H1 ⟨S1, r1, d, O1, e1, s1, p1, q1⟩
  cases d with
  | tup xs =>
    obtain ⟨a, vs, rfl, h1, h2⟩ := p1
    refine ⟨a, rfl, ⟨vs, sqT_same s1.sub h1⟩, lc_post (nx := fun i _ => some xs[i]?) (fun i S r O H d' es el rs hn => ?_) (fun i S r O H es el rs hn => ?_) (rl.mono e1) s1 q1⟩
    · have g1 : SqT X.K H a vs := sqT_same rs.sub (sqT_same es h1)
      obtain ⟨v, hv, pv⟩ := (RpAll.monoW es el _ _ h2).get (Option.some.inj hn)
      exact ⟨⟨vs, v, g1, hv⟩, fun x H' hyy => ⟨hyy.1, by rw [Option.some.inj ((hyy.2 vs g1).symm.trans hv)]; exact pv⟩⟩
    · exact ⟨vs, sqT_same rs.sub (sqT_same es h1), by rw [h2.length]; exact List.getElem?_eq_none_iff.mp (Option.some.inj hn)⟩
  | hdl n => exact q1.elim
  | lst n => exact q1.elim
  | rol n => exact q1.elim
  | non => exact q1.elim
  | bl b => exact q1.elim
  | int i => exact q1.elim
  | str s => exact q1.elim
theorem de_lcT {hm : Bool} (hc : X.calm = true) (hN : X.N.Nodup) (hi : PE X iter (tE X.K ad J W m)) (ok : BlkOk X.N X.env.scope scope own)
    (hg : ∀ (s : Shared) (H : Hp) (C : Addr) (cl : List (Str × Addr)) (fp : List Addr) (J' : JP), Cl (own.map (·.2)) J' → PG (X.blk s H scope (PySem.compEnvC scope cl C X.env) fp) tg (tG X.K ad J' bm))
    (ht : ∀ (s : Shared) (H : Hp) (C : Addr) (cl : List (Str × Addr)) (fp : List Addr) (J' : JP), Cl (own.map (·.2)) J' → PTs (X.blk s H scope (PySem.compEnvC scope cl C X.env) fp) ifs (tT X.K ad J' WF tm))
    (he : ∀ (s : Shared) (H : Hp) (C : Addr) (cl : List (Str × Addr)) (fp : List Addr) (J' : JP), Cl (own.map (·.2)) J' → PE (X.blk s H scope (PySem.compEnvC scope cl C X.env) fp) elt (tE X.K ad J' WF me)) (hs : ∀ x, foldedSetIterable iter X.env x = pure x := by intro _; rfl) :
    PE X (.ListComp elt [⟨tg, iter, ifs, 0⟩] scope pos) (tE X.K ad J W (mLcT hm m (own.map (·.2)) bm tm me)) :=
  pe_imp (pe_lc hc hN (pi_tup hi) ok (g := tGx X.K ad (own.map (·.2)) bm) (tt := tTx X.K ad (own.map (·.2)) tm) (te := tEx X.K ad (own.map (·.2)) me) (fun s H C cl fp => gx_of (hg s H C cl fp)) (fun s H C cl fp => tx_of (ht s H C cl fp)) (fun s H C cl fp => ex_of (he s H C cl fp)) hs) lcT_imp
theorem ds_setLcT {y : Str} {py spos : Pos} {iy : Nat} {hm : Bool} (hc : X.calm = true) (hN : X.N.Nodup) (hi : PE X iter (tE X.K ad J W m)) (ok : BlkOk X.N X.env.scope scope own)
    (hg : ∀ (s : Shared) (H : Hp) (C : Addr) (cl : List (Str × Addr)) (fp : List Addr) (J' : JP), Cl (own.map (·.2)) J' → PG (X.blk s H scope (PySem.compEnvC scope cl C X.env) fp) tg (tG X.K ad J' bm))
    (ht : ∀ (s : Shared) (H : Hp) (C : Addr) (cl : List (Str × Addr)) (fp : List Addr) (J' : JP), Cl (own.map (·.2)) J' → PTs (X.blk s H scope (PySem.compEnvC scope cl C X.env) fp) ifs (tT X.K ad J' WF tm))
    (he : ∀ (s : Shared) (H : Hp) (C : Addr) (cl : List (Str × Addr)) (fp : List Addr) (J' : JP), Cl (own.map (·.2)) J' → PE (X.blk s H scope (PySem.compEnvC scope cl C X.env) fp) elt (tE X.K ad J' WF me)) (hs : ∀ x, foldedSetIterable iter X.env x = pure x := by intro _; rfl) (hy : X.N[iy]? = some y) (hyl : X.env.scope.names.lookup y = some .local) (hsw : swapsWith (.ListComp elt [⟨tg, iter, ifs, 0⟩] scope pos) (some (.Name y py)) spos.line X.env = pure true) (hJ : ∀ (σ : L2.St) (v : Option V) (S : Hp), J.p σ S → J.p (σ.set iy v) S := by intro _ _ _ _; trivial) :
    PS X (.Assign [.Name y py] (.ListComp elt [⟨tg, iter, ifs, 0⟩] scope pos) spos) (tS X.K ad J W (sAsg (mLcT hm m (own.map (·.2)) bm tm me) (bName iy))) := by
  refine ps_imp (ps_setLc hc hN hy hyl hsw (pi_tup hi) ok (g := tGx X.K ad (own.map (·.2)) bm) (tt := tTx X.K ad (own.map (·.2)) tm) (te := tEx X.K ad (own.map (·.2)) me) (fun s H C cl fp => gx_of (hg s H C cl fp)) (fun s H C cl fp => tx_of (ht s H C cl fp)) (fun s H C cl fp => ex_of (he s H C cl fp)) hs) ?_
  rintro En σ H h
  refine lcT_imp (hm := hm) (W := W) (J := J) σ H _ ?_
  refine asg_imp (t := gName iy) ?_ En σ H h
  rintro v σ H Q ⟨S, r, L, O, d, j, rl, rs, rp, p⟩
  exact p S r _ H (Ext.refl _ _) (hJ _ _ _ j) (rl.set iy rp) rs
theorem lc_range {hm : Bool} {vs : List Nat} {lo : Int} {n : Nat} {S1 : Hp} {r1 : Rg} {L : Loc} {σ : L2.St} {Q : VK} {O1 : Store} {H1 : Hp} (rl : Rl X.K S1 r1 L σ) (rs : Rs X.K ad S1 r1 O1 H1) (z : Post X.K ad (fun S r => Rp X.K S r) W σ S1 r1 Q (lcEnd hm (lcG (fun i _ => some (rangeD lo n)[i]?) (lcTurn vs bm tm me L) n 0 O1 []))) :
    ∀ Dn, H1 Dn = none → ∃ W' : Nat → Nat → Hp → Prop, (∃ m, W' 0 m (upd H1 Dn (.lst []))) ∧ ∀ i m H, W' i m H →
      ((Itr lo n).stop i H ∧ Q (.ref Dn) H) ∨ ((Itr lo n).go i H ∧ ∃ Nx : Hp → Prop, (∀ H', Nx H' → ∃ m', m' < m ∧ W' (i + 1) m' H') ∧ ∀ x H', (Itr lo n).yld i H x H' → tGx X.K ad vs bm x (wipe σ vs) H' fun σ2 H2 => wipe σ2 vs = wipe σ vs ∧ tTx X.K ad vs tm σ2 H2 fun b H3 =>
        if b = true then tEx X.K ad vs me σ2 H3 fun y H4 => ∃ acc, H4 Dn = some (.lst acc) ∧ acc.length < sizeLine ∧ Nx (upd H4 Dn (.lst (acc ++ [y]))) else Nx H3) := by
  have hl : (rangeD lo n).length = n := by unfold rangeD; rw [List.length_map, List.length_range]
  refine lc_post (It' := Itr lo n) (nx := fun i _ => some (rangeD lo n)[i]?) (fun i S r O H d' es el rs hn => ?_) (fun i S r O H es el rs hn => ?_) rl rs z
  · have hn' : (rangeD lo n)[i]? = some d' := Option.some.inj hn
    have hi : i < n := by rw [← hl]; exact (List.getElem?_eq_some_iff.mp hn').1
    refine ⟨hi, fun x H' hy => ⟨hy.1, ?_⟩⟩
    unfold rangeD at hn'
    rw [List.getElem?_map, List.getElem?_range hi] at hn'
    cases hn'
    exact hy.2
  · have := List.getElem?_eq_none_iff.mp (Option.some.inj hn)
    rw [hl] at this
    exact this
theorem lcR1_imp {hm : Bool} : ∀ σ H Q, (tE X.K ad J W (mLcR1 hm mt (own.map (·.2)) bm tm me)) σ H Q → tLc (iRng1 (tA X.K ad J W mt)) (tGx X.K ad (own.map (·.2)) bm) (tTx X.K ad (own.map (·.2)) tm) (tEx X.K ad (own.map (·.2)) me) (own.map (·.2)) σ H Q := by
  rintro σ H Q ⟨S, r, L, O, j, rl, rs, z⟩
  refine ⟨S, r, L, O, j, rl, rs, (Post.bind z).imp ?_⟩
  rintro vs H1 ⟨S1, r1, ds, O1, e1, s1, p1, q1⟩
  have q2 : Post X.K ad (fun S r => Rp X.K S r) W σ S1 r1 Q (match int1 ds with | some j => lcEnd hm (lcG (fun i _ => some (rangeD 0 j.toNat)[i]?) (lcTurn (own.map (·.2)) bm tm me L) j.toNat 0 O1 []) | none => .bad) := q1
  clear q1
  revert q2
  cases hj : int1 ds with
  | none => exact fun z => z.elim
  | some jj =>
    intro q1
    obtain ⟨rfl, b1, b2⟩ := int1_ok hj
    obtain ⟨v, vr, rfl, rfl, rfl⟩ := p1
    exact ⟨jj, rfl, by omega, by omega, lc_range (rl.mono e1) s1 q1⟩
theorem de_lcR1 {hm : Bool} {p q : Pos} (hc : X.calm = true) (hN : X.N.Nodup) (hg0 : Gl X "range") (hmr : X.mg "range" = none) (ha : PA X [a] (tA X.K ad J W mt)) (ok : BlkOk X.N X.env.scope scope own)
    (hg : ∀ (s : Shared) (H : Hp) (C : Addr) (cl : List (Str × Addr)) (fp : List Addr) (J' : JP), Cl (own.map (·.2)) J' → PG (X.blk s H scope (PySem.compEnvC scope cl C X.env) fp) tg (tG X.K ad J' bm))
    (ht : ∀ (s : Shared) (H : Hp) (C : Addr) (cl : List (Str × Addr)) (fp : List Addr) (J' : JP), Cl (own.map (·.2)) J' → PTs (X.blk s H scope (PySem.compEnvC scope cl C X.env) fp) ifs (tT X.K ad J' WF tm))
    (he : ∀ (s : Shared) (H : Hp) (C : Addr) (cl : List (Str × Addr)) (fp : List Addr) (J' : JP), Cl (own.map (·.2)) J' → PE (X.blk s H scope (PySem.compEnvC scope cl C X.env) fp) elt (tE X.K ad J' WF me))
    (hs0 : starEach [a] X.env = [(false, eval a X.env)] := by rfl) (hs : ∀ x, foldedSetIterable (.Call (.Name "range" p) [a] [] q) X.env x = pure x := by intro _; rfl) :
    PE X (.ListComp elt [⟨tg, .Call (.Name "range" p) [a] [] q, ifs, 0⟩] scope pos) (tE X.K ad J W (mLcR1 hm mt (own.map (·.2)) bm tm me)) :=
  pe_imp (pe_lc hc hN (pi_range1 hg0 hmr ha hs0) ok (g := tGx X.K ad (own.map (·.2)) bm) (tt := tTx X.K ad (own.map (·.2)) tm) (te := tEx X.K ad (own.map (·.2)) me) (fun s H C cl fp => gx_of (hg s H C cl fp)) (fun s H C cl fp => tx_of (ht s H C cl fp)) (fun s H C cl fp => ex_of (he s H C cl fp)) hs) lcR1_imp
theorem ds_setLcR1 {y : Str} {py spos : Pos} {iy : Nat} {hm : Bool} {p q : Pos} (hc : X.calm = true) (hN : X.N.Nodup) (hg0 : Gl X "range") (hmr : X.mg "range" = none) (ha : PA X [a] (tA X.K ad J W mt)) (ok : BlkOk X.N X.env.scope scope own)
    (hg : ∀ (s : Shared) (H : Hp) (C : Addr) (cl : List (Str × Addr)) (fp : List Addr) (J' : JP), Cl (own.map (·.2)) J' → PG (X.blk s H scope (PySem.compEnvC scope cl C X.env) fp) tg (tG X.K ad J' bm))
    (ht : ∀ (s : Shared) (H : Hp) (C : Addr) (cl : List (Str × Addr)) (fp : List Addr) (J' : JP), Cl (own.map (·.2)) J' → PTs (X.blk s H scope (PySem.compEnvC scope cl C X.env) fp) ifs (tT X.K ad J' WF tm))
    (he : ∀ (s : Shared) (H : Hp) (C : Addr) (cl : List (Str × Addr)) (fp : List Addr) (J' : JP), Cl (own.map (·.2)) J' → PE (X.blk s H scope (PySem.compEnvC scope cl C X.env) fp) elt (tE X.K ad J' WF me))
    (hs0 : starEach [a] X.env = [(false, eval a X.env)] := by rfl) (hs : ∀ x, foldedSetIterable (.Call (.Name "range" p) [a] [] q) X.env x = pure x := by intro _; rfl) (hy : X.N[iy]? = some y) (hyl : X.env.scope.names.lookup y = some .local) (hsw : swapsWith (.ListComp elt [⟨tg, .Call (.Name "range" p) [a] [] q, ifs, 0⟩] scope pos) (some (.Name y py)) spos.line X.env = pure true) (hJ : ∀ (σ : L2.St) (v : Option V) (S : Hp), J.p σ S → J.p (σ.set iy v) S := by intro _ _ _ _; trivial) :
    PS X (.Assign [.Name y py] (.ListComp elt [⟨tg, .Call (.Name "range" p) [a] [] q, ifs, 0⟩] scope pos) spos) (tS X.K ad J W (sAsg (mLcR1 hm mt (own.map (·.2)) bm tm me) (bName iy))) := by
  refine ps_imp (ps_setLc hc hN hy hyl hsw (pi_range1 hg0 hmr ha hs0) ok (g := tGx X.K ad (own.map (·.2)) bm) (tt := tTx X.K ad (own.map (·.2)) tm) (te := tEx X.K ad (own.map (·.2)) me) (fun s H C cl fp => gx_of (hg s H C cl fp)) (fun s H C cl fp => tx_of (ht s H C cl fp)) (fun s H C cl fp => ex_of (he s H C cl fp)) hs) ?_
  rintro En σ H h
  refine lcR1_imp (hm := hm) (W := W) (J := J) σ H _ ?_
  refine asg_imp (t := gName iy) ?_ En σ H h
  rintro v σ H Q ⟨S, r, L, O, d, j, rl, rs, rp, p⟩
  exact p S r _ H (Ext.refl _ _) (hJ _ _ _ j) (rl.set iy rp) rs
theorem lcR2_imp {hm : Bool} : ∀ σ H Q, (tE X.K ad J W (mLcR2 hm mt (own.map (·.2)) bm tm me)) σ H Q → tLc (iRng2 (tA X.K ad J W mt)) (tGx X.K ad (own.map (·.2)) bm) (tTx X.K ad (own.map (·.2)) tm) (tEx X.K ad (own.map (·.2)) me) (own.map (·.2)) σ H Q := by
  rintro σ H Q ⟨S, r, L, O, j, rl, rs, z⟩
  refine ⟨S, r, L, O, j, rl, rs, (Post.bind z).imp ?_⟩
  rintro vs H1 ⟨S1, r1, ds, O1, e1, s1, p1, q1⟩
  have q2 : Post X.K ad (fun S r => Rp X.K S r) W σ S1 r1 Q (match int2 ds with | some p => lcEnd hm (lcG (fun i _ => some (rangeD p.1 (p.2 - p.1).toNat)[i]?) (lcTurn (own.map (·.2)) bm tm me L) (p.2 - p.1).toNat 0 O1 []) | none => .bad) := q1
  clear q1
  revert q2
  cases hj : int2 ds with
  | none => exact fun z => z.elim
  | some jj =>
    intro q1
    obtain ⟨rfl, ⟨b1, b2⟩, b3, b4⟩ := int2_ok hj
    obtain ⟨v, vr, rfl, rfl, u, ur, rfl, rfl, rfl⟩ := p1
    exact ⟨jj.1, jj.2, rfl, ⟨by omega, by omega, by omega, by omega⟩, lc_range (rl.mono e1) s1 q1⟩
theorem de_lcR2 {hm : Bool} {p q : Pos} (hc : X.calm = true) (hN : X.N.Nodup) (hg0 : Gl X "range") (hmr : X.mg "range" = none) (ha : PA X [a, b] (tA X.K ad J W mt)) (ok : BlkOk X.N X.env.scope scope own)
    (hg : ∀ (s : Shared) (H : Hp) (C : Addr) (cl : List (Str × Addr)) (fp : List Addr) (J' : JP), Cl (own.map (·.2)) J' → PG (X.blk s H scope (PySem.compEnvC scope cl C X.env) fp) tg (tG X.K ad J' bm))
    (ht : ∀ (s : Shared) (H : Hp) (C : Addr) (cl : List (Str × Addr)) (fp : List Addr) (J' : JP), Cl (own.map (·.2)) J' → PTs (X.blk s H scope (PySem.compEnvC scope cl C X.env) fp) ifs (tT X.K ad J' WF tm))
    (he : ∀ (s : Shared) (H : Hp) (C : Addr) (cl : List (Str × Addr)) (fp : List Addr) (J' : JP), Cl (own.map (·.2)) J' → PE (X.blk s H scope (PySem.compEnvC scope cl C X.env) fp) elt (tE X.K ad J' WF me))
    (hs0 : starEach [a, b] X.env = [(false, eval a X.env), (false, eval b X.env)] := by rfl) (hs2 : starEach [b] X.env = [(false, eval b X.env)] := by rfl) (hs : ∀ x, foldedSetIterable (.Call (.Name "range" p) [a, b] [] q) X.env x = pure x := by intro _; rfl) :
    PE X (.ListComp elt [⟨tg, .Call (.Name "range" p) [a, b] [] q, ifs, 0⟩] scope pos) (tE X.K ad J W (mLcR2 hm mt (own.map (·.2)) bm tm me)) :=
  pe_imp (pe_lc hc hN (pi_range2 hg0 hmr ha hs0 hs2) ok (g := tGx X.K ad (own.map (·.2)) bm) (tt := tTx X.K ad (own.map (·.2)) tm) (te := tEx X.K ad (own.map (·.2)) me) (fun s H C cl fp => gx_of (hg s H C cl fp)) (fun s H C cl fp => tx_of (ht s H C cl fp)) (fun s H C cl fp => ex_of (he s H C cl fp)) hs) lcR2_imp
theorem ds_setLcR2 {y : Str} {py spos : Pos} {iy : Nat} {hm : Bool} {p q : Pos} (hc : X.calm = true) (hN : X.N.Nodup) (hg0 : Gl X "range") (hmr : X.mg "range" = none) (ha : PA X [a, b] (tA X.K ad J W mt)) (ok : BlkOk X.N X.env.scope scope own)
    (hg : ∀ (s : Shared) (H : Hp) (C : Addr) (cl : List (Str × Addr)) (fp : List Addr) (J' : JP), Cl (own.map (·.2)) J' → PG (X.blk s H scope (PySem.compEnvC scope cl C X.env) fp) tg (tG X.K ad J' bm))
    (ht : ∀ (s : Shared) (H : Hp) (C : Addr) (cl : List (Str × Addr)) (fp : List Addr) (J' : JP), Cl (own.map (·.2)) J' → PTs (X.blk s H scope (PySem.compEnvC scope cl C X.env) fp) ifs (tT X.K ad J' WF tm))
    (he : ∀ (s : Shared) (H : Hp) (C : Addr) (cl : List (Str × Addr)) (fp : List Addr) (J' : JP), Cl (own.map (·.2)) J' → PE (X.blk s H scope (PySem.compEnvC scope cl C X.env) fp) elt (tE X.K ad J' WF me))
    (hs0 : starEach [a, b] X.env = [(false, eval a X.env), (false, eval b X.env)] := by rfl) (hs2 : starEach [b] X.env = [(false, eval b X.env)] := by rfl) (hs : ∀ x, foldedSetIterable (.Call (.Name "range" p) [a, b] [] q) X.env x = pure x := by intro _; rfl) (hy : X.N[iy]? = some y) (hyl : X.env.scope.names.lookup y = some .local) (hsw : swapsWith (.ListComp elt [⟨tg, .Call (.Name "range" p) [a, b] [] q, ifs, 0⟩] scope pos) (some (.Name y py)) spos.line X.env = pure true) (hJ : ∀ (σ : L2.St) (v : Option V) (S : Hp), J.p σ S → J.p (σ.set iy v) S := by intro _ _ _ _; trivial) :
    PS X (.Assign [.Name y py] (.ListComp elt [⟨tg, .Call (.Name "range" p) [a, b] [] q, ifs, 0⟩] scope pos) spos) (tS X.K ad J W (sAsg (mLcR2 hm mt (own.map (·.2)) bm tm me) (bName iy))) := by
  refine ps_imp (ps_setLc hc hN hy hyl hsw (pi_range2 hg0 hmr ha hs0 hs2) ok (g := tGx X.K ad (own.map (·.2)) bm) (tt := tTx X.K ad (own.map (·.2)) tm) (te := tEx X.K ad (own.map (·.2)) me) (fun s H C cl fp => gx_of (hg s H C cl fp)) (fun s H C cl fp => tx_of (ht s H C cl fp)) (fun s H C cl fp => ex_of (he s H C cl fp)) hs) ?_
  rintro En σ H h
  refine lcR2_imp (hm := hm) (W := W) (J := J) σ H _ ?_
  refine asg_imp (t := gName iy) ?_ En σ H h
  rintro v σ H Q ⟨S, r, L, O, d, j, rl, rs, rp, p⟩
  exact p S r _ H (Ext.refl _ _) (hJ _ _ _ j) (rl.set iy rp) rs
end
end DK
end
section
set_option Elab.async false
set_option linter.all false
set_option autoImplicit false
set_option maxRecDepth 100000
set_option maxHeartbeats 4000000
/-! DKMore: loops over a text, methods of texts, repr. -/
namespace DK
open PySem L2

def charsD (s : Str) : List D := s.cps.toList.map fun c => .str ⟨#[c]⟩
theorem chars_rp {K : PySem.W.Frag} {S : Hp} {r : Rg} : ∀ cs : List Nat, RpAll K S r (cs.map fun c => D.str ⟨#[c]⟩) (cs.map fun c => V.str ⟨#[c]⟩)
  | [] => rfl
  | _ :: cs => ⟨_, _, rfl, rfl, chars_rp cs⟩
def sForS (m : EM) (b : BM) (body : SM) : SM := fun L O => ofRes L (m L O) fun d O1 => match d with
  | .str s => loopD (turnOf b body) (charsD s) L O1
  | _ => .bad
def mLcS (h : Bool) (src : EM) (vs : List Nat) (b : BM) (tt : TM) (el : EM) : EM := fun L O => (src L O).bind fun d O1 => match d with
  | .str s => lcEnd h (lcG (fun i _ => some (charsD s)[i]?) (lcTurn vs b tt el L) (charsD s).length 0 O1 [])
  | _ => .bad
section
variable {X : Cx} {ad : Str → Addr} {J : JP} {W : WX} {pos : Pos} {a b c e tg iter elt : Expr} {es ifs : List Expr} {m me : EM} {mt : AM} {tm : TM} {st : Stmt} {rest body els : List Stmt} {s1 s2 : SM} {bm : BM} {bs : BsM} {scope : Scope} {own : List (Str × Nat)}
theorem its_at {x : Str} {i : Nat} {v : V} (h : (x.cps.toList.map fun c => V.str ⟨#[c]⟩)[i]? = some v) : ∃ c, x.cps[i]? = some c ∧ v = .str ⟨#[c]⟩ := by
  rw [List.getElem?_map] at h
  obtain ⟨c, hc, rfl⟩ := Option.map_eq_some_iff.mp h
  exact ⟨c, by rw [← Array.getElem?_toList]; exact hc, rfl⟩
theorem ds_forS (hp : PassesOwn (model X.prog X.w) X.A X.env X.xe) (hc : X.calm = true) (hi : PE X iter (tE X.K ad J W m)) (hg : PG X tg (tG X.K ad J bm)) (hb : PSs X body (tS X.K ad J W s1)) (hs : ∀ x, foldedSetIterable iter X.env x = pure x := by intro _; rfl) :
    PS X (.For tg iter body [] pos) (tS X.K ad J W (sForS m bm s1)) := by
  refine ps_imp (ps_for hp hc (pi_str hi) hg hb hs) ?_
  rintro En σ H ⟨S, r, L, O, j, rl, rs, p⟩
  refine ⟨S, r, L, O, j, rl, rs, (bindS j rl p).imp ?_⟩
  rintro x H1 ⟨S1, r1, d, O1, e1, q1, p1, k1⟩
  have rl1 := rl.mono e1
  cases d with
  | str s =>
    refine ⟨s, p1, for_still (It' := Its s) (charsD s) (chars_rp s.cps.toList) (fun i H S x e e' hx => ?_) (fun i H S x y H' e e' hx hy => ?_) (fun i H S e e' hl => ?_) (J.mono e1.s j) rl1 q1 k1⟩
    · obtain ⟨c, hc, _⟩ := its_at hx
      exact (Array.getElem?_eq_some_iff.mp hc).1
    · obtain ⟨c, hc, rfl⟩ := its_at hx
      obtain ⟨h1, c2, h2, h3⟩ := hy
      rw [hc] at h2
      cases h2
      exact ⟨h3, h1⟩
    · rw [List.length_map] at hl
      exact hl
  | hdl n => exact k1.elim
  | lst n => exact k1.elim
  | rol n => exact k1.elim
  | tup n => exact k1.elim
  | non => exact k1.elim
  | bl b => exact k1.elim
  | int i => exact k1.elim
theorem lcS_imp {hm : Bool} : ∀ σ H Q, (tE X.K ad J W (mLcS hm m (own.map (·.2)) bm tm me)) σ H Q → tLc (iStr (tE X.K ad J W m)) (tGx X.K ad (own.map (·.2)) bm) (tTx X.K ad (own.map (·.2)) tm) (tEx X.K ad (own.map (·.2)) me) (own.map (·.2)) σ H Q := by
  rintro σ H Q ⟨S, r, L, O, j, rl, rs, z⟩
  refine ⟨S, r, L, O, j, rl, rs, (Post.bind z).imp ?_⟩
  rintro x H1 ⟨S1, r1, d, O1, e1, s1, p1, q1⟩
  cases d with
  | str s =>
    refine ⟨s, p1, lc_post (nx := fun i _ => some (charsD s)[i]?) (fun i S r O H d' es el rs hn => ?_) (fun i S r O H es el rs hn => ?_) (rl.mono e1) s1 q1⟩
    · have hn' : (charsD s)[i]? = some d' := Option.some.inj hn
      unfold charsD at hn'
      rw [List.getElem?_map] at hn'
      obtain ⟨c, hc, rfl⟩ := Option.map_eq_some_iff.mp hn'
      rw [Array.getElem?_toList] at hc
      refine ⟨(Array.getElem?_eq_some_iff.mp hc).1, fun x H' hyy => ⟨hyy.1, ?_⟩⟩
      obtain ⟨_, c2, h2, h3⟩ := hyy
      rw [hc] at h2
      cases h2
      exact h3
    · have := List.getElem?_eq_none_iff.mp (Option.some.inj hn)
      unfold charsD at this
      rw [List.length_map] at this
      exact this
  | hdl n => exact q1.elim
  | lst n => exact q1.elim
  | rol n => exact q1.elim
  | tup n => exact q1.elim
  | non => exact q1.elim
  | bl b => exact q1.elim
  | int i => exact q1.elim
theorem de_lcS {hm : Bool} (hc : X.calm = true) (hN : X.N.Nodup) (hi : PE X iter (tE X.K ad J W m)) (ok : BlkOk X.N X.env.scope scope own)
    (hg : ∀ (s : Shared) (H : Hp) (C : Addr) (cl : List (Str × Addr)) (fp : List Addr) (J' : JP), Cl (own.map (·.2)) J' → PG (X.blk s H scope (PySem.compEnvC scope cl C X.env) fp) tg (tG X.K ad J' bm))
    (ht : ∀ (s : Shared) (H : Hp) (C : Addr) (cl : List (Str × Addr)) (fp : List Addr) (J' : JP), Cl (own.map (·.2)) J' → PTs (X.blk s H scope (PySem.compEnvC scope cl C X.env) fp) ifs (tT X.K ad J' WF tm))
    (he : ∀ (s : Shared) (H : Hp) (C : Addr) (cl : List (Str × Addr)) (fp : List Addr) (J' : JP), Cl (own.map (·.2)) J' → PE (X.blk s H scope (PySem.compEnvC scope cl C X.env) fp) elt (tE X.K ad J' WF me)) (hs : ∀ x, foldedSetIterable iter X.env x = pure x := by intro _; rfl) :
    PE X (.ListComp elt [⟨tg, iter, ifs, 0⟩] scope pos) (tE X.K ad J W (mLcS hm m (own.map (·.2)) bm tm me)) :=
  pe_imp (pe_lc hc hN (pi_str hi) ok (g := tGx X.K ad (own.map (·.2)) bm) (tt := tTx X.K ad (own.map (·.2)) tm) (te := tEx X.K ad (own.map (·.2)) me) (fun s H C cl fp => gx_of (hg s H C cl fp)) (fun s H C cl fp => tx_of (ht s H C cl fp)) (fun s H C cl fp => ex_of (he s H C cl fp)) hs) lcS_imp
/-! ### repr -/
def gRepr : Store → D → Option (D × Store) := fun O d => match d with
  | .bl b => some (.str (if b then "True" else "False"), O)
  | .non => some (.str "None", O)
  | .int i => if i.natAbs.log2 < 1920 then some (.str (toString i), O) else none
  | _ => none
theorem call_repr_bl : CallR X (.builtin "repr") (fun xs H Q => ∃ b : Bool, xs = [.bl b] ∧ Q (.str (if b then "True" else "False")) H) := by
  intro pins s σ H xs us Q I r h
  obtain ⟨b, rfl, q⟩ := h
  obtain ⟨u, rfl, t⟩ := vals1 r
  rw [show u = .bool b from t]
  exact PySem.P.repr_of_bool ⟨.str _, H, I.tok _, ⟨_, rfl⟩, q⟩
theorem call_repr_non : CallR X (.builtin "repr") (fun xs H Q => xs = [.non] ∧ Q (.str "None") H) := by
  intro pins s σ H xs us Q I r h
  obtain ⟨rfl, q⟩ := h
  obtain ⟨u, rfl, t⟩ := vals1 r
  rw [show u = .none from t]
  exact PySem.P.repr_of_none ⟨.str _, H, I.tok _, ⟨_, rfl⟩, q⟩
theorem cd_repr : CallD X ad (.builtin "repr") (g1 gRepr) := cd_1 (CallR.or call_repr_bl (CallR.or call_repr_non SkE.call_repr_int)) fun S r O H x d W σ Q rs p q => by
  unfold gRepr at q
  split at q
  · rename_i b
    rw [show x = .bl b from p]
    exact .inl ⟨b, rfl, q S r H _ (Ext.refl _ _) rs rfl⟩
  · rw [show x = .non from p]
    exact .inr (.inl ⟨rfl, q S r H _ (Ext.refl _ _) rs rfl⟩)
  · rename_i i
    rw [show x = .int i from p]
    split at q
    · rename_i hl
      exact .inr (.inr ⟨i, rfl, hl, q S r H _ (Ext.refl _ _) rs rfl⟩)
    · exact q.elim
  · exact q.elim
end
/-! ### methods of texts -/
structure MethS (X : Cx) (ad : Str → Addr) (id : String) (g : Store → Str → List D → Option (D × Store)) : Prop where
  ok : ∃ rr, MtR X id rr ∧ ∀ (S : Hp) (r : Rg) (O : Store) (H : Hp) (s : Str) (vs : List V) (ds : List D) (W : WX) (σ : L2.St) (Q : VK), Rs X.K ad S r O H → RpAll X.K S r ds vs →
    Post X.K ad (fun S r => Rp X.K S r) W σ S r Q (ofO (g O s ds)) → rr (.str s) vs H Q
def mBS (g : Store → Str → List D → Option (D × Store)) (mo : EM) (mt : AM) : EM := fun L O => (mo L O).bind fun d O1 => match d with
  | .str s => (mt L O1).bind fun ds O2 => ofO (g O2 s ds)
  | _ => .bad
def rows (h : Bool) (ys : List Str) (O : Store) : Option (D × Store) := newLO h (ys.map .str) O
def gSplit (h : Bool) : Store → Str → List D → Option (D × Store) := fun O a ds => match ds with
  | [.str b] => if (b.length == 0) = false ∧ a.length ≤ 1000000 then rows h (Txt.split a b) O else none
  | _ => none
def strsOf : List D → Option (List Str)
  | [] => some []
  | .str s :: ds => (strsOf ds).map (s :: ·)
  | _ => none
def gJoin : Store → Str → List D → Option (D × Store) := fun O a ds => match ds with
  | [d] => match seqOf O d with
    | some xs => match strsOf xs with
      | some ys => if (ys.map (·.length)).sum + ys.length * a.length ≤ 16777216 then some (.str (Txt.join a ys), O) else none
      | none => none
    | none => none
  | _ => none
def gTxt2 (f : Str → Str → D) : Store → Str → List D → Option (D × Store) := fun O a ds => match ds with
  | [.str b] => some (f a b, O)
  | _ => none
def gStarts := gTxt2 fun a b => .bl (Txt.startswith a b)
def gEnds := gTxt2 fun a b => .bl (Txt.endswith a b)
theorem strsOf_rp {K : PySem.W.Frag} {S : Hp} {r : Rg} : ∀ {ds : List D} {vs : List V} {ns : List Str}, RpAll K S r ds vs → strsOf ds = some ns → vs = ns.map V.str
  | [], vs, ns, h, e => by cases e; exact h
  | .str i :: ds, vs, ns, h, e => by
    obtain ⟨v, vr, rfl, rfl, h2⟩ := h
    have e : (strsOf ds).map (i :: ·) = some ns := e
    obtain ⟨ms, e1, rfl⟩ := Option.map_eq_some_iff.mp e
    rw [strsOf_rp h2 e1]
    rfl
  | .non :: _, _, _, _, e => by cases e
  | .int _ :: _, _, _, _, e => by cases e
  | .bl _ :: _, _, _, _, e => by cases e
  | .lst _ :: _, _, _, _, e => by cases e
  | .rol _ :: _, _, _, _, e => by cases e
  | .tup _ :: _, _, _, _, e => by cases e
  | .hdl _ :: _, _, _, _, e => by cases e
theorem strs_rp {K : PySem.W.Frag} {S : Hp} {r : Rg} : ∀ ys : List Str, RpAll K S r (ys.map D.str) (ys.map V.str)
  | [] => rfl
  | _ :: ys => ⟨_, _, rfl, rfl, strs_rp ys⟩
section
variable {X : Cx} {ad : Str → Addr} {J : JP} {W : WX} {apos cpos : Pos} {o e : Expr} {es : List Expr} {mo : EM} {mt : AM}
theorem de_bS {name : Str} {id : String} {g : Store → Str → List D → Option (D × Store)} (pa : PlainAttrs "str") (slot : Slot "str" name id) (hty : typeOf (.builtin id) = pure (.type "method_descriptor")) (hm : MethS X ad id g) (ho : PE X o (tE X.K ad J W mo)) (ha : PA X (e :: es) (tA X.K ad J W mt))
    (hbase : attributeBase o name X.env (eval o X.env) = eval o X.env := by rfl)
    (hfew : ((backTo cpos (starEach (e :: es) X.env)).all (fun x => !x.1) && (backToKw cpos (keywordEach [] X.env)).all (fun x => x.1.isSome)
      && decide ((e :: es).length + ([] : List Keyword).length + (if ([] : List Keyword).isEmpty then 0 else 1) < 30)) = true := by rfl)
    (hline : (apos.endLine == cpos.line) = true := by rfl) (hs : starEach (e :: es) X.env = (false, eval e X.env) :: starEach es X.env := by rfl) (hplain : (backTo cpos (starEach es X.env)).any (·.1) = false := by rfl) :
    PE X (.Call (.Attribute o name apos) (e :: es) [] cpos) (tE X.K ad J W (mBS g mo mt)) := by
  obtain ⟨rr, h1, h2⟩ := hm.ok
  refine pe_imp (pe_bm pa slot hty h1 ho ha hbase hfew hline hs hplain) ?_
  rintro σ H Q ⟨S, r, L, O, j, rl, rs, q⟩
  refine ⟨S, r, L, O, j, rl, rs, (Post.bind q).imp ?_⟩
  rintro x H1 ⟨S1, r1, d, O1, e1, s1, p1, q1⟩
  cases d with
  | str s =>
    refine ⟨by rw [show x = .str s from p1]; rfl, S1, r1, L, O1, J.mono e1.s j, rl.mono e1, s1, (Post.bind q1).imp ?_⟩
    rintro vs H2 ⟨S2, r2, ds, O2, e2, s2, p2, q2⟩
    rw [show x = .str s from p1]
    exact h2 S2 r2 O2 H2 s vs ds W σ Q s2 p2 q2
  | hdl n => exact q1.elim
  | lst n => exact q1.elim
  | rol n => exact q1.elim
  | tup n => exact q1.elim
  | non => exact q1.elim
  | bl b => exact q1.elim
  | int i => exact q1.elim
theorem rows_post {h : Bool} {ys : List Str} {S : Hp} {r : Rg} {O : Store} {H : Hp} {σ : L2.St} {Q : VK} (rs : Rs X.K ad S r O H) (q : Post X.K ad (fun S r => Rp X.K S r) W σ S r Q (ofO (rows h ys O))) : rNewStrs ys H Q := by
  unfold rows at q
  rw [ofO_newLO] at q
  exact (newL_post rs (strs_rp ys) q).2
theorem ms_split (h : Bool) : MethS X ad "str.split" (gSplit h) where
  ok := ⟨_, mt_split, fun S r O H s vs ds W σ Q rs p q => by
    unfold gSplit at q
    split at q
    · rename_i b
      obtain ⟨v, vr, rfl, rfl, rfl⟩ := p
      split at q
      · rename_i hc
        exact ⟨s, b, rfl, rfl, hc.1, by rw [sizeLine_eq]; omega, rows_post rs q⟩
      · exact q.elim
    · exact q.elim⟩
theorem ms_join : MethS X ad "str.join" gJoin where
  ok := ⟨_, mt_join, fun S r O H s vs ds W σ Q rs p q => by
    unfold gJoin at q
    split at q
    · rename_i d
      obtain ⟨v, vr, rfl, p1, rfl⟩ := p
      split at q
      · rename_i xs hx
        split at q
        · rename_i ys hy
          split at q
          · rename_i hl
            obtain ⟨a, us, rfl, h1, h2⟩ := seqOf_ok rs p1 hx
            rw [strsOf_rp h2 hy] at h1
            exact ⟨s, a, ys, rfl, rfl, h1, hl, q S r H _ (Ext.refl _ _) rs rfl⟩
          · exact q.elim
        · exact q.elim
      · exact q.elim
    · exact q.elim⟩
theorem ms_txt2 {id : String} {f : Str → Str → D} {g : Str → Str → V} (h : MtR X id (fun x xs H Q => ∃ a b, x = .str a ∧ xs = [.str b] ∧ Q (g a b) H)) (hf : ∀ a b S r, Rp X.K S r (f a b) (g a b)) : MethS X ad id (gTxt2 f) where
  ok := ⟨_, h, fun S r O H s vs ds W σ Q rs p q => by
    unfold gTxt2 at q
    split at q
    · rename_i b
      obtain ⟨v, vr, rfl, rfl, rfl⟩ := p
      exact ⟨s, b, rfl, rfl, q S r H _ (Ext.refl _ _) rs (hf s b S r)⟩
    · exact q.elim⟩
theorem ms_starts : MethS X ad "str.startswith" gStarts := ms_txt2 (g := fun a b => .bl (Txt.startswith a b)) mt_startswith fun _ _ _ _ => rfl
theorem ms_ends : MethS X ad "str.endswith" gEnds := ms_txt2 (g := fun a b => .bl (Txt.endswith a b)) mt_endswith fun _ _ _ _ => rfl
end
end DK
end
section
set_option Elab.async false
set_option linter.all false
set_option autoImplicit false
set_option maxRecDepth 100000
set_option maxHeartbeats 4000000
/-! DKMeth: methods of a list of the store (pop, insert, extend, remove, reverse), by mirrors. -/
namespace DK
open PySem L2
structure MethL (X : Cx) (ad : Str → Addr) (id : String) (g : Store → Nat → List D → List D → Option (D × Store)) : Prop where
  ok : ∃ rr, MtR X id rr ∧ ∀ (S : Hp) (r : Rg) (O : Store) (H : Hp) (n : Nat) (a : Addr) (xs : List D) (us vs : List V) (ds : List D) (W : WX) (σ : L2.St) (Q : VK), Rs X.K ad S r O H → r.l[n]? = some a → lstOf O (.hdl n) = some xs →
    H a = some (.lst us) → S a = none → RpAll X.K S r xs us → RpAll X.K S r ds vs → Post X.K ad (fun S r => Rp X.K S r) W σ S r Q (ofO (g O n xs ds)) → rr (.ref a) vs H Q
def mBL (g : Store → Nat → List D → List D → Option (D × Store)) (mo : EM) (mt : AM) : EM := fun L O => (mo L O).bind fun d O1 => match d with
  | .hdl n => match lstOf O1 (.hdl n) with
    | some _ => (mt L O1).bind fun ds O2 => match lstOf O2 (.hdl n) with
      | some xs => ofO (g O2 n xs ds)
      | none => .bad
    | none => .bad
  | _ => .bad
/-- the last item taken off -/
def gPop : Store → Nat → List D → List D → Option (D × Store) := fun O n xs ds => match ds with
  | [] => match xs[xs.length - 1]? with
    | some y => some (y, O.set n (.lst xs.dropLast))
    | none => none
  | _ => none
def gPopAt : Store → Nat → List D → List D → Option (D × Store) := fun O n xs ds => match ds with
  | [.int i] => if -(2 ^ 63) ≤ i ∧ i < 2 ^ 63 then match seqIndex? i xs.length with
      | some k => match xs[k]? with
        | some y => some (y, O.set n (.lst (xs.eraseIdx k)))
        | none => none
      | none => none
    else none
  | _ => none
def gInsert : Store → Nat → List D → List D → Option (D × Store) := fun O n xs ds => match ds with
  | [.int i, y] => if xs.length ≤ 1000000 ∧ 0 ≤ i ∧ i < 2 ^ 63 then some (.non, O.set n (.lst (xs.take i.toNat ++ [y] ++ xs.drop i.toNat))) else none
  | _ => none
def gExtend : Store → Nat → List D → List D → Option (D × Store) := fun O n xs ds => match ds with
  | [.hdl m] => match lstOf O (.hdl m) with
    | some zs => if xs.length ≤ 100000 ∧ zs.length ≤ 100000 then some (.non, O.set n (.lst (xs ++ zs))) else none
    | none => none
  | _ => none
def gReverse : Store → Nat → List D → List D → Option (D × Store) := fun O n xs ds => match ds with
  | [] => some (.non, O.set n (.lst xs.reverse))
  | _ => none
section
variable {X : Cx} {ad : Str → Addr} {J : JP} {W : WX} {pos p p2 apos cpos : Pos} {a b e o : Expr} {es : List Expr} {m me mo mi : EM} {mt : AM}
theorem rp_take {K : PySem.W.Frag} {S : Hp} {r : Rg} : ∀ {ds : List D} {vs : List V} (k : Nat), RpAll K S r ds vs → RpAll K S r (ds.take k) (vs.take k)
  | [], vs, k, h => by rw [show vs = [] from h, List.take_nil, List.take_nil]; rfl
  | d :: ds, vs, 0, h => rfl
  | d :: ds, vs, k + 1, h => by
    obtain ⟨v, vr, rfl, h1, h2⟩ := h
    exact ⟨v, _, rfl, h1, rp_take k h2⟩
theorem rp_drop {K : PySem.W.Frag} {S : Hp} {r : Rg} : ∀ {ds : List D} {vs : List V} (k : Nat), RpAll K S r ds vs → RpAll K S r (ds.drop k) (vs.drop k)
  | [], vs, k, h => by rw [show vs = [] from h, List.drop_nil, List.drop_nil]; rfl
  | d :: ds, vs, 0, h => h
  | d :: ds, vs, k + 1, h => by
    obtain ⟨v, vr, rfl, h1, h2⟩ := h
    exact rp_drop k h2
theorem rp_getI {K : PySem.W.Frag} {S : Hp} {r : Rg} : ∀ {ds : List D} {vs : List V} {k : Nat} {y : D}, RpAll K S r ds vs → ds[k]? = some y → ∃ v, vs[k]? = some v ∧ Rp K S r y v
  | [], vs, k, y, h, e => by simp at e
  | d :: ds, vs, 0, y, h, e => by
    obtain ⟨v, vr, rfl, h1, h2⟩ := h
    cases e
    exact ⟨v, rfl, h1⟩
  | d :: ds, vs, k + 1, y, h, e => by
    obtain ⟨v, vr, rfl, h1, h2⟩ := h
    exact rp_getI (ds := ds) (k := k) h2 (by simpa using e)
theorem rp_rev {K : PySem.W.Frag} {S : Hp} {r : Rg} : ∀ {ds : List D} {vs : List V}, RpAll K S r ds vs → RpAll K S r ds.reverse vs.reverse
  | [], vs, h => by rw [show vs = [] from h]; rfl
  | d :: ds, vs, h => by
    obtain ⟨v, vr, rfl, h1, h2⟩ := h
    rw [List.reverse_cons, List.reverse_cons]
    exact (rp_rev h2).append (.cons h1 .nil)
theorem rp_erase {K : PySem.W.Frag} {S : Hp} {r : Rg} {ds : List D} {vs : List V} (k : Nat) (h : RpAll K S r ds vs) : RpAll K S r (ds.eraseIdx k) (vs.eraseIdx k) := by
  rw [List.eraseIdx_eq_take_drop_succ, List.eraseIdx_eq_take_drop_succ]
  exact (rp_take k h).append (rp_drop (k + 1) h)
theorem de_bL0 {name : Str} {id : String} {g : Store → Nat → List D → List D → Option (D × Store)} (pa : PlainAttrs "list") (slot : Slot "list" name id) (hty : typeOf (.builtin id) = pure (.type "method_descriptor")) (hm : MethL X ad id g) (ho : PE X o (tE X.K ad J W mo))
    (hbase : attributeBase o name X.env (eval o X.env) = eval o X.env := by rfl) (hline : (apos.endLine == cpos.line) = true := by rfl) :
    PE X (.Call (.Attribute o name apos) [] [] cpos) (tE X.K ad J W (mBL g mo mNil)) := by
  obtain ⟨rr, h1, h2⟩ := hm.ok
  refine pe_imp (pe_bm0 pa slot hty h1 ho hbase hline) ?_
  rintro σ H Q ⟨S, r, L, O, j, rl, rs, q⟩
  refine ⟨S, r, L, O, j, rl, rs, (Post.bind q).imp ?_⟩
  rintro x H1 ⟨S1, r1, d, O1, e1, s1, p1, q1⟩
  cases d with
  | hdl n =>
    obtain ⟨l, rfl, hl⟩ := p1
    replace q1 : Post X.K ad (fun S r => Rp X.K S r) W σ S1 r1 Q (match lstOf O1 (.hdl n) with
      | some _ => (match lstOf O1 (.hdl n) with | some xs => ofO (g O1 n xs []) | none => .bad)
      | none => .bad) := q1
    split at q1
    · rename_i zs hz
      replace q1 : Post X.K ad (fun S r => Rp X.K S r) W σ S1 r1 Q (ofO (g O1 n zs [])) := q1
      obtain ⟨z, us, g1, g2⟩ := hdl_lst s1 hl hz
      exact ⟨.inl ⟨rfl, us, .of g1⟩, h2 S1 r1 O1 H1 n l zs us [] [] W σ Q s1 hl hz g1 z g2 rfl q1⟩
    · exact q1.elim
  | lst n => exact q1.elim
  | rol n => exact q1.elim
  | tup n => exact q1.elim
  | non => exact q1.elim
  | bl b => exact q1.elim
  | int i => exact q1.elim
  | str i => exact q1.elim
theorem de_bL {name : Str} {id : String} {g : Store → Nat → List D → List D → Option (D × Store)} (pa : PlainAttrs "list") (slot : Slot "list" name id) (hty : typeOf (.builtin id) = pure (.type "method_descriptor")) (hm : MethL X ad id g) (ho : PE X o (tE X.K ad J W mo)) (ha : PA X (e :: es) (tA X.K ad J W mt))
    (hbase : attributeBase o name X.env (eval o X.env) = eval o X.env := by rfl)
    (hfew : ((backTo cpos (starEach (e :: es) X.env)).all (fun x => !x.1) && (backToKw cpos (keywordEach [] X.env)).all (fun x => x.1.isSome)
      && decide ((e :: es).length + ([] : List Keyword).length + (if ([] : List Keyword).isEmpty then 0 else 1) < 30)) = true := by rfl)
    (hline : (apos.endLine == cpos.line) = true := by rfl) (hs : starEach (e :: es) X.env = (false, eval e X.env) :: starEach es X.env := by rfl) (hplain : (backTo cpos (starEach es X.env)).any (·.1) = false := by rfl) :
    PE X (.Call (.Attribute o name apos) (e :: es) [] cpos) (tE X.K ad J W (mBL g mo mt)) := by
  obtain ⟨rr, h1, h2⟩ := hm.ok
  refine pe_imp (pe_bm pa slot hty h1 ho ha hbase hfew hline hs hplain) ?_
  rintro σ H Q ⟨S, r, L, O, j, rl, rs, q⟩
  refine ⟨S, r, L, O, j, rl, rs, (Post.bind q).imp ?_⟩
  rintro x H1 ⟨S1, r1, d, O1, e1, s1, p1, q1⟩
  cases d with
  | hdl n =>
    obtain ⟨l, rfl, hl⟩ := p1
    replace q1 : Post X.K ad (fun S r => Rp X.K S r) W σ S1 r1 Q (match lstOf O1 (.hdl n) with
      | some _ => (mt L O1).bind fun ds O2 => (match lstOf O2 (.hdl n) with | some xs => ofO (g O2 n xs ds) | none => .bad)
      | none => .bad) := q1
    split at q1
    · rename_i zs hz
      obtain ⟨z, us, g1, g2⟩ := hdl_lst s1 hl hz
      refine ⟨.inl ⟨rfl, us, .of g1⟩, S1, r1, L, O1, J.mono e1.s j, rl.mono e1, s1, (Post.bind q1).imp ?_⟩
      rintro vs H2 ⟨S2, r2, ds, O2, e2, s2, p2, q2⟩
      have hl2 := pre_get e2.r hl
      replace q2 : Post X.K ad (fun S r => Rp X.K S r) W σ S2 r2 Q (match lstOf O2 (.hdl n) with | some xs => ofO (g O2 n xs ds) | none => .bad) := q2
      split at q2
      · rename_i xs hx
        obtain ⟨z2, us2, g3, g4⟩ := hdl_lst s2 hl2 hx
        exact h2 S2 r2 O2 H2 n l xs us2 vs ds W σ Q s2 hl2 hx g3 z2 g4 p2 q2
      · exact q2.elim
    · exact q1.elim
  | lst n => exact q1.elim
  | rol n => exact q1.elim
  | tup n => exact q1.elim
  | non => exact q1.elim
  | bl b => exact q1.elim
  | int i => exact q1.elim
  | str i => exact q1.elim
theorem rp_dropLast {K : PySem.W.Frag} {S : Hp} {r : Rg} {ds : List D} {vs : List V} (h : RpAll K S r ds vs) : RpAll K S r ds.dropLast vs.dropLast := by
  rw [List.dropLast_eq_take, List.dropLast_eq_take, h.length]
  exact rp_take _ h
theorem ml_pop : MethL X ad "list.pop" gPop where
  ok := ⟨_, mt_pop, fun S r O H n a xs us vs ds W σ Q rs hl hx hH z h p q => by
    unfold gPop at q
    split at q
    · cases (show vs = [] from p)
      split at q
      · rename_i y hy
        obtain ⟨v, hv, rv⟩ := rp_getI h hy
        rw [← h.length] at hv
        exact ⟨a, us, v, rfl, rfl, hH, hv, q S r _ _ (Ext.refl _ _) (set_lst (vs := us) rs hl z (rp_dropLast h)) rv⟩
      · exact q.elim
    · exact q.elim⟩
theorem ml_popAt : MethL X ad "list.pop" gPopAt where
  ok := ⟨_, mt_popAt, fun S r O H n a xs us vs ds W σ Q rs hl hx hH z h p q => by
    unfold gPopAt at q
    split at q
    · rename_i i
      obtain ⟨v, vr, rfl, rfl, rfl⟩ := p
      split at q
      · rename_i hi
        split at q
        · rename_i k hk
          split at q
          · rename_i y hy
            obtain ⟨v, hv, rv⟩ := rp_getI h hy
            rw [← h.length] at hk
            exact ⟨a, us, i, k, v, rfl, rfl, hH, hi.1, hi.2, hk, hv, q S r _ _ (Ext.refl _ _) (set_lst (vs := us) rs hl z (rp_erase k h)) rv⟩
          · exact q.elim
        · exact q.elim
      · exact q.elim
    · exact q.elim⟩
theorem ml_insert : MethL X ad "list.insert" gInsert where
  ok := ⟨_, mt_insert, fun S r O H n a xs us vs ds W σ Q rs hl hx hH z h p q => by
    unfold gInsert at q
    split at q
    · rename_i i y
      obtain ⟨v, vr, rfl, rfl, v2, vr2, rfl, p2, rfl⟩ := p
      split at q
      · rename_i hi
        exact ⟨a, us, i, v2, rfl, rfl, hH, by rw [h.length]; exact million_lt hi.1, hi.2.1, hi.2.2, q S r _ _ (Ext.refl _ _) (set_lst (vs := us) rs hl z (((rp_take _ h).append (.cons p2 .nil)).append (rp_drop _ h))) rfl⟩
      · exact q.elim
    · exact q.elim⟩
theorem ml_extend : MethL X ad "list.extend" gExtend where
  ok := ⟨_, mt_extend, fun S r O H n a xs us vs ds W σ Q rs hl hx hH z h p q => by
    unfold gExtend at q
    split at q
    · rename_i m
      obtain ⟨v, vr, rfl, ⟨b, rfl, hb⟩, rfl⟩ := p
      split at q
      · rename_i zs hz
        obtain ⟨z2, us2, g3, g4⟩ := hdl_lst rs hb hz
        split at q
        · rename_i hi
          exact ⟨a, b, us, us2, rfl, rfl, hH, g3, by rw [h.length, g4.length, sizeLine_eq]; omega, q S r _ _ (Ext.refl _ _) (set_lst (vs := us) rs hl z (h.append g4)) rfl⟩
        · exact q.elim
      · exact q.elim
    · exact q.elim⟩
theorem ml_reverse : MethL X ad "list.reverse" gReverse where
  ok := ⟨_, mt_reverse, fun S r O H n a xs us vs ds W σ Q rs hl hx hH z h p q => by
    unfold gReverse at q
    split at q
    · cases (show vs = [] from p)
      exact ⟨a, us, rfl, rfl, hH, q S r _ _ (Ext.refl _ _) (set_lst (vs := us) rs hl z (rp_rev h)) rfl⟩
    · exact q.elim⟩
end
end DK
end
section
set_option Elab.async false
set_option linter.all false
set_option autoImplicit false
set_option maxRecDepth 100000
set_option maxHeartbeats 4000000
/-! DKHead: facts of the head by names, a def's datum, the law's own end. -/
namespace DK
open PySem L2

/-! ### more facts -/
inductive Fx where
  | exc (x : Str)
  | kitR (x y : Str) (b : Bool)
  | kitT (x : Str) (T : String) (b : Bool)
def Fx.ok (K : PySem.W.Frag) : Fx → Bool
  | .exc x => (decide (PySem.W.findIn K (.ref (He.ga K x)) "__getattribute__" = some (some (.builtin "BaseException.__getattribute__")) ∧ PySem.W.findIn K (.ref (He.ga K x)) "__getattr__" = some none ∧ PySem.W.subIn K (.ref (He.ga K x)) (.type "BaseException") = some true ∧ PySem.W.hasDictIn K (He.ga K x) = true ∧ PySem.W.findIn K (.ref (He.ga K x)) "__class__" = some (some (.builtin "object.__class__"))
      ∧ PySem.W.specialIn K (.builtin "object.__class__") "__get__" = some (some (.builtin "getset_descriptor.__get__")) ∧ PySem.W.takesIn K (.builtin "object.__class__") = some true ∧ PySem.W.mroIn K (He.ga K x) (.type "object") = some true))
  | .kitR x y b => decide (PySem.W.kitOne K (.ref (He.ga K x)) (.ref (He.ga K y)) = some b)
  | .kitT x T b => decide (PySem.W.kitOne K (.ref (He.ga K x)) (.type T) = some b)
theorem fx_exc {K : PySem.W.Frag} {x : Str} (h : (Fx.exc x).ok K = true) : ExcC K (He.ga K x) := by
  obtain ⟨h1, h2, h3, h4, h5, h6, h7, h8⟩ := of_decide_eq_true h
  exact ⟨h1, h2, h3, h4, h5, h6, h7, h8⟩
theorem fx_kitR {K : PySem.W.Frag} {x y : Str} {b : Bool} (h : (Fx.kitR x y b).ok K = true) : PySem.W.kitOne K (.ref (He.ga K x)) (.ref (He.ga K y)) = some b := of_decide_eq_true h
theorem fx_kitT {K : PySem.W.Frag} {x : Str} {T : String} {b : Bool} (h : (Fx.kitT x T b).ok K = true) : PySem.W.kitOne K (.ref (He.ga K x)) (.type T) = some b := of_decide_eq_true h
def allFx (fx : List Fx) (K : PySem.W.Frag) : Bool := fx.all fun f => f.ok K
theorem fx_at {fx : List Fx} {K : PySem.W.Frag} (c : allFx fx K = true) (i : Nat) {f : Fx} (h : fx[i]? = some f := by rfl) : f.ok K = true := List.all_eq_true.mp c f (List.mem_of_getElem? h)
/-- what the head tells of K -/
structure Knows (fa : List He.Fa) (fn : List He.DefD) (fx : List Fx) (K : PySem.W.Frag) (mg : Str → Option Value) : Prop where
  c : He.SaysD fa fn K
  x : allFx fx K = true
  h : ∃ h : Heap, K.In h ∧ h.Ns mainGlobals mg
section
variable {fa : List He.Fa} {fn : List He.DefD} {fx : List Fx} {K : PySem.W.Frag} {mg : Str → Option Value} (k : Knows fa fn fx K mg)
include k
theorem Knows.glo (i : Nat) {x : Str} (e : fa[i]? = some (.glo x) := by rfl) : mg x = some (.ref (He.ga K x)) := by
  obtain ⟨h, X, G⟩ := k.h
  exact He.glo_ok X G (k.c.fact i e)
theorem Knows.free (i : Nat) {x : Str} (e : fa[i]? = some (.free x) := by rfl) : mg x = none := by
  obtain ⟨h, X, G⟩ := k.h
  exact He.free_ok X G (k.c.fact i e)
theorem Knows.int (i : Nat) {x : Str} {z : Int} (e : fa[i]? = some (.int x z) := by rfl) : ∃ t, mg x = some (.int z t) := by
  obtain ⟨h, X, G⟩ := k.h
  exact He.int_ok X G (k.c.fact i e)
theorem Knows.str (i : Nat) {x z : Str} (e : fa[i]? = some (.str x z) := by rfl) : ∃ t, mg x = some (.str z t) := by
  obtain ⟨h, X, G⟩ := k.h
  exact He.str_ok X G (k.c.fact i e)
theorem Knows.cls (i : Nat) {x : Str} (e : fa[i]? = some (.cls x) := by rfl) : Cls K (He.ga K x) := He.cls_ok (k.c.fact i e)
theorem Knows.noat (i : Nat) {x f : Str} (e : fa[i]? = some (.noat x f) := by rfl) : NoAttr K (He.ga K x) f := He.noat_ok (k.c.fact i e)
theorem Knows.meth (i : Nat) {x m : Str} (e : fa[i]? = some (.meth x m) := by rfl) : Meth K (He.ga K x) m (He.fAd K (x, some m)) := He.meth_ok (k.c.fact i e)
theorem Knows.mkr (i : Nat) {x : Str} (e : fa[i]? = some (.mkr x) := by rfl) : Mk K (He.ga K x) (He.fAd K (x, some "__init__")) := He.mkr_ok (k.c.fact i e)
theorem Knows.exc (i : Nat) {x : Str} (e : fa[i]? = some (.exc x) := by rfl) : PySem.W.excIn K (He.ga K x) He.veBase "ValueError.__new__" = true ∧ PySem.W.keepIn K (.ref (He.ga K x)) = true ∧ PySem.W.subIn K (.ref (He.ga K x)) (.type "BaseException") = some true ∧ PySem.W.typeIn K (.ref (He.ga K x)) = some (.type "type") := He.exc_ok (k.c.fact i e)
theorem Knows.exm (i : Nat) {x y : Str} {b : Bool} (e : fa[i]? = some (.exm x y b) := by rfl) : PySem.W.exmOne K (.ref (He.ga K x)) (.ref (He.ga K y)) = some b := He.exm_ok (k.c.fact i e)
end
/-- a def that the mirror tells -/
def Has (P : Program) (w : World) (K : PySem.W.Frag) (mg : Str → Option Value) (base : Heap) (k : Nat) (d : He.DefD) (ps : List Str) (fm : FM) : Prop :=
  ∃ fd, FunD K d.name d.qual d.params d.body d.scope (d.dvs K) (d.kws K) (He.fAd K d.at_) fd ∧ FnOk P w K mg base (L2.CX P w) k (He.fAd K d.at_) fd ps (spM K (He.ga K) ps.length fm)
section
variable {P : Program} {w : World} {K : PySem.W.Frag} {mg : Str → Option Value} {base : Heap} {d : He.DefD} {ps N : List Str} {fm : FM} {b : SM}
theorem has_mono {j k : Nat} (h : Has P w K mg base j d ps fm) (e : j ≤ k) : Has P w K mg base k d ps fm := by
  obtain ⟨fd, F, O⟩ := h
  exact ⟨fd, F, O.mono e⟩
theorem has_def {k : Nat} (c : ∃ fd, FunD K d.name d.qual d.params d.body d.scope (d.dvs K) (d.kws K) (He.fAd K d.at_) fd) (sc : FnScope N ps d.scope)
    (hb : ∀ (f : Addr) (cdv : Value) (A : Around) (outer : List Env) (s : Shared) (H : Hp) (E : XK), Room k (A.deeper (PyProof.Rows.envOfC d.qual d.scope s.heap.objs.size f cdv)) →
      PSs (cxOf (L2.CX P w) P w K mg base N d.qual d.scope f cdv A outer s H E) d.body (tS K (He.ga K) JT (fun c d _ H => E c d H) b)) :
    Has P w K mg base (k + 1) d ps (runF N.length b) := by
  obtain ⟨fd, F⟩ := c
  exact ⟨fd, F, fn_def F sc fun cdv A outer s H E hr => hb _ cdv A outer s H E hr⟩
/-- a def that is never asked -/
theorem has_bad {k : Nat} (c : ∃ fd, FunD K d.name d.qual d.params d.body d.scope (d.dvs K) (d.kws K) (He.fAd K d.at_) fd) : Has P w K mg base k d ps (fun _ _ => .bad) := by
  obtain ⟨fd, F⟩ := c
  refine ⟨fd, F, fun vs H Q E h => ?_, fun A outer s H args us vs Q E hr e0 hb hv h => ?_⟩
  · obtain ⟨S, r, O, ds, hl, _, hp, z⟩ := h
    exact z.elim
  · obtain ⟨S, r, O, ds, hl, _, hp, z⟩ := h
    exact z.elim
end
/-! ### the law's def: nothing is let out -/
section
variable {P : Program} {w : World} {K : PySem.W.Frag} {mg : Str → Option Value} {base : Heap} {ad : Str → Addr}
/-- the promise: the law gives True -/
def spLaw (K : PySem.W.Frag) (m : FM) : Sp := fun vs H Q _ => ∃ (a : Addr) (ns : List Int), vs = [.ref a] ∧ SqL K H a (ns.map V.int) ∧ ns.length ≤ 63 ∧ (∃ O, m [.rol (ns.map D.int)] [] = .ok (.bl true) O) ∧ ∀ H', Q (.bl true) H'
theorem ints_rp {S : Hp} {r : Rg} : ∀ ns : List Int, RpAll K S r (ns.map D.int) (ns.map V.int)
  | [] => rfl
  | n :: ns => ⟨_, _, rfl, rfl, ints_rp ns⟩
theorem law_def {x qual : Str} {params : Arguments} {bd : List Stmt} {scope : Scope} {f : Addr} {fd : FuncData} {N : List Str} {k : Nat} {b : SM} {y : Str} (F : FunD K x qual params bd scope [] [] f fd) (sc : FnScope N [y] scope)
    (hb : ∀ (cdv : Value) (A : Around) (outer : List Env) (s : Shared) (H : Hp) (E : XK), Room k (A.deeper (PyProof.Rows.envOfC qual scope s.heap.objs.size f cdv)) →
      PSs (cxOf CX0 P w K mg base N qual scope f cdv A outer s H E) bd (tS K ad JT WF b)) :
    FnOk P w K mg base CX0 (k + 1) f fd [y] (spLaw K (runF N.length b)) := by
  have hpl : 1 ≤ N.length := by have := congrArg List.length sc.pre; rw [List.length_take] at this; simp at this; omega
  refine F.ok sc (fun vs H Q E h => ?_) (fun cdv A outer s H vs Q E hr h => ?_)
  · obtain ⟨a, ns, rfl, _⟩ := h
    rfl
  · refine ⟨_, hb cdv A outer s H E hr, ?_⟩
    obtain ⟨a, ns, rfl, hS, hl, ⟨O1, hm⟩, hQ⟩ := h
    have p1 : RpAll K H ⟨[], fun _ => none⟩ [.rol (ns.map D.int)] [.ref a] := ⟨_, _, rfl, ⟨a, _, rfl, hS, ints_rp ns⟩, rfl⟩
    have rs : Rs K ad H ⟨[], fun _ => none⟩ [] H := ⟨Same.refl H, rfl, List.nodup_nil, fun n a o h => (by simp at h), fun b u e => (by cases e), fun a o e => (by cases e)⟩
    refine ⟨H, ⟨[], fun _ => none⟩, _, [], trivial, start_rl (ds := [.rol (ns.map D.int)]) hpl p1, rs, ?_⟩
    unfold runF at hm
    generalize b (([D.rol (ns.map D.int)] : List D).map some ++ List.replicate (N.length - ([D.rol (ns.map D.int)] : List D).length) none) [] = z at hm ⊢
    cases z with
    | next L O => cases hm
    | ret d O =>
      cases hm
      exact fun S' r' H' v e _ p => by
        rw [show v = .bl true from p]
        exact hQ H'
    | brk L O => cases hm
    | cnt L O => cases hm
    | exc x L O => cases hm
    | bad => cases hm
end
/-- one address, one function object -/
theorem fd_eq {K : PySem.W.Frag} {x x' qual qual' : Str} {params params' : Arguments} {bd bd' : List Stmt} {scope scope' : Scope} {dvs dvs' : List V} {kws kws' : List (Str × V)} {f : Addr} {fd fd' : FuncData} (F : FunD K x qual params bd scope dvs kws f fd) (G : FunD K x' qual' params' bd' scope' dvs' kws' f fd') : fd = fd' := by
  obtain ⟨_, _, _, _, _, _, _, _, _, _, rfl, l1, _⟩ := F.ex
  obtain ⟨_, _, _, _, _, _, _, _, _, _, rfl, l2, _⟩ := G.ex
  have e := l1.symm.trans l2
  injection e with e
  injection e with _ _ e _
  injection e
/-! ### small helps -/
theorem tk_of {P : Program} {w : World} {K : PySem.W.Frag} {mg : Str → Option Value} {base : Heap} {N : List Str} {qual : Str} {scope : Scope} {f : Addr} {cdv : Value} {A : Around} {outer : List Env} {s : Shared} {H : Hp} {E : XK} : Takes (cxOf (L2.CX P w) P w K mg base N qual scope f cdv A outer s H E) (fun c d _ H => E c d H) := takes_of rfl rfl rfl rfl
theorem own_of {CX : CXT} {P : Program} {w : World} {K : PySem.W.Frag} {mg : Str → Option Value} {base : Heap} {N : List Str} {qual : Str} {scope : Scope} {f : Addr} {cdv : Value} {A : Around} {outer : List Env} {s : Shared} {H : Hp} {E : XK} : PassesOwn (model P w) (cxOf CX P w K mg base N qual scope f cdv A outer s H E).A (cxOf CX P w K mg base N qual scope f cdv A outer s H E).env (cxOf CX P w K mg base N qual scope f cdv A outer s H E).xe := passes_of rfl
def inC (st : Stmt) (i : Nat) : Stmt := match st with
  | .ClassDef _ _ _ b _ _ _ _ _ _ _ => b.getD i (.Pass ⟨0, 0, 0, 0⟩)
  | _ => .Pass ⟨0, 0, 0, 0⟩
end DK
end
section
set_option Elab.async false
set_option linter.all false
set_option autoImplicit false
set_option maxRecDepth 100000
set_option maxHeartbeats 4000000
/-! DKPlain: the draws of the laws, in plain Lean. -/
namespace DK
open PySem L2

def bDraw : SM := (sSeq (sIf (mTest (mOp gGt (mOp gIx (mVar 0) (mC (.int 2))) (mC (.int 0)))) (sSeq (sAsg (mOp gMod (mCall (g1 gInt) (mCons (mOp gIx (mVar 0) (mC (.int 2))) mNil)) (mVar 1)) (bName 2))
    (sSeq (sAsg (mOp gFdiv (mOp gIx (mVar 0) (mC (.int 2))) (mVar 1)) (bSubL (mVar 0) (mC (.int 2))))
    (sRet (mVar 2)))) sNext)
    (sSeq (sIf (mAnd (mTest (mOp gEq (mOp gMod (mCall (g1 gInt) (mCons (mOp gIx (mVar 0) (mC (.int 4))) mNil)) (mC (.int 8))) (mC (.int 0)))) (mTest (mOp gLt (mOp gIx (mVar 0) (mC (.int 1))) (mCall (g1 gLen) (mCons (mOp gIx (mVar 0) (mC (.int 0))) mNil))))) (sSeq (sAsg (mCall (g1 gAbs) (mCons (mOp gIx (mOp gIx (mVar 0) (mC (.int 0))) (mOp gIx (mVar 0) (mC (.int 1)))) mNil)) (bName 3))
    (sSeq (sAsg (mOp (gAdd false) (mOp gIx (mVar 0) (mC (.int 1))) (mC (.int 1))) (bSubL (mVar 0) (mC (.int 1))))
    (sSeq (sIf (mTest (mOp gGe (mVar 3) (mOp gPow (mC (.int 10)) (mC (.int 18))))) (sSeq (sAsg (mOp gFdiv (mVar 3) (mVar 1)) (bSubL (mVar 0) (mC (.int 2))))
    (sRet (mOp gMod (mCall (g1 gInt) (mCons (mVar 3) mNil)) (mVar 1)))) sNext)
    (sAsg (mVar 3) (bSubL (mVar 0) (mC (.int 3))))))) sNext)
    (sSeq (sAsg (mOp (gAdd false) (mOp gIx (mVar 0) (mC (.int 4))) (mC (.int 1))) (bSubL (mVar 0) (mC (.int 4))))
    (sSeq (sAsg (mOp gMod (mCall (g1 gInt) (mCons (mOp (gAdd false) (mOp (gAdd false) (mOp gMul (mOp gIx (mVar 0) (mC (.int 3))) (mC (.int 48271))) (mOp gMul (mOp gIx (mVar 0) (mC (.int 4))) (mC (.int 69621)))) (mC (.int 7919))) mNil)) (mC (.int 2147483647))) (bName 4))
    (sSeq (sAsg (mOp gMod (mCall (g1 gInt) (mCons (mOp (gAdd false) (mOp gMul (mVar 4) (mVar 4)) (mOp gMul (mOp gIx (mVar 0) (mC (.int 4))) (mC (.int 40692)))) mNil)) (mC (.int 2147483399))) (bName 4))
    (sRet (mOp gMod (mCall (g1 gInt) (mCons (mVar 4) mNil)) (mVar 1))))))))
def fDraw : FM := runF 5 bDraw
/-- the pool of draws at n: its script, place, what is left, last number, count (at most b) -/
def poolL (ns : List Int) (z la li k : Int) : List D := [.lst (ns.map D.int), .int z, .int la, .int li, .int k]
structure Pool (b : Nat) (n : Nat) (O : Store) : Prop where
  ex : ∃ ns z la li k, O[n]? = some (.lst (poolL ns z la li k)) ∧ 0 ≤ z ∧ z ≤ ns.length ∧ 0 ≤ la ∧ 0 ≤ li ∧ li < 10 ^ 18 ∧ 0 ≤ k ∧ k ≤ b
theorem set_at {O : Store} {n : Nat} {o p : Ob} (h : O[n]? = some o) : (O.set n p)[n]? = some p := List.getElem?_set_self (List.getElem?_eq_some_iff.mp h).1


theorem gMul_ok {O : Store} {i j : Int} (hi : i.natAbs < 2 ^ 4096) (hj : j.natAbs < 2 ^ 4096) : gMul O (.int i) (.int j) = some (.int (i * j), O) := by
  have h1 : i.natAbs.log2 ≤ 4096 := by
    by_cases h : i.natAbs = 0
    · rw [h]; decide
    · exact Nat.le_of_lt ((Nat.log2_lt h).mpr hi)
  have h2 : j.natAbs.log2 ≤ 4096 := by
    by_cases h : j.natAbs = 0
    · rw [h]; decide
    · exact Nat.le_of_lt ((Nat.log2_lt h).mpr hj)
  unfold gMul gI
  have e : decide (i.natAbs.log2 + j.natAbs.log2 < 1000000) = true := decide_eq_true (by omega)
  simp only [e, if_pos]
theorem gFdiv_ok {O : Store} {i j : Int} (h0 : 0 < j) (hj : j.natAbs < 2 ^ 4096) : gFdiv O (.int i) (.int j) = some (.int (i / j), O) := by
  have h2 : j.natAbs.log2 ≤ 4096 := Nat.le_of_lt ((Nat.log2_lt (by omega)).mpr hj)
  unfold gFdiv gI
  have e : decide (0 < j ∧ j.natAbs.log2 < 9000) = true := decide_eq_true ⟨h0, by omega⟩
  simp only [e, if_pos]
theorem gMod_ok {O : Store} {i j : Int} (h0 : 0 < j) : gMod O (.int i) (.int j) = some (.int (i % j), O) := by
  unfold gMod gI
  have e : decide (0 < j) = true := decide_eq_true h0
  simp only [e, if_pos]
theorem gPow_ok {O : Store} {i j : Int} (h0 : 0 ≤ j) (h1 : j ≤ 1000000) (h2 : i.natAbs < 2 ^ 64) : gPow O (.int i) (.int j) = some (.int (i ^ j.toNat), O) := by
  unfold gPow gI
  have e : decide (0 ≤ j ∧ j ≤ 1000000 ∧ i.natAbs < 2 ^ 64) = true := decide_eq_true ⟨h0, h1, h2⟩
  simp only [e, if_pos]
theorem gSub_ok {O : Store} {i j : Int} : gSub O (.int i) (.int j) = some (.int (i - j), O) := rfl
theorem gAdd_ok {O : Store} {h : Bool} {i j : Int} : gAdd h O (.int i) (.int j) = some (.int (i + j), O) := rfl
theorem gEq_int {O : Store} {i j : Int} : gEq O (.int i) (.int j) = some (.bl (decide (i = j)), O) := by
  have : decide (V.int i = V.int j) = decide (i = j) := by simp
  show (match some (decide (V.int i = V.int j)) with | some b => some (D.bl b, O) | none => none) = _
  rw [this]
theorem gNe_int {O : Store} {i j : Int} : gNe O (.int i) (.int j) = some (.bl (!decide (i = j)), O) := by
  have : decide (V.int i = V.int j) = decide (i = j) := by simp
  show (match some (decide (V.int i = V.int j)) with | some b => some (D.bl (!b), O) | none => none) = _
  rw [this]
theorem gLt_int {O : Store} {i j : Int} : gLt O (.int i) (.int j) = some (.bl (decide (i < j)), O) := rfl
theorem gLe_int {O : Store} {i j : Int} : gLe O (.int i) (.int j) = some (.bl (decide (i ≤ j)), O) := rfl
theorem gGt_int {O : Store} {i j : Int} : gGt O (.int i) (.int j) = some (.bl (decide (j < i)), O) := rfl
theorem gGe_int {O : Store} {i j : Int} : gGe O (.int i) (.int j) = some (.bl (decide (j ≤ i)), O) := rfl
theorem atI_nat {α : Type} {xs : List α} {i : Int} {x : α} (h0 : 0 ≤ i) (h : xs[i.toNat]? = some x) : atI xs i = some x := by
  have hl := (List.getElem?_eq_some_iff.mp h).1
  unfold atI ixN
  rw [if_pos h0, if_pos (by omega)]
  exact h
theorem big_of {i : Int} {n : Nat} (h0 : 0 ≤ i) (h : i ≤ n) (hn : n < 2 ^ 4096) : i.natAbs < 2 ^ 4096 := by omega

theorem atI_c0 {α : Type} {a : α} {xs : List α} : atI (a :: xs) 0 = some a := atI_nat (by decide) rfl
theorem atI_c1 {α : Type} {a b : α} {xs : List α} : atI (a :: b :: xs) 1 = some b := atI_nat (by decide) rfl
theorem atI_c2 {α : Type} {a b c : α} {xs : List α} : atI (a :: b :: c :: xs) 2 = some c := atI_nat (by decide) rfl
theorem atI_c3 {α : Type} {a b c d : α} {xs : List α} : atI (a :: b :: c :: d :: xs) 3 = some d := atI_nat (by decide) rfl
theorem atI_c4 {α : Type} {a b c d e : α} {xs : List α} : atI (a :: b :: c :: d :: e :: xs) 4 = some e := atI_nat (by decide) rfl
theorem ixN5_1 : ixN 5 1 = some 1 := rfl
theorem ixN5_2 : ixN 5 2 = some 2 := rfl
theorem ixN5_3 : ixN 5 3 = some 3 := rfl
theorem ixN5_4 : ixN 5 4 = some 4 := rfl
theorem draw_ok {b n : Nat} {O : Store} {many : Int} (h : Pool b n O) (hm : 0 < many) (hm2 : many ≤ 2 ^ 64) (hb : b ≤ 2 ^ 64) :
    ∃ v P, fDraw [.hdl n, .int many] O = .ok (.int v) (O.set n (.lst P)) ∧ 0 ≤ v ∧ v < many ∧ Pool (b + 1) n (O.set n (.lst P)) := by
  obtain ⟨ns, z, la, li, k, h, hz0, hz1, hla0, hli0, hli1, hk0, hkb⟩ := h
  have hmb : many.natAbs < 2 ^ 4096 := big_of (n := 2 ^ 64) (by omega) hm2 (by decide)
  have fd : ∀ (O : Store) (i : Int), gFdiv O (.int i) (.int many) = some (.int (i / many), O) := fun O i => gFdiv_ok hm hmb
  have md : ∀ (O : Store) (i : Int), gMod O (.int i) (.int many) = some (.int (i % many), O) := fun O i => gMod_ok hm
  have v0 : ∀ i : Int, 0 ≤ i % many ∧ i % many < many := fun i => ⟨Int.emod_nonneg i (by omega), Int.emod_lt_of_pos i hm⟩
  have m8 : ∀ (O : Store) (i : Int), gMod O (.int i) (.int 8) = some (.int (i % 8), O) := fun O i => gMod_ok (by decide)
  have m1 : ∀ (O : Store) (i : Int), gMod O (.int i) (.int 2147483647) = some (.int (i % 2147483647), O) := fun O i => gMod_ok (by decide)
  have m2 : ∀ (O : Store) (i : Int), gMod O (.int i) (.int 2147483399) = some (.int (i % 2147483399), O) := fun O i => gMod_ok (by decide)
  have pw : ∀ (O : Store), gPow O (.int 10) (.int 18) = some (.int (10 ^ 18), O) := fun O => gPow_ok (by decide) (by decide) (by decide)
  by_cases c1 : 0 < la
  · refine ⟨la % many, poolL ns z (la / many) li k, ?_, (v0 la).1, (v0 la).2, ns, z, la / many, li, k, set_at h, hz0, hz1, Int.ediv_nonneg (by omega) (by omega), hli0, hli1, hk0, by omega⟩
    simp [fDraw, runF, bDraw, sSeq, sIf, ofRes, mTest, mOp, mVar, mC, gGt_int, gIx, seqOf, h, poolL, atI_c0, atI_c1, atI_c2, atI_c3, atI_c4, ixN5_1, ixN5_2, ixN5_3, ixN5_4, Res.bind, ofO, sAsg, mCall, mCons, mNil, g1, gInt, bName, fd, md, c1, bSubL, lstOf, ofB, sRet]
  · have c1' : la = 0 := by omega
    subst c1'
    have hset : ∀ p : Ob, (O.set n p)[n]? = some p := fun p => set_at h
    have hk : k.natAbs < 2 ^ 4096 := big_of hk0 hkb (by omega)
    have k1 : (k + 1).natAbs < 2 ^ 4096 := by omega
    have ml : ∀ (O : Store) (i j : Int), i.natAbs < 2 ^ 4096 → j.natAbs < 2 ^ 4096 → gMul O (.int i) (.int j) = some (.int (i * j), O) := fun O i j h1 h2 => gMul_ok h1 h2
    have mx : ∀ (O : Store) (i : Int), gMul O (.int (i % 2147483647)) (.int (i % 2147483647)) = some (.int (i % 2147483647 * (i % 2147483647)), O) := fun O i => by
      have h1 := Int.emod_nonneg i (show (2147483647 : Int) ≠ 0 by decide)
      have h2 := Int.emod_lt_of_pos i (show (0 : Int) < 2147483647 by decide)
      have := big_of (n := 2147483647) h1 (by omega) (by decide)
      exact gMul_ok this this
    have mk1 : ∀ (O : Store), gMul O (.int (k + 1)) (.int 69621) = some (.int ((k + 1) * 69621), O) := fun O => gMul_ok k1 (by decide)
    have mk2 : ∀ (O : Store), gMul O (.int (k + 1)) (.int 40692) = some (.int ((k + 1) * 40692), O) := fun O => gMul_ok k1 (by decide)
    have mli : ∀ (O : Store) (i : Int), 0 ≤ i → i < 10 ^ 18 → gMul O (.int i) (.int 48271) = some (.int (i * 48271), O) := fun O i h0 h1 => gMul_ok (big_of (n := 10 ^ 18) h0 (by omega) (by decide)) (by decide)
    by_cases c2 : k % 8 = 0
    · by_cases c3 : z < ns.length
      · obtain ⟨c, hc⟩ : ∃ c, ns[z.toNat]? = some c := ⟨ns[z.toNat]'(by omega), List.getElem?_eq_getElem _⟩
        have hix : atI (ns.map D.int) z = some (.int c) := atI_nat hz0 (by rw [List.getElem?_map, hc]; rfl)
        obtain ⟨e, he⟩ : ∃ e, (if c < 0 then -c else c) = e := ⟨_, rfl⟩
        have he0 : 0 ≤ e := by rw [← he]; split <;> omega
        by_cases c4 : (10 : Int) ^ 18 ≤ e
        · refine ⟨e % many, poolL ns (z + 1) (e / many) li k, ?_, (v0 _).1, (v0 _).2, ns, z + 1, e / many, li, k, set_at h, by omega, by omega, Int.ediv_nonneg he0 (by omega), hli0, hli1, hk0, by omega⟩
          simp only [show (10 : Int) ^ 18 = 1000000000000000000 by decide] at c4 pw
          simp [fDraw, runF, bDraw, sSeq, sIf, sNext, ofRes, mTest, mOp, mVar, mC, gGt_int, gLt_int, gGe_int, gEq_int, gIx, seqOf, h, poolL, atI_c0, atI_c1, atI_c2, atI_c3, atI_c4, ixN5_1, ixN5_2, ixN5_3, ixN5_4, Res.bind, ofO, sAsg, mCall, mCons, mNil, g1, gInt, gLen, gAbs, bName, fd, md, m8, m1, m2, pw, bSubL, lstOf, ofB, sRet, mAnd, gAdd_ok, hset, List.set_set, c2, c3, hix, he, c4]
        · refine ⟨((e * 48271 + (k + 1) * 69621 + 7919) % 2147483647 * ((e * 48271 + (k + 1) * 69621 + 7919) % 2147483647) + (k + 1) * 40692) % 2147483399 % many, poolL ns (z + 1) 0 e (k + 1), ?_, (v0 _).1, (v0 _).2, ns, z + 1, 0, e, k + 1, set_at h, by omega, by omega, by omega, he0, by omega, by omega, by omega⟩
          have me := fun O => mli O e he0 (by omega)
          simp only [show (10 : Int) ^ 18 = 1000000000000000000 by decide] at c4 pw
          simp [fDraw, runF, bDraw, sSeq, sIf, sNext, ofRes, mTest, mOp, mVar, mC, gGt_int, gLt_int, gGe_int, gEq_int, gIx, seqOf, h, poolL, atI_c0, atI_c1, atI_c2, atI_c3, atI_c4, ixN5_1, ixN5_2, ixN5_3, ixN5_4, Res.bind, ofO, sAsg, mCall, mCons, mNil, g1, gInt, gLen, gAbs, bName, fd, md, m8, m1, m2, pw, bSubL, lstOf, ofB, sRet, mAnd, gAdd_ok, hset, List.set_set, c2, c3, hix, he, c4, me, mx, mk1, mk2]
      · refine ⟨((li * 48271 + (k + 1) * 69621 + 7919) % 2147483647 * ((li * 48271 + (k + 1) * 69621 + 7919) % 2147483647) + (k + 1) * 40692) % 2147483399 % many, poolL ns z 0 li (k + 1), ?_, (v0 _).1, (v0 _).2, ns, z, 0, li, k + 1, set_at h, by omega, by omega, by omega, hli0, by omega, by omega, by omega⟩
        have me := fun O => mli O li hli0 hli1
        simp [fDraw, runF, bDraw, sSeq, sIf, sNext, ofRes, mTest, mOp, mVar, mC, gGt_int, gLt_int, gGe_int, gEq_int, gIx, seqOf, h, poolL, atI_c0, atI_c1, atI_c2, atI_c3, atI_c4, ixN5_1, ixN5_2, ixN5_3, ixN5_4, Res.bind, ofO, sAsg, mCall, mCons, mNil, g1, gInt, gLen, gAbs, bName, fd, md, m8, m1, m2, pw, bSubL, lstOf, ofB, sRet, mAnd, gAdd_ok, hset, List.set_set, c2, c3, me, mx, mk1, mk2]
    · refine ⟨((li * 48271 + (k + 1) * 69621 + 7919) % 2147483647 * ((li * 48271 + (k + 1) * 69621 + 7919) % 2147483647) + (k + 1) * 40692) % 2147483399 % many, poolL ns z 0 li (k + 1), ?_, (v0 _).1, (v0 _).2, ns, z, 0, li, k + 1, set_at h, by omega, by omega, by omega, hli0, by omega, by omega, by omega⟩
      have me := fun O => mli O li hli0 hli1
      simp [fDraw, runF, bDraw, sSeq, sIf, sNext, ofRes, mTest, mOp, mVar, mC, gGt_int, gLt_int, gGe_int, gEq_int, gIx, seqOf, h, poolL, atI_c0, atI_c1, atI_c2, atI_c3, atI_c4, ixN5_1, ixN5_2, ixN5_3, ixN5_4, Res.bind, ofO, sAsg, mCall, mCons, mNil, g1, gInt, gLen, gAbs, bName, fd, md, m8, m1, m2, pw, bSubL, lstOf, ofB, sRet, mAnd, gAdd_ok, hset, List.set_set, c2, me, mx, mk1, mk2]

/-! ### evaluation -/
theorem kitTab : kitB "NoneType" "bool" = some false ∧ kitB "NoneType" "int" = some false ∧ kitB "NoneType" "str" = some false ∧ kitB "NoneType" "list" = some false ∧ kitB "NoneType" "tuple" = some false ∧ kitB "NoneType" "dict" = some false ∧ kitB "bool" "bool" = some true ∧ kitB "bool" "int" = some true ∧ kitB "bool" "str" = some false ∧ kitB "bool" "list" = some false ∧ kitB "bool" "tuple" = some false ∧ kitB "bool" "dict" = some false ∧ kitB "int" "bool" = some false ∧ kitB "int" "int" = some true ∧ kitB "int" "str" = some false ∧ kitB "int" "list" = some false ∧ kitB "int" "tuple" = some false ∧ kitB "int" "dict" = some false ∧ kitB "str" "bool" = some false ∧ kitB "str" "int" = some false ∧ kitB "str" "str" = some true ∧ kitB "str" "list" = some false ∧ kitB "str" "tuple" = some false ∧ kitB "str" "dict" = some false ∧ kitB "list" "bool" = some false ∧ kitB "list" "int" = some false ∧ kitB "list" "str" = some false ∧ kitB "list" "list" = some true ∧ kitB "list" "tuple" = some false ∧ kitB "list" "dict" = some false ∧ kitB "tuple" "bool" = some false ∧ kitB "tuple" "int" = some false ∧ kitB "tuple" "str" = some false ∧ kitB "tuple" "list" = some false ∧ kitB "tuple" "tuple" = some true ∧ kitB "tuple" "dict" = some false ∧ kitB "dict" "bool" = some false ∧ kitB "dict" "int" = some false ∧ kitB "dict" "str" = some false ∧ kitB "dict" "list" = some false ∧ kitB "dict" "tuple" = some false ∧ kitB "dict" "dict" = some true := by decide +kernel
theorem gNe_bl {O : Store} {i j : Bool} : gNe O (.bl i) (.bl j) = some (.bl (!decide (i = j)), O) := by cases i <;> cases j <;> rfl
theorem gEq_bl {O : Store} {i j : Bool} : gEq O (.bl i) (.bl j) = some (.bl (decide (i = j)), O) := by cases i <;> cases j <;> rfl
theorem gEq_str {O : Store} {i j : Str} : gEq O (.str i) (.str j) = some (.bl (decide (i = j)), O) := by
  have : decide (V.str i = V.str j) = decide (i = j) := by simp
  show (match some (decide (V.str i = V.str j)) with | some b => some (D.bl b, O) | none => none) = _
  rw [this]
theorem gNe_str {O : Store} {i j : Str} : gNe O (.str i) (.str j) = some (.bl (!decide (i = j)), O) := by
  have : decide (V.str i = V.str j) = decide (i = j) := by simp
  show (match some (decide (V.str i = V.str j)) with | some b => some (D.bl (!b), O) | none => none) = _
  rw [this]
theorem isNon_t : isNon .non = true ∧ (∀ b, isNon (.bl b) = false) ∧ (∀ b, isNon (.int b) = false) ∧ (∀ b, isNon (.str b) = false) ∧ (∀ b, isNon (.lst b) = false) ∧ (∀ b, isNon (.tup b) = false) ∧ (∀ b, isNon (.hdl b) = false) := ⟨rfl, fun _ => rfl, fun _ => rfl, fun _ => rfl, fun _ => rfl, fun _ => rfl, fun _ => rfl⟩
/-- a loop keeps what each turn keeps -/
theorem loopD_keeps {turn : D → SM} {I : Nat → Loc → Store → Prop} : ∀ (ds : List D) (i : Nat) (L : Loc) (O : Store), I i L O → (∀ j d L O, ds[j]? = some d → I (i + j) L O → ∃ L' O', turn d L O = .next L' O' ∧ I (i + j + 1) L' O') → ∃ L' O', loopD turn ds L O = .next L' O' ∧ I (i + ds.length) L' O'
  | [], i, L, O, h, _ => ⟨L, O, rfl, h⟩
  | d :: ds, i, L, O, h, k => by
    obtain ⟨L1, O1, e, h1⟩ := k 0 d L O rfl h
    obtain ⟨L2, O2, e2, h2⟩ := loopD_keeps ds (i + 1) L1 O1 h1 fun j d' L O hd hI => by
      have := k (j + 1) d' L O hd (by rw [show i + (j + 1) = i + 1 + j by omega]; exact hI)
      rw [show i + (j + 1) + 1 = i + 1 + j + 1 by omega] at this
      exact this
    refine ⟨L2, O2, ?_, by rw [show i + (d :: ds).length = i + 1 + ds.length by rw [List.length_cons]; omega]; exact h2⟩
    show (match turn d L O with
      | .next L1 O1 => loopD turn ds L1 O1
      | .cnt L1 O1 => loopD turn ds L1 O1
      | .brk L1 O1 => .next L1 O1
      | .ret d O1 => .ret d O1
      | .exc x L1 O1 => .exc x L1 O1
      | .bad => .bad) = _
    rw [e]
    exact e2
end DK
end
section
set_option Elab.async false
set_option linter.all false
set_option autoImplicit false
set_option maxRecDepth 100000
set_option maxHeartbeats 4000000
/-! DKText: the takes of the laws; loops over the signs of a text, in plain Lean. -/
namespace DK
open PySem L2

def fCell : FM := runF 2 (sSeq (sIf (mTest (mOp gLt (mVar 1) (mCall (g1 gLen) (mCons (mVar 0) mNil)))) (sRet (mCall (g1 gAbs) (mCons (mCall (g1 gInt) (mCons (mOp gIx (mVar 0) (mVar 1)) mNil)) mNil))) sNext)
    (sRet (mOp (gAdd false) (mOp gMul (mC (.int 37)) (mVar 1)) (mC (.int 11)))))
def bTake : SM := (sSeq (sIf (mTest (mOp gGt (mOp gIx (mVar 0) (mC (.int 2))) (mC (.int 0)))) (sSeq (sAsg (mOp gMod (mCall (g1 gInt) (mCons (mOp gIx (mVar 0) (mC (.int 2))) mNil)) (mVar 1)) (bName 2))
    (sSeq (sAsg (mOp gFdiv (mCall (g1 gInt) (mCons (mOp gIx (mVar 0) (mC (.int 2))) mNil)) (mVar 1)) (bSubL (mVar 0) (mC (.int 2))))
    (sRet (mVar 2)))) sNext)
    (sSeq (sAsg (mFn (arity 2 fCell) [] (mCons (mOp gIx (mVar 0) (mC (.int 0))) (mCons (mOp gIx (mVar 0) (mC (.int 1))) mNil))) (bName 3))
    (sSeq (sAsg (mOp (gAdd false) (mOp gIx (mVar 0) (mC (.int 1))) (mC (.int 1))) (bSubL (mVar 0) (mC (.int 1))))
    (sSeq (sIf (mTest (mOp gGe (mVar 3) (mOp gPow (mC (.int 10)) (mC (.int 9))))) (sAsg (mOp gFdiv (mCall (g1 gInt) (mCons (mVar 3) mNil)) (mVar 1)) (bSubL (mVar 0) (mC (.int 2)))) sNext)
    (sRet (mOp gMod (mCall (g1 gInt) (mCons (mVar 3) mNil)) (mVar 1)))))))
def fTake : FM := runF 4 bTake
/-- the state of the takes at n: its script, place (at most b), what is left -/
def takeL (ns : List Int) (z la : Int) : List D := [.rol (ns.map D.int), .int z, .int la]
structure Take (b : Nat) (n : Nat) (O : Store) : Prop where
  ex : ∃ ns z la, O[n]? = some (.lst (takeL ns z la)) ∧ ns.length ≤ 1000 ∧ 0 ≤ z ∧ z ≤ b ∧ 0 ≤ la
theorem tmono {n a c : Nat} {O : Store} (hac : a ≤ c) : Take a n O → Take c n O := fun ⟨ns, z, la, h, h0, h1, h2, h3⟩ => ⟨ns, z, la, h, h0, h1, by omega, h3⟩
theorem cell_ok {ns : List Int} {z : Int} {O : Store} (h0 : 0 ≤ z) (h1 : z ≤ 2 ^ 64) : ∃ c, fCell [.rol (ns.map D.int), .int z] O = .ok (.int c) O ∧ 0 ≤ c := by
  have ml : ∀ O : Store, gMul O (.int 37) (.int z) = some (.int (37 * z), O) := fun O => gMul_ok (by decide) (big_of (n := 2 ^ 64) h0 (by omega) (by decide))
  by_cases c : z < ns.length
  · obtain ⟨x, hx⟩ : ∃ x, ns[z.toNat]? = some x := ⟨ns[z.toNat]'(by omega), List.getElem?_eq_getElem _⟩
    have hix : atI (ns.map D.int) z = some (.int x) := atI_nat h0 (by rw [List.getElem?_map, hx]; rfl)
    exact ⟨if x < 0 then -x else x, by simp [fCell, runF, sSeq, sIf, sNext, sDrop, sRet, sRetN, sAsg, ofRes, ofB, bName, bNil, bCons, bTup, bLst, bSubL, mTest, mOp, mVar, mC, mChain, mAnd, mOr, mNot, mIf, mAndV, mOrV, mNotV, mNeg, mCons, mNil, mTup, mLst, newL, mCall, mFn, arity, g1, g2, gLen, gInt, gAbs, gMax2, gMin2, gIx, seqOf, lsqOf, lstOf, Res.bind, ofO, gAdd_ok, gSub_ok, gEq_int, gNe_int, gLt_int, gLe_int, gGt_int, gGe_int, gEq_bl, gNe_bl, gEq_str, gNe_str, mIsi, mIsiT, tyD, kitL, kitTab, atI_c0, atI_c1, atI_c2, atI_c3, atI_c4, sForR1, int1, int2, mMeth, mMake, mFld, sFldM, gIs, gIsNot, isNon_t, sRaise, gList, newLO, c, hix], by split <;> omega⟩
  · exact ⟨37 * z + 11, by simp [fCell, runF, sSeq, sIf, sNext, sDrop, sRet, sRetN, sAsg, ofRes, ofB, bName, bNil, bCons, bTup, bLst, bSubL, mTest, mOp, mVar, mC, mChain, mAnd, mOr, mNot, mIf, mAndV, mOrV, mNotV, mNeg, mCons, mNil, mTup, mLst, newL, mCall, mFn, arity, g1, g2, gLen, gInt, gAbs, gMax2, gMin2, gIx, seqOf, lsqOf, lstOf, Res.bind, ofO, gAdd_ok, gSub_ok, gEq_int, gNe_int, gLt_int, gLe_int, gGt_int, gGe_int, gEq_bl, gNe_bl, gEq_str, gNe_str, mIsi, mIsiT, tyD, kitL, kitTab, atI_c0, atI_c1, atI_c2, atI_c3, atI_c4, sForR1, int1, int2, mMeth, mMake, mFld, sFldM, gIs, gIsNot, isNon_t, sRaise, gList, newLO, c, ml], by omega⟩
theorem ixN3_1 : ixN 3 1 = some 1 := rfl
theorem ixN3_2 : ixN 3 2 = some 2 := rfl
theorem take_ok {b n : Nat} {O : Store} {m : Int} (h : Take b n O) (hm : 0 < m) (hm2 : m ≤ 2 ^ 64) (hb : b ≤ 2 ^ 32) :
    ∃ v P, fTake [.hdl n, .int m] O = .ok (.int v) (O.set n (.lst P)) ∧ 0 ≤ v ∧ v < m ∧ Take (b + 1) n (O.set n (.lst P)) := by
  obtain ⟨ns, z, la, h, hl, hz0, hz1, hla0⟩ := h
  have hmb : m.natAbs < 2 ^ 4096 := big_of (n := 2 ^ 64) (by omega) hm2 (by decide)
  have fd : ∀ (O : Store) (i : Int), gFdiv O (.int i) (.int m) = some (.int (i / m), O) := fun O i => gFdiv_ok hm hmb
  have md : ∀ (O : Store) (i : Int), gMod O (.int i) (.int m) = some (.int (i % m), O) := fun O i => gMod_ok hm
  have v0 : ∀ i : Int, 0 ≤ i % m ∧ i % m < m := fun i => ⟨Int.emod_nonneg i (by omega), Int.emod_lt_of_pos i hm⟩
  have hset : ∀ p : Ob, (O.set n p)[n]? = some p := fun p => set_at h
  have pw : ∀ (O : Store), gPow O (.int 10) (.int 9) = some (.int (10 ^ 9), O) := fun O => gPow_ok (by decide) (by decide) (by decide)
  by_cases c1 : 0 < la
  · refine ⟨la % m, takeL ns z (la / m), ?_, (v0 la).1, (v0 la).2, ns, z, la / m, set_at h, hl, hz0, by omega, Int.ediv_nonneg (by omega) (by omega)⟩
    simp [fTake, bTake, runF, sSeq, sIf, sNext, sDrop, sRet, sRetN, sAsg, ofRes, ofB, bName, bNil, bCons, bTup, bLst, bSubL, mTest, mOp, mVar, mC, mChain, mAnd, mOr, mNot, mIf, mAndV, mOrV, mNotV, mNeg, mCons, mNil, mTup, mLst, newL, mCall, mFn, arity, g1, g2, gLen, gInt, gAbs, gMax2, gMin2, gIx, seqOf, lsqOf, lstOf, Res.bind, ofO, gAdd_ok, gSub_ok, gEq_int, gNe_int, gLt_int, gLe_int, gGt_int, gGe_int, gEq_bl, gNe_bl, gEq_str, gNe_str, mIsi, mIsiT, tyD, kitL, kitTab, atI_c0, atI_c1, atI_c2, atI_c3, atI_c4, sForR1, int1, int2, mMeth, mMake, mFld, sFldM, gIs, gIsNot, isNon_t, sRaise, gList, newLO, h, hset, takeL, fd, md, c1, ixN3_1, ixN3_2]
  · obtain ⟨c, hc, c0⟩ := cell_ok (ns := ns) (O := O) hz0 (by omega)
    by_cases c2 : (10 : Int) ^ 9 ≤ c
    · refine ⟨c % m, takeL ns (z + 1) (c / m), ?_, (v0 c).1, (v0 c).2, ns, z + 1, c / m, set_at h, hl, by omega, by omega, Int.ediv_nonneg c0 (by omega)⟩
      simp only [show (10 : Int) ^ 9 = 1000000000 by decide] at c2 pw
      simp [fTake, bTake, runF, sSeq, sIf, sNext, sDrop, sRet, sRetN, sAsg, ofRes, ofB, bName, bNil, bCons, bTup, bLst, bSubL, mTest, mOp, mVar, mC, mChain, mAnd, mOr, mNot, mIf, mAndV, mOrV, mNotV, mNeg, mCons, mNil, mTup, mLst, newL, mCall, mFn, arity, g1, g2, gLen, gInt, gAbs, gMax2, gMin2, gIx, seqOf, lsqOf, lstOf, Res.bind, ofO, gAdd_ok, gSub_ok, gEq_int, gNe_int, gLt_int, gLe_int, gGt_int, gGe_int, gEq_bl, gNe_bl, gEq_str, gNe_str, mIsi, mIsiT, tyD, kitL, kitTab, atI_c0, atI_c1, atI_c2, atI_c3, atI_c4, sForR1, int1, int2, mMeth, mMake, mFld, sFldM, gIs, gIsNot, isNon_t, sRaise, gList, newLO, h, hset, takeL, fd, md, c1, c2, pw, hc, ixN3_1, ixN3_2]
    · refine ⟨c % m, takeL ns (z + 1) la, ?_, (v0 c).1, (v0 c).2, ns, z + 1, la, set_at h, hl, by omega, by omega, hla0⟩
      simp only [show (10 : Int) ^ 9 = 1000000000 by decide] at c2 pw
      simp [fTake, bTake, runF, sSeq, sIf, sNext, sDrop, sRet, sRetN, sAsg, ofRes, ofB, bName, bNil, bCons, bTup, bLst, bSubL, mTest, mOp, mVar, mC, mChain, mAnd, mOr, mNot, mIf, mAndV, mOrV, mNotV, mNeg, mCons, mNil, mTup, mLst, newL, mCall, mFn, arity, g1, g2, gLen, gInt, gAbs, gMax2, gMin2, gIx, seqOf, lsqOf, lstOf, Res.bind, ofO, gAdd_ok, gSub_ok, gEq_int, gNe_int, gLt_int, gLe_int, gGt_int, gGe_int, gEq_bl, gNe_bl, gEq_str, gNe_str, mIsi, mIsiT, tyD, kitL, kitTab, atI_c0, atI_c1, atI_c2, atI_c3, atI_c4, sForR1, int1, int2, mMeth, mMake, mFld, sFldM, gIs, gIsNot, isNon_t, sRaise, gList, newLO, h, hset, takeL, fd, md, c1, c2, pw, hc, ixN3_1, ixN3_2]
/-! ### signs -/
theorem notIn_sign {c : Nat} {cs : Str} {O : Store} : gNotIn O (.str ⟨#[c]⟩) (.str cs) = some (.bl (!decide (c ∈ cs.cps.toList)), O) := rfl
/-- all signs are among cs -/
def allIn (cs : Str) (w : List Nat) : Bool := w.all fun c => decide (c ∈ cs.cps.toList)
abbrev signB (i : Nat) (cs : Str) (bad : SM) : SM := sIf (mTest (mOp gNotIn (mVar i) (mC (.str cs)))) bad sNext
theorem turn_sign {i c : Nat} {cs : Str} {bad : SM} {L : Loc} {O : Store} (hi : i < L.length) : turnOf (bName i) (signB i cs bad) (.str ⟨#[c]⟩) L O = if c ∈ cs.cps.toList then .next (L.set i (some (.str ⟨#[c]⟩))) O else bad (L.set i (some (.str ⟨#[c]⟩))) O := by
  by_cases h : c ∈ cs.cps.toList <;> simp [signB, turnOf, runF, sSeq, sIf, sNext, sDrop, sRet, sRetN, sAsg, ofRes, ofB, bName, bNil, bCons, bTup, bLst, bSubL, mTest, mOp, mVar, mC, mChain, mAnd, mOr, mNot, mIf, mAndV, mOrV, mNotV, mNeg, mCons, mNil, mTup, mLst, newL, mCall, mFn, arity, g1, g2, gLen, gInt, gAbs, gMax2, gMin2, gIx, seqOf, lsqOf, lstOf, Res.bind, ofO, gAdd_ok, gSub_ok, gEq_int, gNe_int, gLt_int, gLe_int, gGt_int, gGe_int, gEq_bl, gNe_bl, gEq_str, gNe_str, mIsi, mIsiT, tyD, kitL, kitTab, atI_c0, atI_c1, atI_c2, atI_c3, atI_c4, sForR1, int1, int2, mMeth, mMake, mFld, sFldM, gIs, gIsNot, isNon_t, sRaise, gList, newLO, hi, notIn_sign, h]
theorem loop_signs_ok {i : Nat} {cs : Str} {bad : SM} : ∀ (w : List Nat) (L : Loc) (O : Store), i < L.length → allIn cs w = true → ∃ d, loopD (turnOf (bName i) (signB i cs bad)) (w.map fun c => D.str ⟨#[c]⟩) L O = .next (L.set i d) O
  | [], L, O, hi, _ => ⟨L[i], by rw [List.set_getElem_self]; rfl⟩
  | c :: w, L, O, hi, h => by
    obtain ⟨h1, h2⟩ := (Bool.and_eq_true _ _ ▸ h : decide (c ∈ cs.cps.toList) = true ∧ allIn cs w = true)
    have e := turn_sign (bad := bad) (O := O) (c := c) (cs := cs) hi
    rw [if_pos (of_decide_eq_true h1)] at e
    obtain ⟨d, hd⟩ := loop_signs_ok (bad := bad) w (L.set i (some (.str ⟨#[c]⟩))) O (by rw [List.length_set]; exact hi) h2
    rw [List.set_set] at hd
    refine ⟨d, ?_⟩
    rw [List.map_cons, loopD_cons, e]
    exact hd
theorem loop_signs_no {i : Nat} {cs : Str} {bad : SM} (hb : ∀ L O, (∃ d, bad L O = .ret d O) ∨ ∃ x, bad L O = .exc x L O) : ∀ (w : List Nat) (L : Loc) (O : Store), i < L.length → allIn cs w = false → ∃ L', loopD (turnOf (bName i) (signB i cs bad)) (w.map fun c => D.str ⟨#[c]⟩) L O = bad L' O
  | [], L, O, hi, h => by cases h
  | c :: w, L, O, hi, h => by
    have e := turn_sign (bad := bad) (O := O) (c := c) (cs := cs) hi
    rw [List.map_cons, loopD_cons, e]
    by_cases h1 : c ∈ cs.cps.toList
    · rw [if_pos h1]
      refine loop_signs_no hb w _ O (by rw [List.length_set]; exact hi) ?_
      have : (decide (c ∈ cs.cps.toList) && allIn cs w) = false := h
      rw [decide_eq_true h1] at this
      exact this
    · rw [if_neg h1]
      refine ⟨L.set i (some (.str ⟨#[c]⟩)), ?_⟩
      rcases hb (L.set i (some (.str ⟨#[c]⟩))) O with ⟨d, h⟩ | ⟨x, h⟩ <;> rw [h] <;> rfl
/-- the signs that are not among cs -/
def outOf (cs : Str) (w : List Nat) : List Nat := w.filter fun c => !decide (c ∈ cs.cps.toList)
theorem outOf_nil {cs : Str} : ∀ {w : List Nat}, (outOf cs w = []) ↔ allIn cs w = true := fun {w} => by
  unfold outOf allIn
  rw [List.filter_eq_nil_iff, List.all_eq_true]
  simp
theorem outOf_zero {cs : Str} {w : List Nat} : ((outOf cs w).length = 0) ↔ allIn cs w = true := by
  rw [List.length_eq_zero_iff, outOf_nil]
theorem outOf_in {cs : Str} {c : Nat} {w : List Nat} (h : c ∈ cs.cps.toList) : outOf cs (c :: w) = outOf cs w := by
  unfold outOf
  rw [List.filter_cons, if_neg (by rw [decide_eq_true h]; decide)]
theorem outOf_out {cs : Str} {c : Nat} {w : List Nat} (h : ¬ c ∈ cs.cps.toList) : outOf cs (c :: w) = c :: outOf cs w := by
  unfold outOf
  rw [List.filter_cons, if_pos (by rw [decide_eq_false h]; decide)]
theorem comp_signs {i : Nat} {cs : Str} {L : Loc} (hi : i < L.length) : ∀ (w pre : List Nat) (acc : List D) (O : Store), acc.length + w.length ≤ 900000 →
    lcG (fun j _ => some ((pre ++ w).map fun c => D.str ⟨#[c]⟩)[j]?) (lcTurn [i] (bName i) (mTest (mOp gNotIn (mVar i) (mC (.str cs)))) (mVar i) L) w.length pre.length O acc = some (O, acc ++ (outOf cs w).map fun c => D.str ⟨#[c]⟩)
  | [], pre, acc, O, h => by
    have : ((pre ++ []).map fun c => D.str ⟨#[c]⟩)[pre.length]? = none := by rw [List.append_nil, List.getElem?_map, List.getElem?_eq_none (Nat.le_refl _)]; rfl
    simp [lcG, outOf]
  | c :: w, pre, acc, O, h => by
    have e1 : ((pre ++ c :: w).map fun c => D.str ⟨#[c]⟩)[pre.length]? = some (.str ⟨#[c]⟩) := by simp
    have e2 : pre ++ c :: w = (pre ++ [c]) ++ w := by simp
    have e3 : pre.length + 1 = (pre ++ [c]).length := by simp
    have hi2 : i < (L.set i none).length := by rw [List.length_set]; exact hi
    have ih := fun acc h => comp_signs (cs := cs) (L := L) hi w (pre ++ [c]) acc O h
    have hl : acc.length ≤ 900000 := by omega
    rw [show (c :: w).length = w.length + 1 from rfl]
    unfold lcG
    simp only [e1]
    by_cases hc : c ∈ cs.cps.toList
    · have et : lcTurn [i] (bName i) (mTest (mOp gNotIn (mVar i) (mC (.str cs)))) (mVar i) L (.str ⟨#[c]⟩) O acc = some (O, acc) := by
        simp [lcTurn, wipeL, runF, sSeq, sIf, sNext, sDrop, sRet, sRetN, sAsg, ofRes, ofB, bName, bNil, bCons, bTup, bLst, bSubL, mTest, mOp, mVar, mC, mChain, mAnd, mOr, mNot, mIf, mAndV, mOrV, mNotV, mNeg, mCons, mNil, mTup, mLst, newL, mCall, mFn, arity, g1, g2, gLen, gInt, gAbs, gMax2, gMin2, gIx, seqOf, lsqOf, lstOf, Res.bind, ofO, gAdd_ok, gSub_ok, gEq_int, gNe_int, gLt_int, gLe_int, gGt_int, gGe_int, gEq_bl, gNe_bl, gEq_str, gNe_str, mIsi, mIsiT, tyD, kitL, kitTab, atI_c0, atI_c1, atI_c2, atI_c3, atI_c4, sForR1, int1, int2, mMeth, mMake, mFld, sFldM, gIs, gIsNot, isNon_t, sRaise, gList, newLO, hi, notIn_sign, hc]
      rw [et]
      simp only
      rw [e2, e3, outOf_in hc]
      exact ih acc (by simp at h; omega)
    · have et : lcTurn [i] (bName i) (mTest (mOp gNotIn (mVar i) (mC (.str cs)))) (mVar i) L (.str ⟨#[c]⟩) O acc = some (O, acc ++ [.str ⟨#[c]⟩]) := by
        simp [lcTurn, wipeL, runF, sSeq, sIf, sNext, sDrop, sRet, sRetN, sAsg, ofRes, ofB, bName, bNil, bCons, bTup, bLst, bSubL, mTest, mOp, mVar, mC, mChain, mAnd, mOr, mNot, mIf, mAndV, mOrV, mNotV, mNeg, mCons, mNil, mTup, mLst, newL, mCall, mFn, arity, g1, g2, gLen, gInt, gAbs, gMax2, gMin2, gIx, seqOf, lsqOf, lstOf, Res.bind, ofO, gAdd_ok, gSub_ok, gEq_int, gNe_int, gLt_int, gLe_int, gGt_int, gGe_int, gEq_bl, gNe_bl, gEq_str, gNe_str, mIsi, mIsiT, tyD, kitL, kitTab, atI_c0, atI_c1, atI_c2, atI_c3, atI_c4, sForR1, int1, int2, mMeth, mMake, mFld, sFldM, gIs, gIsNot, isNon_t, sRaise, gList, newLO, hi, notIn_sign, hc, hl]
      rw [et]
      simp only
      rw [e2, e3, outOf_out hc]
      refine (ih (acc ++ [.str ⟨#[c]⟩]) (by simp at h ⊢; omega)).trans ?_
      simp
theorem lcS_signs {i : Nat} {cs w : Str} {src : EM} {L : Loc} {O : Store} (hi : i < L.length) (hs : src L O = .ok (.str w) O) (hw : w.length ≤ 900000) :
    mLcS false src [i] (bName i) (mTest (mOp gNotIn (mVar i) (mC (.str cs)))) (mVar i) L O = .ok (.lst ((outOf cs w.cps.toList).map fun c => D.str ⟨#[c]⟩)) O := by
  have hl : w.cps.toList.length ≤ 900000 := by rw [Array.length_toList]; exact hw
  have h := comp_signs (cs := cs) hi w.cps.toList [] [] O (by simpa using hl)
  have ho : (outOf cs w.cps.toList).length ≤ 1000000 := Nat.le_trans (List.length_filter_le _ _) (by omega)
  unfold mLcS
  rw [hs]
  simp only [Res.bind, charsD, List.length_map]
  simp only [List.nil_append, List.length_nil] at h
  rw [h]
  simp [lcEnd, newL, ho]
end DK
end
section
set_option Elab.async false
set_option linter.all false
set_option autoImplicit false
set_option maxRecDepth 100000
set_option maxHeartbeats 4000000
/-! DKDict: dicts of the store, sorting. -/
namespace DK
open PySem L2

def keyD : D → Option Key
  | .int i => some (.inl i)
  | .str s => some (.inr s)
  | _ => none
def kD : Key → D
  | .inl i => .int i
  | .inr s => .str s
def valD (kvs : List (Key × D)) (k : Key) : Option D := (kvs.find? fun kv => decide (kv.1 = k)).map (·.2)
def putKD (kvs : List (Key × D)) (k : Key) (d : D) : List (Key × D) := if (kvs.any fun kv => decide (kv.1 = k)) = true then kvs.map (fun kv => if kv.1 = k then (kv.1, d) else kv) else kvs ++ [(k, d)]
def dropKD (kvs : List (Key × D)) (k : Key) : List (Key × D) := kvs.filter fun kv => decide (kv.1 ≠ k)
def dctOf (O : Store) : D → Option (List (Key × D))
  | .hdl n => match O[n]? with
    | some (.dct kvs) => some kvs
    | _ => none
  | _ => none
def mDNew : EM := fun _ O => .ok (.hdl O.length) (O ++ [.dct []])
def mDGet (mo mi : EM) : EM := fun L O => (mo L O).bind fun x O1 => (mi L O1).bind fun y O2 => match dctOf O2 x, keyD y with
  | some kvs, some k => match valD kvs k with
    | some d => .ok d O2
    | none => .bad
  | _, _ => .bad
def mDIn (yes : Bool) (mi mo : EM) : EM := fun L O => (mi L O).bind fun y O1 => (mo L O1).bind fun x O2 => match dctOf O2 x, keyD y with
  | some kvs, some k => .ok (.bl ((valD kvs k).isSome == yes)) O2
  | _, _ => .bad
def mDGet1 (mo mi : EM) : EM := fun L O => (mo L O).bind fun x O1 => match dctOf O1 x with
  | some _ => (mi L O1).bind fun y O2 => match dctOf O2 x, keyD y with
    | some kvs, some k => .ok ((valD kvs k).getD .non) O2
    | _, _ => .bad
  | none => .bad
def mDGet2 (mo mi mf : EM) : EM := fun L O => (mo L O).bind fun x O1 => match dctOf O1 x with
  | some _ => (mi L O1).bind fun y O2 => (mf L O2).bind fun z O3 => match dctOf O3 x, keyD y with
    | some kvs, some k => .ok ((valD kvs k).getD z) O3
    | _, _ => .bad
  | none => .bad
def hdlN : D → Nat
  | .hdl n => n
  | _ => 0
def sDPutM (mo mi mv : EM) : SM := fun L O => ofRes L (mv L O) fun v O1 => ofRes L (mo L O1) fun x O2 => ofRes L (mi L O2) fun y O3 => match dctOf O3 x, keyD y with
  | some kvs, some k => if kvs.length ≤ 1000000 then .next L (O3.set (hdlN x) (.dct (putKD kvs k v))) else .bad
  | _, _ => .bad
def sDDelM (mo mi : EM) : SM := fun L O => ofRes L (mo L O) fun x O1 => ofRes L (mi L O1) fun y O2 => match dctOf O2 x, keyD y with
  | some kvs, some k => if (valD kvs k).isSome = true then .next L (O2.set (hdlN x) (.dct (dropKD kvs k))) else .bad
  | _, _ => .bad
section
variable {K : PySem.W.Frag} {ad : Str → Addr} {S : Hp} {r : Rg} {O : Store} {H : Hp}
theorem keyD_rp {d : D} {v : V} {k : Key} (h : keyD d = some k) (p : Rp K S r d v) : v = kV k := by
  cases d <;> cases h
  · exact p
  · exact p
theorem kD_rp (k : Key) : Rp K S r (kD k) (kV k) := by cases k <;> exact rfl
theorem RpP.val {k : Key} : ∀ {fs : List (Key × D)} {gs : List (Key × V)}, RpP K S r fs gs → (∀ d, valD fs k = some d → ∃ v, valV gs k = some v ∧ Rp K S r d v) ∧ (valD fs k = none → valV gs k = none)
  | [], gs, h => by
    rw [show gs = [] from h]
    exact ⟨fun d e => (by cases e), fun _ => rfl⟩
  | (g, x) :: fs, gs, h => by
    obtain ⟨v, gr, rfl, h1, h2⟩ := h
    obtain ⟨i1, i2⟩ := RpP.val (k := k) h2
    by_cases e : g = k
    · have e1 : valD ((g, x) :: fs) k = some x := by simp [valD, List.find?_cons, e]
      have e2 : valV ((g, v) :: gr) k = some v := valV_pos e
      exact ⟨fun d hd => ⟨v, e2, by rw [e1] at hd; cases hd; exact h1⟩, fun hn => by rw [e1] at hn; cases hn⟩
    · have e1 : valD ((g, x) :: fs) k = valD fs k := by simp [valD, List.find?_cons, e]
      have e2 : valV ((g, v) :: gr) k = valV gr k := valV_neg e
      rw [e1, e2]
      exact ⟨i1, i2⟩
theorem RpP.keys {κ : Type} : ∀ {fs : List (κ × D)} {gs : List (κ × V)}, RpP K S r fs gs → gs.map (·.1) = fs.map (·.1)
  | [], gs, h => by rw [show gs = [] from h]; rfl
  | (g, x) :: fs, gs, h => by
    obtain ⟨v, gr, rfl, h1, h2⟩ := h
    rw [List.map_cons, List.map_cons, RpP.keys h2]
theorem any_keys {α β : Type} {k : Key} {fs : List (Key × α)} {gs : List (Key × β)} (h : gs.map (·.1) = fs.map (·.1)) : (gs.any fun kv => decide (kv.1 = k)) = (fs.any fun kv => decide (kv.1 = k)) := by
  have e : ∀ {γ : Type} (l : List (Key × γ)), (l.any fun kv => decide (kv.1 = k)) = (l.map (·.1)).any fun x => decide (x = k) := fun l => by rw [List.any_map]; rfl
  rw [e, e, h]
theorem RpP.mapPut {k : Key} {d : D} {v : V} (hv : Rp K S r d v) : ∀ {fs : List (Key × D)} {gs : List (Key × V)}, RpP K S r fs gs → RpP K S r (fs.map fun kv => if kv.1 = k then (kv.1, d) else kv) (gs.map fun kv => if kv.1 = k then (kv.1, v) else kv)
  | [], gs, h => by rw [show gs = [] from h]; exact rfl
  | (g, x) :: fs, gs, h => by
    obtain ⟨u, gr, rfl, h1, h2⟩ := h
    rw [List.map_cons, List.map_cons]
    by_cases e : g = k
    · exact ⟨v, _, by simp [e], by simpa [e] using hv, RpP.mapPut hv h2⟩
    · exact ⟨u, _, by simp [e], by simpa [e] using h1, RpP.mapPut hv h2⟩
theorem RpP.snoc {k : Key} {d : D} {v : V} (hv : Rp K S r d v) : ∀ {fs : List (Key × D)} {gs : List (Key × V)}, RpP K S r fs gs → RpP K S r (fs ++ [(k, d)]) (gs ++ [(k, v)])
  | [], gs, h => by rw [show gs = [] from h]; exact ⟨v, [], rfl, hv, rfl⟩
  | (g, x) :: fs, gs, h => by
    obtain ⟨u, gr, rfl, h1, h2⟩ := h
    exact ⟨u, gr ++ [(k, v)], rfl, h1, RpP.snoc hv h2⟩
theorem RpP.putK {k : Key} {d : D} {v : V} {fs : List (Key × D)} {gs : List (Key × V)} (hv : Rp K S r d v) (h : RpP K S r fs gs) : RpP K S r (putKD fs k d) (L2.putK gs k v) := by
  unfold putKD L2.putK
  rw [any_keys (RpP.keys h)]
  split
  · exact RpP.mapPut hv h
  · exact RpP.snoc hv h
theorem RpP.dropK {k : Key} : ∀ {fs : List (Key × D)} {gs : List (Key × V)}, RpP K S r fs gs → RpP K S r (dropKD fs k) (L2.dropK gs k)
  | [], gs, h => by rw [show gs = [] from h]; exact rfl
  | (g, x) :: fs, gs, h => by
    obtain ⟨u, gr, rfl, h1, h2⟩ := h
    unfold dropKD L2.dropK
    rw [List.filter_cons, List.filter_cons]
    by_cases e : g = k
    · subst e
      rw [if_neg (by simp), if_neg (by simp)]
      exact RpP.dropK h2
    · simp only [e, ne_eq, not_false_eq_true, decide_true, if_true]
      exact ⟨u, _, rfl, h1, RpP.dropK h2⟩
theorem dct_at (rs : Rs K ad S r O H) {d : D} {x : V} {kvs : List (Key × D)} (p : Rp K S r d x) (h : dctOf O d = some kvs) : ∃ n a ks, d = .hdl n ∧ x = .ref a ∧ r.l[n]? = some a ∧ S a = none ∧ H a = some (.dK ks) ∧ RpP K S r kvs ks := by
  cases d with
  | hdl n =>
    replace h : (match O[n]? with | some (.dct kvs) => some kvs | _ => none) = some kvs := h
    split at h
    · rename_i ks hk
      cases h
      obtain ⟨a, rfl, h1, h2, us, h3, h4⟩ := hdl_at rs p hk
      exact ⟨n, a, us, rfl, rfl, h1, h2, h3, h4⟩
    · cases h
  | non => cases h
  | bl b => cases h
  | int i => cases h
  | str s => cases h
  | lst s => cases h
  | rol s => cases h
  | tup s => cases h
end
section
variable {X : Cx} {ad : Str → Addr} {J : JP} {W : WX} {pos p p2 apos cpos tpos pos' : Pos} {a b e o i value f : Expr} {es : List Expr} {m me mo mi mv mf : EM} {mt : AM}
theorem de_dnew : PE X (.Dict [] [] pos) (tE X.K ad J W mDNew) := by
  refine pe_imp pe_dnewK ?_
  rintro σ H Q ⟨S, r, L, O, j, rl, rs, q⟩ p hp
  replace q : Post X.K ad (fun S r => Rp X.K S r) W σ S r Q (.ok (.hdl O.length) (O ++ [.dct []])) := q
  refine q S (r.push p) _ _ (Ext.push S r p) (rs.push hp ⟨rs.fresh hp, [], upd_same, rfl⟩) ⟨p, rfl, ?_⟩
  show (r.l ++ [p])[O.length]? = some p
  rw [← rs.len, List.getElem?_append_right (Nat.le_refl _)]
  simp
theorem de_dget (hu : X.A.units + 1 < cLine) (ho : PE X o (tE X.K ad J W mo)) (hi : PE X i (tE X.K ad J W mi)) (hs : NoSl i := by intro _ _; rfl) : PE X (.Subscript o i pos) (tE X.K ad J W (mDGet mo mi)) := by
  refine pe_imp (pe_dget hu ho hi hs) ?_
  rintro σ H Q ⟨S, r, L, O, j, rl, rs, q⟩
  refine ⟨S, r, L, O, j, rl, rs, (Post.bind q).imp ?_⟩
  rintro x H1 ⟨S1, r1, d, O1, e1, s1, p1, q1⟩
  refine ⟨S1, r1, L, O1, J.mono e1.s j, rl.mono e1, s1, (Post.bind q1).imp ?_⟩
  rintro y H2 ⟨S2, r2, d2, O2, e2, s2, p2, q2⟩
  split at q2
  · rename_i kvs k hk hy
    obtain ⟨n, a, ks, rfl, rfl, h1, h2, h3, h4⟩ := dct_at s2 (Rp.mono e2 _ _ p1) hk
    split at q2
    · rename_i v hv
      obtain ⟨u, hu1, hu2⟩ := h4.val.1 v hv
      exact ⟨a, u, rfl, by rw [keyD_rp hy p2, ← hu1]; exact DGet.k h3, q2 S2 r2 H2 u (Ext.refl _ _) s2 hu2⟩
    · exact q2.elim
  · exact q2.elim
theorem din_imp {yes : Bool} : ∀ σ H Q, tE X.K ad J W (mDIn yes mi mo) σ H Q → (tE X.K ad J W mi) σ H fun y H1 => (tE X.K ad J W mo) σ H1 fun x H2 => ∃ a o, x = .ref a ∧ DGet H2 a y o ∧ Q (.bl (o.isSome == yes)) H2 := by
  rintro σ H Q ⟨S, r, L, O, j, rl, rs, q⟩
  refine ⟨S, r, L, O, j, rl, rs, (Post.bind q).imp ?_⟩
  rintro y H1 ⟨S1, r1, d, O1, e1, s1, p1, q1⟩
  refine ⟨S1, r1, L, O1, J.mono e1.s j, rl.mono e1, s1, (Post.bind q1).imp ?_⟩
  rintro x H2 ⟨S2, r2, d2, O2, e2, s2, p2, q2⟩
  split at q2
  · rename_i kvs k hk hy
    obtain ⟨n, a, ks, rfl, rfl, h1, h2, h3, h4⟩ := dct_at s2 p2 hk
    refine ⟨a, valV ks k, rfl, by rw [keyD_rp hy (Rp.mono e2 _ _ p1)]; exact DGet.k h3, ?_⟩
    have es : (valV ks k).isSome = (valD kvs k).isSome := by
      cases hv : valD kvs k with
      | some v =>
        obtain ⟨u, hu1, _⟩ := h4.val.1 v hv
        rw [hu1]; rfl
      | none => rw [h4.val.2 hv]; rfl
    rw [es]
    exact q2 S2 r2 H2 _ (Ext.refl _ _) s2 rfl
  · exact q2.elim
theorem de_din (hu : X.A.units + 1 < cLine) (hi : PE X i (tE X.K ad J W mi)) (ho : PE X o (tE X.K ad J W mo)) (hm : behindInMarks .In o = false) : PE X (.Compare i [.In] [o] pos) (tE X.K ad J W (mDIn true mi mo)) := by
  refine pe_imp (pe_cmp (pc_din hu hi ho) hm) fun σ H Q h => ?_
  obtain ⟨S, r, L, O, j, rl, rs, q⟩ := din_imp σ H Q h
  refine ⟨S, r, L, O, j, rl, rs, q.imp ?_⟩
  rintro y H1 ⟨S1, r1, L1, O1, j1, rl1, rs1, q1⟩
  refine ⟨S1, r1, L1, O1, j1, rl1, rs1, q1.imp ?_⟩
  rintro x H2 ⟨a, v, e1, e2, e3⟩
  exact ⟨a, v, e1, e2, by cases v <;> exact e3⟩
theorem de_dnotin (hu : X.A.units + 1 < cLine) (hi : PE X i (tE X.K ad J W mi)) (ho : PE X o (tE X.K ad J W mo)) (hm : behindInMarks .NotIn o = false) : PE X (.Compare i [.NotIn] [o] pos) (tE X.K ad J W (mDIn false mi mo)) := by
  refine pe_imp (pe_cmp (pc_dnotin hu hi ho) hm) fun σ H Q h => ?_
  obtain ⟨S, r, L, O, j, rl, rs, q⟩ := din_imp σ H Q h
  refine ⟨S, r, L, O, j, rl, rs, q.imp ?_⟩
  rintro y H1 ⟨S1, r1, L1, O1, j1, rl1, rs1, q1⟩
  refine ⟨S1, r1, L1, O1, j1, rl1, rs1, q1.imp ?_⟩
  rintro x H2 ⟨a, v, e1, e2, e3⟩
  exact ⟨a, v, e1, e2, by cases v <;> exact e3⟩
theorem dt_din (hu : X.A.units + 1 < cLine) (hi : PE X i (tE X.K ad J W mi)) (ho : PE X o (tE X.K ad J W mo)) (hm : behindInMarks .In o = false) : PT X (.Compare i [.In] [o] pos) (tT X.K ad J W (mTest (mDIn true mi mo))) := by
  refine pt_imp (pt_cmp (pc_din hu hi ho) hm) (test_imp (t := tDIn (tE X.K ad J W mi) (tE X.K ad J W mo)) fun σ H Q h => ?_)
  obtain ⟨S, r, L, O, j, rl, rs, q⟩ := din_imp σ H Q h
  refine ⟨S, r, L, O, j, rl, rs, q.imp ?_⟩
  rintro y H1 ⟨S1, r1, L1, O1, j1, rl1, rs1, q1⟩
  refine ⟨S1, r1, L1, O1, j1, rl1, rs1, q1.imp ?_⟩
  rintro x H2 ⟨a, v, e1, e2, e3⟩
  exact ⟨a, v, e1, e2, by cases v <;> exact e3⟩
theorem dt_dnotin (hu : X.A.units + 1 < cLine) (hi : PE X i (tE X.K ad J W mi)) (ho : PE X o (tE X.K ad J W mo)) (hm : behindInMarks .NotIn o = false) : PT X (.Compare i [.NotIn] [o] pos) (tT X.K ad J W (mTest (mDIn false mi mo))) := by
  refine pt_imp (pt_cmp (pc_dnotin hu hi ho) hm) (test_imp (t := tDNotIn (tE X.K ad J W mi) (tE X.K ad J W mo)) fun σ H Q h => ?_)
  obtain ⟨S, r, L, O, j, rl, rs, q⟩ := din_imp σ H Q h
  refine ⟨S, r, L, O, j, rl, rs, q.imp ?_⟩
  rintro y H1 ⟨S1, r1, L1, O1, j1, rl1, rs1, q1⟩
  refine ⟨S1, r1, L1, O1, j1, rl1, rs1, q1.imp ?_⟩
  rintro x H2 ⟨a, v, e1, e2, e3⟩
  exact ⟨a, v, e1, e2, by cases v <;> exact e3⟩
theorem ds_dput (hu : X.A.units + 1 < cLine) (ho : PE X o (tE X.K ad J W mo)) (hi : PE X i (tE X.K ad J W mi)) (hv : PE X value (tE X.K ad J W mv)) (hs : swapsWith value (some (.Subscript o i pos')) pos.line X.env = pure false := by rfl) :
    PS X (.Assign [.Subscript o i pos'] value pos) (tS X.K ad J W (sDPutM mo mi mv)) := by
  refine ps_imp (ps_dput hu ho hi hv hs) ?_
  rintro En σ H ⟨S, r, L, O, j, rl, rs, q⟩
  refine ⟨S, r, L, O, j, rl, rs, (bindS j rl q).imp ?_⟩
  rintro v H1 ⟨S1, r1, dv, O1, e1, s1, p1, q1⟩
  refine ⟨S1, r1, L, O1, J.mono e1.s j, rl.mono e1, s1, (bindS (J.mono e1.s j) (rl.mono e1) q1).imp ?_⟩
  rintro x H2 ⟨S2, r2, dx, O2, e2, s2, p2, q2⟩
  refine ⟨S2, r2, L, O2, J.mono (e1.trans e2).s j, rl.mono (e1.trans e2), s2, (bindS (J.mono (e1.trans e2).s j) (rl.mono (e1.trans e2)) q2).imp ?_⟩
  rintro y H3 ⟨S3, r3, dy, O3, e3, s3, p3, q3⟩
  split at q3
  · rename_i kvs k hk hy
    obtain ⟨n, a, ks, rfl, rfl, h1, h2, h3, h4⟩ := dct_at s3 (Rp.mono e3 _ _ p2) hk
    split at q3
    · rename_i hl
      have pv := Rp.mono (e2.trans e3) _ _ p1
      refine ⟨a, _, rfl, by rw [keyD_rp hy p3]; exact DPut.k h3 (by rw [RpP.length h4]; exact million_lt hl), ?_⟩
      exact q3 S3 r3 σ _ (Ext.refl _ _) (J.mono (e1.trans (e2.trans e3)).s j) (rl.mono (e1.trans (e2.trans e3))) (s3.write h1 h2 ⟨h2, _, upd_same, h4.putK pv⟩)
    · exact q3.elim
  · exact q3.elim
theorem ds_ddel (ho : PE X o (tE X.K ad J W mo)) (hi : PE X i (tE X.K ad J W mi)) : PS X (.Delete [.Subscript o i tpos] pos) (tS X.K ad J W (sDDelM mo mi)) := by
  refine ps_imp (ps_ddel ho hi) ?_
  rintro En σ H ⟨S, r, L, O, j, rl, rs, q⟩
  refine ⟨S, r, L, O, j, rl, rs, (bindS j rl q).imp ?_⟩
  rintro x H1 ⟨S1, r1, dx, O1, e1, s1, p1, q1⟩
  refine ⟨S1, r1, L, O1, J.mono e1.s j, rl.mono e1, s1, (bindS (J.mono e1.s j) (rl.mono e1) q1).imp ?_⟩
  rintro y H2 ⟨S2, r2, dy, O2, e2, s2, p2, q2⟩
  split at q2
  · rename_i kvs k hk hy
    obtain ⟨n, a, ks, rfl, rfl, h1, h2, h3, h4⟩ := dct_at s2 (Rp.mono e2 _ _ p1) hk
    split at q2
    · rename_i hv
      obtain ⟨v, hv⟩ := Option.isSome_iff_exists.mp hv
      obtain ⟨u, hu1, _⟩ := h4.val.1 v hv
      refine ⟨a, ks, k, rfl, h3, keyD_rp hy p2, by rw [hu1]; rfl, ?_⟩
      exact q2 S2 r2 σ _ (Ext.refl _ _) (J.mono (e1.trans e2).s j) (rl.mono (e1.trans e2)) (s2.write h1 h2 ⟨h2, _, upd_same, h4.dropK⟩)
    · exact q2.elim
  · exact q2.elim
theorem isD_of {S : Hp} {r : Rg} {O : Store} {H : Hp} {d : D} {x : V} {kvs : List (Key × D)} (rs : Rs X.K ad S r O H) (p : Rp X.K S r d x) (h : dctOf O d = some kvs) : ∃ a, x = .ref a ∧ IsD H a := by
  obtain ⟨n, a, ks, rfl, rfl, h1, h2, h3, h4⟩ := dct_at rs p h
  exact ⟨a, rfl, .inl ⟨ks, .inl h3⟩⟩
theorem dget_fin {S : Hp} {r : Rg} {O : Store} {H : Hp} {d dy z : D} {a : Addr} {y vz : V} {kvs : List (Key × D)} {k : Key} {σ : L2.St} {Q : VK} (rs : Rs X.K ad S r O H) (p : Rp X.K S r d (.ref a)) (hk : dctOf O d = some kvs) (hy : keyD dy = some k) (py : Rp X.K S r dy y) (pz : Rp X.K S r z vz)
    (q : Post X.K ad (fun S r => Rp X.K S r) W σ S r Q (.ok ((valD kvs k).getD z) O)) : ∃ o, DGet H a y o ∧ Q (o.getD vz) H := by
  obtain ⟨n, a', ks, rfl, e, h1, h2, h3, h4⟩ := dct_at rs p hk
  cases e
  refine ⟨valV ks k, by rw [keyD_rp hy py]; exact DGet.k h3, ?_⟩
  cases hv : valD kvs k with
  | some v =>
    obtain ⟨u, hu1, hu2⟩ := h4.val.1 v hv
    rw [hv] at q
    rw [hu1]
    exact q S r H u (Ext.refl _ _) rs hu2
  | none =>
    rw [hv] at q
    rw [h4.val.2 hv]
    exact q S r H vz (Ext.refl _ _) rs pz
theorem de_dget1 (hu : X.A.units + 1 < cLine) (ho : PE X o (tE X.K ad J W mo)) (hi : PE X e (tE X.K ad J W mi)) (m : M1 X o "get" apos e cpos := by exact ⟨rfl, rfl, rfl, rfl⟩) : PE X (.Call (.Attribute o "get" apos) [e] [] cpos) (tE X.K ad J W (mDGet1 mo mi)) := by
  refine pe_imp (pe_dget1 hu ho hi m) ?_
  rintro σ H Q ⟨S, r, L, O, j, rl, rs, q⟩
  refine ⟨S, r, L, O, j, rl, rs, (Post.bind q).imp ?_⟩
  rintro x H1 ⟨S1, r1, d, O1, e1, s1, p1, q1⟩
  split at q1
  · rename_i kvs hk
    obtain ⟨a, rfl, hd⟩ := isD_of s1 p1 hk
    refine ⟨a, rfl, hd, S1, r1, L, O1, J.mono e1.s j, rl.mono e1, s1, (Post.bind q1).imp ?_⟩
    rintro y H2 ⟨S2, r2, dy, O2, e2, s2, p2, q2⟩
    split at q2
    · rename_i kvs2 k hk2 hy
      exact dget_fin (z := .non) s2 (Rp.mono e2 _ _ p1) hk2 hy p2 rfl q2
    · exact q2.elim
  · exact q1.elim
theorem de_dget2 (hu : X.A.units + 1 < cLine) (ho : PE X o (tE X.K ad J W mo)) (hi : PE X e (tE X.K ad J W mi)) (hf : PE X f (tE X.K ad J W mf)) (m : M2 X o "get" apos e f cpos := by exact ⟨rfl, rfl, rfl, rfl⟩) : PE X (.Call (.Attribute o "get" apos) [e, f] [] cpos) (tE X.K ad J W (mDGet2 mo mi mf)) := by
  refine pe_imp (pe_dget2 hu ho hi hf m) ?_
  rintro σ H Q ⟨S, r, L, O, j, rl, rs, q⟩
  refine ⟨S, r, L, O, j, rl, rs, (Post.bind q).imp ?_⟩
  rintro x H1 ⟨S1, r1, d, O1, e1, s1, p1, q1⟩
  split at q1
  · rename_i kvs hk
    obtain ⟨a, rfl, hd⟩ := isD_of s1 p1 hk
    refine ⟨a, rfl, hd, S1, r1, L, O1, J.mono e1.s j, rl.mono e1, s1, (Post.bind q1).imp ?_⟩
    rintro y H2 ⟨S2, r2, dy, O2, e2, s2, p2, q2⟩
    refine ⟨S2, r2, L, O2, J.mono (e1.trans e2).s j, rl.mono (e1.trans e2), s2, (Post.bind q2).imp ?_⟩
    rintro z H3 ⟨S3, r3, dz, O3, e3, s3, p3, q3⟩
    split at q3
    · rename_i kvs2 k hk2 hy
      exact dget_fin s3 (Rp.mono (e2.trans e3) _ _ p1) hk2 hy (Rp.mono e3 _ _ p2) p3 q3
    · exact q3.elim
  · exact q1.elim
end
/-! ### list, dict, sorted -/
def gListD (h : Bool) : Store → D → Option (D × Store) := fun O d => match dctOf O d with
  | some kvs => newLO h (kvs.map fun kv => kD kv.1) O
  | none => none
def gDictD : Store → D → Option (D × Store) := fun O d => match dctOf O d with
  | some kvs => some (.hdl O.length, O ++ [.dct kvs])
  | none => none
def inrs : List Key → Option (List Str)
  | [] => some []
  | .inr s :: ks => (inrs ks).map (s :: ·)
  | .inl _ :: _ => none
def strsD : List D → Option (List Str)
  | [] => some []
  | .str s :: ds => (strsD ds).map (s :: ·)
  | _ => none
/-- texts in order -/
def leS (a b : Str) : Bool := !decide (b.cps.toList < a.cps.toList)
def sortS (l : List Str) : List Str := l.mergeSort leS
def sortI (l : List Int) : List Int := l.mergeSort fun a b => decide (a ≤ b)
/-- sorted: of a list of texts (fewer than 64), of ints, of a dict by texts -/
def gSorted (h : Bool) : Store → D → Option (D × Store) := fun O d => match dctOf O d with
  | some kvs => match inrs (kvs.map (·.1)) with
    | some ks => if ks.length < 64 then newLO h ((sortS ks).map .str) O else none
    | none => none
  | none => match lsqOf O d with
    | some xs => match intsOf xs with
      | some ns => if ns.length ≤ 1000000 then newLO h ((sortI ns).map .int) O else none
      | none => match strsD xs with
        | some ks => if ks.length < 64 then newLO h ((sortS ks).map .str) O else none
        | none => none
    | none => none
theorem strsD_rp {K : PySem.W.Frag} {S : Hp} {r : Rg} : ∀ {ds : List D} {vs : List V} {ns : List Str}, RpAll K S r ds vs → strsD ds = some ns → vs = ns.map V.str
  | [], vs, ns, h, e => by cases e; exact h
  | .str i :: ds, vs, ns, h, e => by
    obtain ⟨v, vr, rfl, rfl, h2⟩ := h
    have e : (strsD ds).map (i :: ·) = some ns := e
    obtain ⟨ms, e1, rfl⟩ := Option.map_eq_some_iff.mp e
    rw [strsD_rp h2 e1]
    rfl
  | .non :: _, _, _, _, e => by cases e
  | .int _ :: _, _, _, _, e => by cases e
  | .bl _ :: _, _, _, _, e => by cases e
  | .lst _ :: _, _, _, _, e => by cases e
  | .rol _ :: _, _, _, _, e => by cases e
  | .tup _ :: _, _, _, _, e => by cases e
  | .hdl _ :: _, _, _, _, e => by cases e
theorem strV_rp {K : PySem.W.Frag} {S : Hp} {r : Rg} : ∀ ys : List Str, RpAll K S r (ys.map D.str) (ys.map V.str)
  | [] => rfl
  | _ :: ys => ⟨_, _, rfl, rfl, strV_rp ys⟩
theorem intV_rp {K : PySem.W.Frag} {S : Hp} {r : Rg} : ∀ ys : List Int, RpAll K S r (ys.map D.int) (ys.map V.int)
  | [] => rfl
  | _ :: ys => ⟨_, _, rfl, rfl, intV_rp ys⟩
theorem inrs_map : ∀ {ks : List Key} {ns : List Str}, inrs ks = some ns → ks = ns.map Sum.inr
  | [], ns, e => by cases e; rfl
  | .inr s :: ks, ns, e => by
    have e : (inrs ks).map (s :: ·) = some ns := e
    obtain ⟨ms, e1, rfl⟩ := Option.map_eq_some_iff.mp e
    rw [inrs_map e1]
    rfl
  | .inl _ :: _, _, e => by cases e
/-- two orders of the same things are one, if the order is total -/
theorem perm_sorted {α : Type} {le : α → α → Prop} (anti : ∀ a b, le a b → le b a → a = b) : ∀ (l m : List α), l.Perm m → l.Pairwise le → m.Pairwise le → l = m
  | [], m, p, _, _ => (List.nil_perm.mp p).symm ▸ rfl
  | a :: l, [], p, _, _ => by cases List.perm_nil.mp p
  | a :: l, b :: m, p, hl, hm => by
    obtain ⟨l1, l2⟩ := List.pairwise_cons.mp hl
    obtain ⟨m1, m2⟩ := List.pairwise_cons.mp hm
    have e : a = b := by
      have ha := (p.mem_iff (a := a)).mp List.mem_cons_self
      have hb := (p.mem_iff (a := b)).mpr List.mem_cons_self
      rcases List.mem_cons.mp ha with e | ha
      · exact e
      · rcases List.mem_cons.mp hb with e | hb
        · exact e.symm
        · exact anti a b (l1 b hb) (m1 a ha)
    subst e
    rw [perm_sorted anti l m (List.Perm.cons_inv p) l2 m2]
theorem leS_total (a b : Str) : (leS a b || leS b a) = true := by
  unfold leS
  by_cases h : b.cps.toList < a.cps.toList
  · have : ¬ a.cps.toList < b.cps.toList := fun z => (List.lt_asymm h) z
    simp [h, this]
  · simp [h]
theorem leS_anti (a b : Str) (h1 : leS a b = true) (h2 : leS b a = true) : a = b := by
  unfold leS at h1 h2
  have e : a.cps.toList = b.cps.toList := List.le_antisymm (by simpa using h1) (by simpa using h2)
  obtain ⟨⟨x⟩⟩ := a
  obtain ⟨⟨y⟩⟩ := b
  cases e
  rfl
theorem leS_iff (a b : Str) : leS a b = true ↔ ¬ b.cps.toList < a.cps.toList := by
  unfold leS
  by_cases h : b.cps.toList < a.cps.toList
  · rw [decide_eq_true h]
    exact ⟨fun z => (by cases z), fun z => absurd h z⟩
  · rw [decide_eq_false h]
    exact ⟨fun _ => h, fun _ => rfl⟩
theorem leS_trans (a b c : Str) (h1 : leS a b = true) (h2 : leS b c = true) : leS a c = true := by
  rw [leS_iff] at *
  exact List.not_lt.mpr (List.le_trans (List.not_lt.mp h1) (List.not_lt.mp h2))
theorem ltCps_lt : ∀ a b : List Nat, PySem.Spec.ltCps a b = decide (a < b)
  | [], [] => by simp [PySem.Spec.ltCps]
  | [], _ :: _ => by simp [PySem.Spec.ltCps]
  | _ :: _, [] => by simp [PySem.Spec.ltCps]
  | x :: a, y :: b => by
    rw [PySem.Spec.ltCps, ltCps_lt a b]
    by_cases h : x < y
    · simp [List.cons_lt_cons_iff, h]
    · by_cases h2 : x = y
      · subst h2
        simp [List.cons_lt_cons_iff]
      · simp [List.cons_lt_cons_iff, h, h2]
theorem risingS_pw : ∀ (p : Str) (l : List Str), PyProof.Rows.risingS p l = true → l.Pairwise (fun a b => leS a b = true) ∧ ∀ x ∈ l, leS p x = true
  | p, [], _ => ⟨.nil, fun x h => by cases h⟩
  | p, x :: l, h => by
    have h' : (!PySem.Spec.ltCps x.cps.toList p.cps.toList && PyProof.Rows.risingS x l) = true := h
    obtain ⟨h1, h2⟩ := Bool.and_eq_true_iff.mp h'
    rw [ltCps_lt] at h1
    obtain ⟨i1, i2⟩ := risingS_pw x l h2
    refine ⟨List.pairwise_cons.mpr ⟨i2, i1⟩, fun y hy => ?_⟩
    rcases List.mem_cons.mp hy with rfl | hy
    · exact h1
    · exact leS_trans _ _ _ h1 (i2 y hy)
theorem sortedS_pw : ∀ (l : List Str), PyProof.Rows.sortedS l = true → l.Pairwise (fun a b => leS a b = true)
  | [], _ => .nil
  | x :: l, h => by
    obtain ⟨i1, i2⟩ := risingS_pw x l h
    exact List.pairwise_cons.mpr ⟨i2, i1⟩
theorem sortS_is {ys ks : List Str} (p : ys.Perm ks) (h : PyProof.Rows.sortedS ys = true) : ys = sortS ks :=
  perm_sorted (le := fun a b => leS a b = true) leS_anti ys (sortS ks) (p.trans (List.mergeSort_perm ks leS).symm) (sortedS_pw ys h) (List.pairwise_mergeSort leS_trans leS_total ks)
theorem sortI_is {ys ks : List Int} (p : ys.Perm ks) (h : ys.Pairwise (· ≤ ·)) : ys = sortI ks :=
  perm_sorted (le := fun a b : Int => a ≤ b) (fun a b => Int.le_antisymm) ys (sortI ks) (p.trans (List.mergeSort_perm ks _).symm) h
    ((List.pairwise_mergeSort (le := fun a b : Int => decide (a ≤ b)) (fun a b c h1 h2 => decide_eq_true (Int.le_trans (of_decide_eq_true h1) (of_decide_eq_true h2))) (fun a b => by
      rcases Int.le_total a b with h | h
      · simp [h]
      · simp [h]) ks).imp fun h => of_decide_eq_true h)
section
variable {X : Cx} {ad : Str → Addr} {J : JP} {W : WX}
theorem new_obj {S : Hp} {r : Rg} {O : Store} {H : Hp} {σ : L2.St} {Q : VK} {o : Ob} {u : HO} (rs : Rs X.K ad S r O H) (q : Post X.K ad (fun S r => Rp X.K S r) W σ S r Q (.ok (.hdl O.length) (O ++ [o]))) (ho : ∀ p, H p = none → RO X.K ad S (r.push p) (upd H p u) p o) : ∀ p, H p = none → Q (.ref p) (upd H p u) := fun p hp => by
  refine q S (r.push p) _ _ (Ext.push S r p) (rs.push hp (ho p hp)) ⟨p, rfl, ?_⟩
  show (r.l ++ [p])[O.length]? = some p
  rw [← rs.len, List.getElem?_append_right (Nat.le_refl _)]
  simp
theorem cd_sorted (h : Bool) (hc : X.calm = true) : CallD X ad (.builtin "sorted") (g1 (gSorted h)) := cd_1 (CallR.or (call_sortedD hc) (CallR.or cr_sortedI cr_sortedS)) fun S r O H x d W σ Q rs p q => by
  unfold gSorted at q
  split at q
  · rename_i kvs hk
    obtain ⟨n, a, ks, rfl, rfl, h1, h2, h3, h4⟩ := dct_at rs p hk
    split at q
    · rename_i zs hz
      split at q
      · rename_i hl
        rw [ofO_newLO] at q
        refine .inl ⟨a, ks, zs, rfl, .inl h3, by rw [RpP.keys h4, inrs_map hz], hl, fun ys p hp hs hn => ?_⟩
        rw [sortS_is hp hs]
        exact (newL_post rs (strV_rp _) q).2 p hn
      · exact q.elim
    · exact q.elim
  · split at q
    · rename_i xs hx
      obtain ⟨a, vs, rfl, h1, h2⟩ := lsqOf_ok rs p hx
      split at q
      · rename_i ns hn
        split at q
        · rw [ofO_newLO] at q
          rw [intsOf_rp h2 hn] at h1
          refine .inr (.inl ⟨a, ns, rfl, h1, fun ys p hp hs hnn => ?_⟩)
          rw [sortI_is hp hs]
          exact (newL_post rs (intV_rp _) q).2 p hnn
        · exact q.elim
      · split at q
        · rename_i ks hks
          split at q
          · rename_i hl
            rw [ofO_newLO] at q
            rw [strsD_rp h2 hks] at h1
            refine .inr (.inr ⟨a, ks, rfl, h1, hl, fun ys p hp hs hn => ?_⟩)
            rw [sortS_is hp hs]
            exact (newL_post rs (strV_rp _) q).2 p hn
          · exact q.elim
        · exact q.elim
    · exact q.elim
theorem keys_rp {S : Hp} {r : Rg} : ∀ kvs : List Key, RpAll X.K S r (kvs.map kD) (kvs.map kV)
  | [] => rfl
  | k :: ks => ⟨_, _, rfl, kD_rp k, keys_rp ks⟩
theorem cd_listD (h : Bool) (hc : X.calm = true) : CallD X ad (.type "list") (g1 (gListD h)) := cd_1 (call_list_dK hc) fun S r O H x d W σ Q rs p q => by
  unfold gListD at q
  split at q
  · rename_i kvs hk
    obtain ⟨n, a, ks, rfl, rfl, h1, h2, h3, h4⟩ := dct_at rs p hk
    rw [ofO_newLO] at q
    refine ⟨a, ks, rfl, h3, fun p hp => ?_⟩
    have e1 : ks.map (fun kv => kV kv.1) = (ks.map (·.1)).map kV := by rw [List.map_map]; rfl
    have e2 : kvs.map (fun kv => kD kv.1) = (kvs.map (·.1)).map kD := by rw [List.map_map]; rfl
    rw [e1, RpP.keys h4]
    rw [e2] at q
    exact (newL_post rs (keys_rp _) q).2 p hp
  · exact q.elim
theorem cd_dictD : CallD X ad (.type "dict") (g1 gDictD) := cd_1 call_dictD fun S r O H x d W σ Q rs p q => by
  unfold gDictD at q
  split at q
  · rename_i kvs hk
    obtain ⟨n, a, ks, rfl, rfl, h1, h2, h3, h4⟩ := dct_at rs p hk
    exact ⟨a, ks, rfl, .inl h3, new_obj rs q fun p hp => ⟨rs.fresh hp, ks, upd_same, RpP.monoW (Same.refl S) (List.prefix_append r.l [p]) _ _ h4⟩⟩
  · exact q.elim
end
end DK
end
section
set_option Elab.async false
set_option linter.all false
set_option autoImplicit false
set_option maxRecDepth 100000
set_option maxHeartbeats 4000000
/-! DKSup: own errors whose first word is super().__init__(..): the def as a promise. -/
namespace DK
open PySem L2

/-- the part of the heap that super() looks at -/
structure SupK (K : PySem.W.Frag) (main : Str) (f C cc cda : Addr) : Prop where
  cell : ∃ cl cld csl, K.lookup cc = some ⟨cl, cld, .cell (some (.ref C)), csl⟩
  code : ∃ ccl cdd vs ccs tf, K.lookup cda = some ⟨ccl, cdd, .fields vs, ccs⟩ ∧ vs[2]? = some (.str main tf)
  sub : PySem.W.mroIn K C (.ref C) = some true
  sup : PySem.W.ks_superIn K C C "__init__" = some (some (.builtin "ValueError.__init__"))
  ve : PySem.W.subIn K (.ref C) (.type "ValueError") = some true
  opq : PySem.W.nsIn K cStatics "thirdparty.any" = some none
  fr : PySem.W.nsIn K mainGlobals "super" = some none
/-- a method's scope: nothing captured but the class -/
structure SupScope (N ps : List Str) (sc : Scope) : Prop where
  kind : sc.kind = .function
  co : sc.isCoroutine = false
  gen : sc.isGenerator = false
  nd : N.Nodup
  pre : N.take ps.length = ps
  par : ∀ x ∈ ps, sc.names.lookup x = some .local
  nocell : ∀ y ∈ sc.names, y.2 ≠ .cell
  free : ∀ y, sc.names.lookup y = some .free → y = "__class__"
  sup : sc.names.lookup ("super" : Str) = some .globalImplicit
  cls : sc.names.lookup ("__class__" : Str) = some .free

section
variable {P : Program} {w : World} {K : PySem.W.Frag} {mg : Str → Option Value} {base : Heap}
def cxI (P : Program) (w : World) (K : PySem.W.Frag) (mg : Str → Option Value) (base : Heap) (N : List Str) (qual : Str) (scope : Scope) (f : Addr) (cd : Value) (cc : Addr) (A : Around) (outer : List Env) (s : Shared) (H : Hp) (E : XK) : Cx where
  prog := P
  w := w
  K := K
  mg := mg
  base := base
  A := A.deeper (PySem.W.ksEnv qual scope s.heap.objs.size f cd cc)
  N := N
  s_0 := s
  H_0 := H
  env := PySem.W.ksEnv qual scope s.heap.objs.size f cd cc
  outer := outer
  stack := PySem.W.ksEnv qual scope s.heap.objs.size f cd cc :: outer
  ex := []
  calm := true
  fn := fun x => !(x == "__class__")
  pn := []
  xe := fun e s' => wpAny (model P w) (A.deeper (PySem.W.ksEnv qual scope s.heap.objs.size f cd cc)) (leaving (PySem.W.ksEnv qual scope s.heap.objs.size f cd cc) e) (fun _ s'' => L2.CX P w outer H s E e s'') (fun e' s'' => L2.CX P w outer H s E e' s'') s'
theorem zip_fst {α β : Type} : ∀ (l : List α) (m : List β), ((l.zip m).map (·.1)).Sublist l
  | [], _ => by simp
  | a :: l, [] => by simp
  | a :: l, b :: m => by
    rw [List.zip_cons_cons, List.map_cons]
    exact (zip_fst l m).cons₂ a
theorem lookup_rev {ps : List Str} {us : List Value} (nd : ps.Nodup) : ∀ {i : Nat} {x : Str} {u : Value}, ps[i]? = some x → us[i]? = some u → (ps.zip us).reverse.lookup x = some u := by
  have key : ∀ (l : List (Str × Value)) (x : Str) (u : Value), (x, u) ∈ l → (l.map (·.1)).Nodup → l.lookup x = some u := fun l => by
    induction l with
    | nil => intro x u h; cases h
    | cons p l ih =>
      intro x u h hn
      rw [List.map_cons, List.nodup_cons] at hn
      obtain ⟨y, v⟩ := p
      rw [List.lookup_cons]
      rcases List.mem_cons.mp h with e | h2
      · cases e
        rw [beq_self_eq_true]
      · have : (x == y) = false := by
          refine beq_eq_false_iff_ne.mpr fun z => hn.1 ?_
          subst z
          exact List.mem_map.mpr ⟨(x, u), h2, rfl⟩
        rw [this]
        exact ih x u h2 hn.2
  intro i x u h1 h2
  refine key _ x u (List.mem_reverse.mpr (List.mem_of_getElem? (i := i) ?_)) ?_
  · rw [List.getElem?_zip_eq_some]
    exact ⟨h1, h2⟩
  · rw [List.map_reverse]
    unfold List.Nodup
    rw [List.pairwise_reverse]
    have : ((ps.zip us).map (·.1)).Sublist ps := by
      exact zip_fst ps us
    exact (List.Pairwise.sublist this nd).imp Ne.symm
theorem inv_startI {main : Str} {N ps : List Str} {qual : Str} {scope : Scope} {f C cc cda : Addr} {cd : Value} {A : Around} {outer : List Env} {s : Shared} {H : Hp} {E : XK} {us : List Value} {vs : List V} {h₀ : Heap} {tk : Nat}
    (S : SupScope N ps scope) (Z : SupK K main f C cc cda) (hd : A.handled = none) (e0 : Env0 P w K mg base A outer s H) (hl : vs.length = ps.length) (r : Vals vs us)
    (hns : h₀.Ns s.heap.objs.size (fun x => (ps.zip us).reverse.lookup x)) (hk : ∀ b o, s.heap.get? b = some o → h₀.get? b = some o) :
    Inv (cxI P w K mg base N qual scope f cd cc A outer s H E) [] (L2.start N vs) H { s with heap := h₀, toks := tk } := by
  have hpl : ps.length ≤ N.length := by have := congrArg List.length S.pre; rw [List.length_take] at this; omega
  have noA : ∀ b : Addr, b ∉ (cxI P w K mg base N qual scope f cd cc A outer s H E).ex := fun b z => absurd (show b ∈ ([] : List Addr) from z) (by simp)
  have one : ∀ {x : Str} {c : Addr}, ([(("__class__" : Str), cc)] : List (Str × Addr)).lookup x = some c → x = "__class__" ∧ c = cc := fun {x c} h => by
    rw [List.lookup_cons] at h
    cases hb : x == ("__class__" : Str) with
    | true =>
      rw [hb] at h
      exact ⟨beq_iff_eq.mp hb, (Option.some.inj h).symm⟩
    | false =>
      rw [hb] at h
      cases h
  obtain ⟨cl, cld, csl, hcell⟩ := Z.cell
  have hcb := e0.mod.kin _ _ hcell
  refine ⟨⟨e0.mod, S.kind, rfl, rfl, Nat.le_refl _, fun y z c h1 h2 => (one h1).1.trans (one h2).1.symm, fun y hy => ?_, fun y c hf h => ?_, fun _ => hd, Around.frames_deeper e0.frames, .inr ⟨rfl, rfl⟩, fun b z => absurd z (noA b), e0.bs, e0.bsz, fun b _ _ => noA b, fun b z => absurd z (noA b), e0.funs, e0.frf⟩,
    rfl, e0.bare, Un.kept hk, ⟨_, hns, fun i y v h1 h2 h3 => ?_⟩, fun y c h => ?_, e0.hok.fresh (Nat.le_refl _), fun y c h => ?_, fun p hp => absurd (show p ∈ ([] : List (Addr × Obj)) from hp) (by simp), e0.hok.kept hk, ?_⟩
  · rcases (show scope.names.lookup y = some .cell ∨ scope.names.lookup y = some .free from hy) with hy | hy
    · exact absurd rfl (S.nocell _ (PySem.mem_of_lookup hy))
    · rw [S.free y hy]
      exact ⟨cc, rfl⟩
  · rw [(one h).1] at hf
    cases hf
  · have hi : i < vs.length := by
      unfold L2.start at h2
      by_cases hi : i < vs.length
      · exact hi
      · rw [List.getElem?_append_right (by simpa using hi), List.getElem?_replicate] at h2
        split at h2 <;> cases h2
    have ha : vs[i]? = some v := by
      unfold L2.start at h2
      rw [List.getElem?_append_left (by simpa using hi), List.getElem?_map] at h2
      cases e : vs[i]? with
      | none => rw [e] at h2; cases h2
      | some a => rw [e] at h2; cases h2; rfl
    obtain ⟨u, hu, rv⟩ := r.get ha
    have hp : ps[i]? = some y := by
      rw [← S.pre, List.getElem?_take_of_lt (by omega)]; exact h1
    have ndP : ps.Nodup := by rw [← S.pre]; exact S.nd.sublist (List.take_sublist _ _)
    exact ⟨u, rv, .inl ⟨S.par y (List.mem_of_getElem? hp), lookup_rev ndP hp hu⟩⟩
  · obtain ⟨rfl, rfl⟩ := one h
    exact ⟨_, _, hk _ _ (e0.bs _ _ hcb).1, rfl⟩
  · obtain ⟨rfl, rfl⟩ := one h
    exact (e0.bs _ _ hcb).2
  · unfold L2.start
    show _ = N.length
    rw [List.length_append, List.length_map, List.length_replicate]
    omega
end
/-! ### the wrapper called -/
section
variable {X : Cx} {pins : List (Addr × Obj)} {σ : L2.St} {H : Hp} {s : Shared} {a C u : Addr}
theorem Inv.addpin {p : Addr × Obj} (I : Inv X pins σ H s) (h : s.heap.get? p.1 = some p.2) (n : H p.1 = none) (nl : p.1 ≠ X.env.locals) (nf : p.1 ∉ X.fs) (nc : ∀ v, p.2.data ≠ .cell v) : Inv X (p :: pins) σ H s :=
  I.pins_of fun q hq => by
    rcases List.mem_cons.mp hq with rfl | hq
    · exact ⟨h, n, nl, nf, nc⟩
    · exact I.pin q (List.mem_append_right _ hq)
theorem Inv.unpin1 {p : Addr × Obj} (I : Inv X (p :: pins) σ H s) : Inv X pins σ H s := I.pins_of fun q hq => I.pin q (List.mem_append_right _ (List.mem_cons_of_mem _ hq))
theorem wrap_call {us : List Value} {Q : Value → Shared → Prop} {E : Value → Shared → Prop} {A : Around} (T : OexC X.K C) (I : Inv X pins σ H s) (e : H a = some (exo a C none)) (hu : s.heap.get? u = some (PySem.W.kxs_mw "ValueError.__init__" a)) (hl : us.length ≤ sizeLine) (h : ∀ s', Inv X pins σ H s' → Q .none s') :
    wpAny (model X.prog X.w) A (call (.ref u) us) Q E s := by
  obtain ⟨nm, q, N, bs, bm, sn, sub, ab, col, dd, k0, k1, k2, k3, k5, hC, hbm⟩ := T.cls
  obtain ⟨t1, ho⟩ := exo_at I.hok e
  have hCh := I.kIn _ _ hC
  have fin : ∀ h', (∀ b o, b ≠ a → s.heap.get? b = some o → h'.get? b = some o) → (∃ t2 : Addr, h'.get? a = some ({ cls := .ref C, dict := none, data := .fields #[.ref t2, .none, .none, .none, .bool false, .none] } : Obj)) → Q .none { s with heap := h' } := fun h' k hx => by
    obtain ⟨t2, hx⟩ := hx
    have J := I.write (t' := s.toks) (x := a) (e := a) (o := exo a C none) (by rw [e]; exact True.intro) (.inl rfl) k ⟨_, hx⟩ (exo_ok hx)
    have eu : upd H a (exo a C none) = H := funext fun b => by
      by_cases hb : b = a
      · rw [hb, upd_same, e]
      · rw [upd_ne hb]
    rw [eu] at J
    exact h _ J
  obtain ⟨hp, g, d, t, os⟩ := s
  have FB := PySem.F.excBase_ValueError
  refine wpAny_call (codeAny_of_tree ?_)
  show wpAny _ A.in1 (callAny (.ref u) ⟨us, []⟩) _ _ _
  unfold callAny
  refine wpAny_bind (wpAny_load hu ?_)
  refine PySem.W.KFB.if_so (by rfl) ?_
  refine wpAny_bind (PySem.W.check_bound_init FB.toExcCallFacts hCh ho rfl ?_)
  refine wpAny_bind (wpAny_pure (wpAny_pure ?_))
  refine ⟨plainId_quiet FB.init.plain _, codeAny_builtin FB.initEntry ?_⟩
  exact PySem.W.exc_init_tree ho hl fun h' k hx _ => fin h' k ⟨_, hx⟩
/-- the first word: super().__init__(e) -/
theorem sup_stmt {main : Str} {N ps : List Str} {qual self : Str} {scope : Scope} {L f cc cda : Addr} {fd : FuncData} {ar : Arg} {oc : Value} {od : Option Addr} {osl : Array (Option Value)} {body : List Stmt} {e : Expr} {te : TE} {p0 p1 apos pos pos2 : Pos} {Q : Hp → Prop}
    (hX : X.env = PySem.W.ksEnv qual scope L f (.ref cda) cc) (S : SupScope N ps scope) (Z : SupK X.K main f C cc cda) (T : OexC X.K C) (hN : X.N = N) (h0 : N[0]? = some self) (hself : scope.names.lookup self = some .local)
    (lk : X.K.lookup f = some ⟨oc, od, .func fd, osl⟩) (hp : (fd.params.posonlyargs ++ fd.params.args).head? = some ar) (har : ar.arg = self) (hmain : ((X.prog.main.file : Str) == main) = true) (htop : (X.prog.main.scope.names.lookup ("super" : Str)).isSome = false) (hm : X.mg "super" = none)
    (I : Inv X pins σ H s) (hs : σ[0]? = some (some (.ref a))) (ea : H a = some (exo a C none)) (he : PE X e te) (hq : te σ H fun v H2 => H2 a = some (exo a C none) ∧ Q H2)
    {pl : Sem Bool} (hev : eval (.Call (.Attribute (.Call (.Name "super" p0) [] [] p1) "__init__" apos) [e] [] pos) X.env = (do
      let ov ← attributeBase (.Call (.Name "super" p0) [] [] p1) "__init__" X.env (eval (.Call (.Name "super" p0) [] [] p1) X.env)
      standAt apos.atName
      let (f, first) ← holding [ov] (getMethod ov "__init__" pl)
      callWith pos f first (backTo pos (starEach [e] X.env)) []) := by rfl)
    (hst : starEach [e] X.env = [(false, eval e X.env)] := by rfl) (hsw : swapsWith (.Call (.Attribute (.Call (.Name "super" p0) [] [] p1) "__init__" apos) [e] [] pos) none pos2.line X.env = pure false := by rfl) (hint : interactive X.env = false := by rfl) :
    wpAt (model X.prog X.w) X.A (.func body X.env) (exec (.Expr (.Call (.Attribute (.Call (.Name "super" p0) [] [] p1) "__init__" apos) [e] [] pos) pos2) X.env) (fun fl s' => fl = .next ∧ ∃ H2, Inv X pins σ H2 s' ∧ Q H2) X.xe s := by
  have KX := I.kIn
  obtain ⟨cl, cld, csl, hcell⟩ := Z.cell
  obtain ⟨ccl, cdd, vsc, ccs, tf, hcode, hvs⟩ := Z.code
  obtain ⟨t1, ho⟩ := exo_at I.hok ea
  have IA : PySem.W.InstAt s.heap a _ C none := ⟨ho, rfl, rfl, trivial⟩
  obtain ⟨m, hns, hloc⟩ := I.loc
  obtain ⟨u0, ru0, lu0⟩ := hloc 0 self (.ref a) (by rw [hN]; exact h0) hs (.inl (by rw [hX]; exact hself))
  obtain rfl : u0 = Value.ref a := ru0
  have hmself : m self = some (.ref a) := by
    rcases lu0 with ⟨_, h⟩ | ⟨h, _⟩
    · exact h
    · rw [hX] at h
      rcases (show scope.names.lookup self = some .cell ∨ scope.names.lookup self = some .free from h) with h | h
      · rw [hself] at h; cases h
      · rw [hself] at h; cases h
  have hsup := Z.sup
  unfold PySem.W.ks_superIn at hsup
  cases hcd : PySem.W.clsIn X.K C with
  | none => rw [hcd] at hsup; cases hsup
  | some cd =>
    rw [hcd] at hsup
    obtain ⟨oD, hD1, hD2⟩ : ∃ oD, s.heap.get? C = some oD ∧ oD.data = .cls cd := by
      unfold PySem.W.clsIn at hcd
      split at hcd
      · rename_i c d cd' sl hlk
        cases hcd
        exact ⟨_, KX _ _ hlk, rfl⟩
      · cases hcd
    have hfs : X.env.func = some f := by rw [hX]
    have hkind : X.env.scope.kind = .function := by rw [hX]; exact S.kind
    refine PySem.ks_wpAt_Expr_any ?_ hint hsw
    refine PySem.ks_wpAt_MethodCall (pl := pl) ?_ hev
    refine PySem.ks_wpAt_super_base (f := f) (cc := cda) (by rw [hX]; exact S.sup) (by rw [hX]; exact S.cls) rfl hfs (KX _ _ lk) rfl hp (by rw [hX]) (KX _ _ hcode) rfl hvs hmain htop ?_
    obtain ⟨mb, hb1, hb2⟩ := I.mod.blt
    refine PySem.W.ks_loadName_global hkind (by rw [hX]; exact S.sup) (Calls.loadGlobal_builtin (by rw [I.ok.glob]; exact I.mod.glob.keeps I.bk) hm (by rw [I.ok.blt]; exact hb1.keeps I.bk) ((hb2 _ (by decide)).trans (show bootBuiltins ("super" : Str) = some (.type "super") by decide +kernel)) ⟨rfl, ?_⟩)
    refine wpAny_loadName_free hkind (by rw [hX]; exact S.cls) (by rw [hX]; rfl) ⟨_, KX _ _ hcell, rfl⟩ ?_
    rw [har]
    refine wpAny_loadName_local hkind (by rw [hX]; exact hself) hns hmself ?_
    refine PySem.ks_wpAny_isType_cls hD1 hD2 ⟨rfl, ?_⟩
    obtain ⟨hp1, g, d, t, os⟩ := s
    refine PySem.ks_wpAny_call_super hD1 hD2 IA.at_ IA.cls (fun c hc => by cases hc) (PySem.W.looks_mroIn KX Z.sub) (fun h' eso k => ?_)
    have I1 : Inv X pins σ H ⟨h', g, d, t, os⟩ := I.kept (t' := t) k
    have IA1 : PySem.W.InstAt h' a _ C none := ⟨k _ _ ho, rfl, rfl, trivial⟩
    refine PySem.W.kxs_getMethod PySem.W.kxs_ValueError eso (PySem.W.looks_opaque I1.kIn Z.opq) (l₀ := cd.mro) (fun A Q E s k q => wpAny_bind ((PySem.W.looks_clsIn I1.kIn hcd) A _ E s k (wpAny_pure q))) rfl I1.kIn hsup (IA1.type.andThen (PySem.W.looks_subIn I1.kIn Z.ve)) (PySem.W.ks_ne I1.kIn IA1 hcd) rfl ?_
    have hmw : (h'.push (PySem.W.kxs_mw "ValueError.__init__" a)).get? h'.objs.size = some (PySem.W.kxs_mw "ValueError.__init__" a) := Heap.get?_push_at rfl rfl
    have I2 : Inv X pins σ H ⟨h'.push (PySem.W.kxs_mw "ValueError.__init__" a), g, d, t + 1, os⟩ := I1.kept (t' := t + 1) fun b o eb => Heap.get?_push_of_some _ eb
    have hnl : h'.objs.size ≠ X.env.locals := fun z => by
      obtain ⟨m1, hn1, _⟩ := I1.loc
      obtain ⟨oL, es, ep, hL, _⟩ := hn1
      exact absurd (Heap.lt_size hL) (by rw [← z]; exact Nat.lt_irrefl _)
    have I3 := Inv.addpin (p := (h'.objs.size, PySem.W.kxs_mw "ValueError.__init__" a)) I2 hmw (I1.hok.fresh (Nat.le_refl _)) hnl (I1.nofs (Nat.le_refl _)) (fun v z => by cases z)
    have ha := (pa_cons he pa_nil (hs := hst)).run pos _ _ σ H (fun vs H2 => match vs with | [_] => H2 a = some (exo a C none) ∧ Q H2 | _ => False) I3 hq
    rw [hst] at ha ⊢
    refine PySem.W.kxs_callWith (i := "ValueError.__init__") (x := a) (by rfl) ?_
    refine Calls.evalArgs_plain (thn ha fun us s1 ⟨vs, H2, J, rr, q⟩ => ?_)
    cases vs with
    | nil => exact q.elim
    | cons v vs =>
      cases vs with
      | cons _ _ => exact q.elim
      | nil =>
        obtain ⟨q1, q2⟩ := q
        have hl : us.length = 1 := (Paired.length rr).symm
        have pu := (J.pin (h'.objs.size, PySem.W.kxs_mw "ValueError.__init__" a) (List.mem_append_right _ List.mem_cons_self)).1
        refine ⟨pu, ?_⟩
        exact wrap_call (us := us) T (Inv.unpin1 J) q1 pu (by rw [hl]; decide) fun s' J2 => ⟨rfl, H2, J2, q2⟩
end
/-! ### the def -/
section
variable {P : Program} {w : World} {K : PySem.W.Frag} {mg : Str → Option Value} {base : Heap}
def spI (N ps : List Str) (C : Addr) (te : TE) (tr : TS) : Sp := fun vs H Q E => vs.length = ps.length ∧ ∃ a, vs[0]? = some (.ref a) ∧ H a = some (exo a C none) ∧ te (L2.start N vs) H fun _ H2 => H2 a = some (exo a C none) ∧ tr { nx := fun _ H' => Q .non H', rt := Q } (L2.start N vs) H2
theorem fnI_of {main : Str} {N ps : List Str} {name qual self : Str} {params : Arguments} {scope : Scope} {f C cc cda : Addr} {ar : Arg} {kV doc pm ct oc : Value} {an od : Option Addr} {osl : Array (Option Value)} {e : Expr} {rest : List Stmt} {te : TE} {tr : TS} {p0 p1 apos pos pos2 : Pos} {k : Nat}
    (lk : K.lookup f = some ⟨oc, od, .func (PySem.W.ksFn name qual params (.Expr (.Call (.Attribute (.Call (.Name "super" p0) [] [] p1) "__init__" apos) [e] [] pos) pos2 :: rest) scope .none kV doc pm an (.ref cda) ct cc), osl⟩) (hcd : PySem.W.codeIn K (.ref cda) qual = true)
    (S : SupScope N ps scope) (Z : SupK K main f C cc cda) (T : OexC K C) (h0 : N[0]? = some self) (hps : 0 < ps.length) (hp : (params.posonlyargs ++ params.args).head? = some ar) (har : ar.arg = self) (hself : scope.names.lookup self = some .local)
    (hmain : ((P.main.file : Str) == main) = true) (htop : (P.main.scope.names.lookup ("super" : Str)).isSome = false) (hm : mg "super" = none)
    (he : ∀ (A : Around) (outer : List Env) (s : Shared) (H : Hp) (E : XK), Room k (A.deeper (PySem.W.ksEnv qual scope s.heap.objs.size f (.ref cda) cc)) → PE (cxI P w K mg base N qual scope f (.ref cda) cc A outer s H E) e te)
    (hrest : ∀ (A : Around) (outer : List Env) (s : Shared) (H : Hp) (E : XK), Room k (A.deeper (PySem.W.ksEnv qual scope s.heap.objs.size f (.ref cda) cc)) → PSs (cxI P w K mg base N qual scope f (.ref cda) cc A outer s H E) rest tr)
    {pl : Sem Bool} (hev : ∀ L : Addr, eval (.Call (.Attribute (.Call (.Name "super" p0) [] [] p1) "__init__" apos) [e] [] pos) (PySem.W.ksEnv qual scope L f (.ref cda) cc) = (do
      let ov ← attributeBase (.Call (.Name "super" p0) [] [] p1) "__init__" (PySem.W.ksEnv qual scope L f (.ref cda) cc) (eval (.Call (.Name "super" p0) [] [] p1) (PySem.W.ksEnv qual scope L f (.ref cda) cc))
      standAt apos.atName
      let (f1, first) ← holding [ov] (getMethod ov "__init__" pl)
      callWith pos f1 first (backTo pos (starEach [e] (PySem.W.ksEnv qual scope L f (.ref cda) cc))) []))
    (hst : ∀ L : Addr, starEach [e] (PySem.W.ksEnv qual scope L f (.ref cda) cc) = [(false, eval e (PySem.W.ksEnv qual scope L f (.ref cda) cc))])
    (hsw : ∀ L : Addr, swapsWith (.Call (.Attribute (.Call (.Name "super" p0) [] [] p1) "__init__" apos) [e] [] pos) none pos2.line (PySem.W.ksEnv qual scope L f (.ref cda) cc) = pure false)
    (hint : ∀ L : Addr, interactive (PySem.W.ksEnv qual scope L f (.ref cda) cc) = false) :
    FnOk P w K mg base (L2.CX P w) (k + 1) f (PySem.W.ksFn name qual params (.Expr (.Call (.Attribute (.Call (.Name "super" p0) [] [] p1) "__init__" apos) [e] [] pos) pos2 :: rest) scope .none kV doc pm an (.ref cda) ct cc) ps (spI N ps C te tr) := by
  refine ⟨fun vs H Q E h => h.1, fun A outer s H args us vs Q E hr e0 hb r hsp => ?_⟩
  obtain ⟨hl, a, ha0, ea, hq⟩ := hsp
  have KX : K.In s.heap := e0.mod.kin.keeps fun b o e => (e0.bs b o e).1
  have lim : s.heap.NoLimit := e0.mod.nolimit.keeps fun b o e => (e0.bs b o e).1
  have hrd := hr.deeper (PySem.W.ksEnv qual scope s.heap.objs.size f (.ref cda) cc)
  refine PySem.ks_codeAny_call_defAt hr.depth (KX _ _ lk) rfl lim (PySem.W.codeRec_of KX hcd) rfl hb S.nocell (fun y hy => S.par y.1 (List.of_mem_zip hy).1) (fun h₀ hns hk => ?_) S.co S.gen S.kind
  have I := inv_startI (P := P) (w := w) (E := E) (qual := qual) (f := f) (cd := .ref cda) (tk := s.toks + (ps.zip us).length) S Z hr.hd e0 hl r hns hk
  have hs0 : (L2.start N vs)[0]? = some (some (.ref a)) := by
    unfold L2.start
    rw [List.getElem?_append_left (by rw [List.length_map, hl]; exact hps), List.getElem?_map, ha0]
    rfl
  have w1 := sup_stmt (X := cxI P w K mg base N qual scope f (.ref cda) cc A outer s H E) (p0 := p0) (p1 := p1) (apos := apos) (pos := pos) (pos2 := pos2) (body := .Expr (.Call (.Attribute (.Call (.Name "super" p0) [] [] p1) "__init__" apos) [e] [] pos) pos2 :: rest) rfl S Z T rfl h0 hself lk hp har hmain htop hm I hs0 ea (he A outer s H E hrd) hq (hev _) (hst _) (hsw _) (hint _)
  refine PySem.ks_wpAt_execs_cons ?_
  refine PySem.ks_wpAt_mono w1 (fun fl s1 h1 => ?_) fun _ _ z => z
  obtain ⟨rfl, H2, I2, q2⟩ := h1
  refine wpAt_of_wpAny ?_
  refine wpAny_mono ((hrest A outer s H E hrd).run [] s1 (L2.start N vs) H2 _ I2 q2) (fun fl s' hs => ?_) fun e s' hs => hs
  have fin : ∀ {σ' : L2.St} {H' : Hp} {v : V} {u : Value}, Inv (cxI P w K mg base N qual scope f (.ref cda) cc A outer s H E) [] σ' H' s' → RelV v u → Q v H' → CE outer P w H s Q u s' :=
    fun {σ' H' v u} J rv q => ⟨v, H', J.os, J.bare, J.base, J.hok, rv, q⟩
  cases fl with
  | ret u =>
    obtain ⟨v, σ', H', J, rv, q⟩ := hs
    exact fin J rv q
  | next =>
    obtain ⟨σ', H', J, q⟩ := hs
    exact fin (v := V.non) (u := Value.none) J rfl q
  | brk =>
    obtain ⟨_, _, _, q⟩ := hs
    exact q.elim
  | cont =>
    obtain ⟨_, _, _, q⟩ := hs
    exact q.elim
end
end DK
end
section
set_option Elab.async false
set_option linter.all false
set_option autoImplicit false
set_option maxRecDepth 100000
set_option maxHeartbeats 4000000
/-! DKSupR: an own error with fields is raised. -/
namespace DK
open PySem L2

section
variable {K : PySem.W.Frag} {ad : Str → Addr} {S S' : Hp} {r r' : Rg} {O O' : Store} {H H' : Hp}
/-- all that nobody knows, held -/
noncomputable def allFr (S : Hp) (r : Rg) (H : Hp) : Hp := fun b => open Classical in if S b = none ∧ b ∉ r.l then H b else none
theorem Rs.holdAll (h : Rs K ad S r O H) : Rs K ad S (r.at (allFr S r H)) O H where
  sub := h.sub
  len := h.len
  nd := h.nd
  ob := fun n a o e1 e2 => (h.ob n a o e1 e2).at_
  fr := fun b u e => by
    have e : (open Classical in if S b = none ∧ b ∉ r.l then H b else none) = some u := e
    split at e
    · exact e
    · cases e
  off := fun b u e => by
    have e : (open Classical in if S b = none ∧ b ∉ r.l then H b else none) = some u := e
    split at e
    · rename_i hc; exact hc
    · cases e
/-- what stood then stands now -/
theorem Rs.dom (h0 : Rs K ad S r O H) (es : Same S S') (er : r.l <+: r'.l) (ef : ∀ b o, allFr S r H b = some o → r'.fr b = some o) (h : Rs K ad S' r' O' H') {b : Addr} (hb : H' b = none) : H b = none := by
  cases hH : H b with
  | none => rfl
  | some o =>
    exfalso
    by_cases hS : S b = none
    · by_cases hl : b ∈ r.l
      · obtain ⟨n, hn, en⟩ := List.getElem_of_mem hl
        have e1 : r'.l[n]? = some b := pre_get er (by show r.l[n]? = some b; rw [List.getElem?_eq_getElem hn, en])
        have hO : n < O'.length := by rw [← h.len]; exact (List.getElem?_eq_some_iff.mp e1).1
        obtain ⟨u, q⟩ := (h.ob n b O'[n] e1 (List.getElem?_eq_getElem hO)).there
        rw [hb] at q
        cases q
      · have : r'.fr b = some o := by
          refine ef b o ?_
          show (open Classical in if S b = none ∧ b ∉ r.l then H b else none) = some o
          rw [if_pos ⟨hS, hl⟩]
          exact hH
        have q := h.fr b o this
        rw [hb] at q
        cases q
    · cases hS2 : S b with
      | none => exact hS hS2
      | some u =>
        have q := h.sub b u (es b u hS2)
        rw [hb] at q
        cases q
theorem Rs.notS (h : Rs K ad S r O H) {b : Addr} (hb : H b = none) : S b = none := h.sub.free hb
/-- behind the making of an error at a with its dict at d -/
theorem Rs.afterExc {a d : Addr} {u : HO} {H4 fr0 : Hp} (h : Rs K ad S r O H) (ha : r.fr a ≠ none) (hd : H d = none) (hda : d ≠ a) (h4 : ∀ b, b ≠ a → b ≠ d → H4 b = H b) (h5 : H4 d = some u) (hf : ∀ b o, fr0 b = some o → b ≠ a ∧ b ≠ d ∧ r.fr b = some o) : Rs K ad (upd S d u) (r.at fr0) O H4 := by
  obtain ⟨oa, hoa⟩ := Option.ne_none_iff_exists'.mp ha
  have offa := h.off a oa hoa
  have Sd := h.notS hd
  have ld : d ∉ r.l := h.notin hd
  refine ⟨fun b o e => ?_, h.len, h.nd, fun n b o e1 e2 => ?_, fun b o e => ?_, fun b o e => ?_⟩
  · by_cases hb : b = d
    · rw [hb, upd_same] at e
      rw [hb, h5]
      exact e
    · rw [upd_ne hb] at e
      have : b ≠ a := fun z => by rw [z, offa.1] at e; cases e
      rw [h4 b this hb]
      exact h.sub b o e
  · have hm : b ∈ r.l := List.mem_of_getElem? e1
    have n1 : b ≠ a := fun z => offa.2 (z ▸ hm)
    have n2 : b ≠ d := fun z => ld (z ▸ hm)
    exact ((h.ob n b o e1 e2).mono (Ext.new Sd) (fun x q => by rw [h4 b n1 n2]; exact q) (fun q => by rw [upd_ne n2]; exact q)).at_
  · obtain ⟨n1, n2, e'⟩ := hf b o e
    rw [h4 b n1 n2]
    exact h.fr b o e'
  · obtain ⟨n1, n2, e'⟩ := hf b o e
    rw [upd_ne n2]
    exact h.off b o e'
end
section
variable {K : PySem.W.Frag} {ad : Str → Addr} {S : Hp} {r : Rg} {O O' : Store} {H : Hp}
theorem rl_init {N : List Str} {a : Addr} {ds : List D} {ws : List V} (hl : ds.length + 1 ≤ N.length) (p : RpAll K S r ds ws) : Rl K S r (none :: (ds.map some ++ List.replicate (N.length - (ds.length + 1)) none)) (L2.start N (V.ref a :: ws)) where
  len := by
    unfold L2.start
    have := p.length
    simp [this]
  at_ := fun i d q => by
    cases i with
    | zero => cases q
    | succ i =>
      rw [List.getElem?_cons_succ] at q
      have hi : i < ds.length := by
        by_cases hi : i < ds.length
        · exact hi
        · rw [List.getElem?_append_right (by rw [List.length_map]; omega), List.getElem?_replicate] at q
          split at q <;> cases q
      rw [List.getElem?_append_left (by rw [List.length_map]; exact hi), List.getElem?_map] at q
      cases e : ds[i]? with
      | none => rw [e] at q; cases q
      | some d' =>
        rw [e] at q
        obtain rfl : d' = d := Option.some.inj (Option.some.inj q)
        obtain ⟨v, hv, pv⟩ := p.get e
        refine ⟨v, ?_, pv⟩
        unfold L2.start
        rw [List.map_cons, List.cons_append, List.getElem?_cons_succ, List.getElem?_append_left (by rw [List.length_map, p.length]; exact hi), List.getElem?_map, hv]
        rfl
def iniL (N : List Str) (ds : List D) : Loc := none :: (ds.map some ++ List.replicate (N.length - (ds.length + 1)) none)
/-- what the end of an __init__ needs -/
structure EndI (K : PySem.W.Frag) (ad : Str → Addr) (S : Hp) (r : Rg) (O' : Store) (fs : List (Str × D)) (Qx : Option Addr → Hp → Prop) : Prop where
  q : ∀ (S2 : Hp) (r2 : Rg) (H4 : Hp) (dd : Addr) (gs : List (Str × V)), Ext S r S2 r2 → Rs K ad S2 r2 O' H4 → S2 dd = some (.xd gs) → RpP K S2 r2 fs gs → Qx (some dd) H4
abbrev QI (a C : Addr) (H1 : Hp) (Qx : Option Addr → Hp → Prop) : VK := fun v H2 => v = .non ∧ ∃ (d : Addr) (fs : List (Str × V)), H2 a = some (exo a C (some d)) ∧ H2 d = some (exd d fs) ∧ H1 d = none ∧ Qx (some d) (upd (del H2 a) d (.xd fs))
/-- behind the message -/
theorem spI_mid {N ps : List Str} {a C : Addr} {ds : List D} {ws : List V} {ms : EM} {tr : TS} {Q : VK} {E : XK} {dm : D} (rs : Rs K ad S r O H) (p : RpAll K S r ds ws) (hl : ds.length + 1 = ps.length) (hN : ps.length ≤ N.length) (ha : H a = none)
    (hm : ms (iniL N ds) O = .ok dm O')
    (k : ∀ (S' : Hp) (r' : Rg) (H2 : Hp), Same S S' → r.l <+: r'.l → Rs K ad S' r' O' H2 → H2 a = some (exo a C none) → r'.fr a ≠ none → (∀ b o, r.fr b = some o → b ≠ a ∧ r'.fr b = some o) → (∀ b, H2 b = none → H b = none) → Rl K S' r' (iniL N ds) (L2.start N (V.ref a :: ws)) →
      tr { nx := fun _ H' => Q .non H', rt := Q } (L2.start N (V.ref a :: ws)) H2) :
    spI N ps C (tE K ad JT WF ms) tr (V.ref a :: ws) (upd H a (exo a C none)) Q E := by
  refine ⟨by rw [List.length_cons, p.length]; exact hl, a, rfl, upd_same, ?_⟩
  have hA := rs.holdAll
  have hh := Rs.hold (o := exo a C none) hA ha
  refine ⟨S, _, iniL N ds, O, trivial, ⟨(rl_init (by omega) p).len, fun i d q => ?_⟩, hh, ?_⟩
  · obtain ⟨v, q1, q2⟩ := (rl_init (a := a) (N := N) (by omega) p).at_ i d q
    exact ⟨v, q1, Rp.monoW (r := r) (r' := (r.at (allFr S r H)).at (upd (r.at (allFr S r H)).fr a (exo a C none))) (Same.refl S) List.prefix_rfl d v q2⟩
  · rw [hm]
    intro S' r' H2 v e2 s2 _
    have efr : ∀ b o, allFr S r H b = some o → r'.fr b = some o := fun b o eb => by
      rw [e2.f]
      show upd (allFr S r H) a (exo a C none) b = some o
      have : b ≠ a := fun z => by
        have q := hA.fr b o eb
        rw [z, ha] at q
        cases q
      rw [upd_ne this]
      exact eb
    have ea : r'.fr a = some (exo a C none) := by
      rw [e2.f]
      exact upd_same
    have h2a := s2.fr a _ ea
    refine ⟨h2a, k S' r' H2 e2.s e2.r s2 h2a (by rw [ea]; exact fun z => by cases z) (fun b o eb => ?_) (fun b hb => rs.dom e2.s e2.r efr s2 hb) ?_⟩
    · have hb := rs.fr b o eb
      have n1 : b ≠ a := fun z => by rw [z, ha] at hb; cases hb
      refine ⟨n1, efr b o ?_⟩
      show (open Classical in if S b = none ∧ b ∉ r.l then H b else none) = some o
      rw [if_pos (rs.off b o eb)]
      exact hb
    · refine ⟨(rl_init (by omega) p).len, fun i d q => ?_⟩
      obtain ⟨v, q1, q2⟩ := (rl_init (a := a) (N := N) (by omega) p).at_ i d q
      exact ⟨v, q1, Rp.monoW (r := r) (r' := r') e2.s e2.r d v q2⟩
/-- the end -/
theorem endI_of {S' : Hp} {r' : Rg} {H2 H3 : Hp} {a C dx : Addr} {fs : List (Str × D)} {gs : List (Str × V)} {Qx : Option Addr → Hp → Prop} (rs : Rs K ad S r O H) (ha : H a = none) (es : Same S S') (er : r.l <+: r'.l) (s2 : Rs K ad S' r' O' H2) (hfa : r'.fr a ≠ none) (hfr : ∀ b o, r.fr b = some o → b ≠ a ∧ r'.fr b = some o) (hdom : ∀ b, H2 b = none → H b = none)
    (hdx : H2 dx = none) (hne : dx ≠ a) (h3 : ∀ b, b ≠ a → b ≠ dx → H3 b = H2 b) (h3a : H3 a = some (exo a C (some dx))) (h3d : H3 dx = some (exd dx gs)) (pf : RpP K S' r' fs gs) (q : EndI K ad S r O' fs Qx) : QI a C H Qx .non H3 := by
  have hS : S' dx = none := s2.notS hdx
  refine ⟨rfl, dx, gs, h3a, h3d, hdom dx hdx, ?_⟩
  refine q.q (upd S' dx (.xd gs)) (r'.at r.fr) _ dx gs ⟨fun b u eb => ?_, rfl, er⟩ (Rs.afterExc s2 hfa hdx hne (fun b n1 n2 => by rw [upd_ne n2, del_ne n1, h3 b n1 n2]) upd_same (fun b o eb => ?_)) upd_same ?_
  · have := es b u eb
    rw [upd_ne (fun z => by rw [z, hS] at this; cases this)]
    exact this
  · obtain ⟨n1, e1⟩ := hfr b o eb
    refine ⟨n1, fun z => ?_, e1⟩
    have q1 := rs.fr b o eb
    rw [z, hdom dx hdx] at q1
    cases q1
  · exact RpP.monoW (r := r') (r' := r'.at r.fr) (Ext.new (r := r') hS).s List.prefix_rfl _ _ pf
theorem spI_one {N ps : List Str} {a C : Addr} {ds : List D} {ws : List V} {ms : EM} {E : XK} {dm d1 : D} {f1 : Str} {j1 : Nat} {Qx : Option Addr → Hp → Prop} (T : OexC K C) (hno : PySem.W.findIn K (.ref C) f1 = some none) (rs : Rs K ad S r O H) (p : RpAll K S r ds ws) (hl : ds.length + 1 = ps.length) (hN : ps.length ≤ N.length) (ha : H a = none)
    (hm : ms (iniL N ds) O = .ok dm O') (hj : (iniL N ds)[j1]? = some (some d1)) (q : EndI K ad S r O' [(f1, d1)] Qx) :
    spI N ps C (tE K ad JT WF ms) (tOst K f1 (tVar 0) (tVar j1)) (V.ref a :: ws) (upd H a (exo a C none)) (QI a C H Qx) E := by
  refine spI_mid rs p hl hN ha hm fun S' r' H2 es er s2 h2a hfa hfr hdom rl => ?_
  obtain ⟨v1, q1, p1⟩ := rl.at_ j1 d1 hj
  refine ⟨v1, q1, .ref a, rfl, a, C, rfl, T, hno, .inl ⟨h2a, fun dx hdx hne => ?_⟩⟩
  exact endI_of rs ha es er s2 hfa hfr hdom hdx hne (fun b n1 n2 => by rw [upd_ne n1, upd_ne n2]) upd_same (by rw [upd_ne hne, upd_same]) (show RpP K S' r' [(f1, d1)] [(f1, v1)] from ⟨v1, [], rfl, p1, rfl⟩) q
theorem spI_two {N ps : List Str} {a C : Addr} {ds : List D} {ws : List V} {ms : EM} {E : XK} {dm d1 d2 : D} {f1 f2 : Str} {j1 j2 : Nat} {Qx : Option Addr → Hp → Prop} (T : OexC K C) (hno : PySem.W.findIn K (.ref C) f1 = some none) (hno2 : PySem.W.findIn K (.ref C) f2 = some none) (rs : Rs K ad S r O H) (p : RpAll K S r ds ws) (hl : ds.length + 1 = ps.length) (hN : ps.length ≤ N.length) (ha : H a = none)
    (hm : ms (iniL N ds) O = .ok dm O') (hj : (iniL N ds)[j1]? = some (some d1)) (hj2 : (iniL N ds)[j2]? = some (some d2)) (q : EndI K ad S r O' [(f2, d2), (f1, d1)] Qx) :
    spI N ps C (tE K ad JT WF ms) (tSeq (tOst K f1 (tVar 0) (tVar j1)) (tOst K f2 (tVar 0) (tVar j2))) (V.ref a :: ws) (upd H a (exo a C none)) (QI a C H Qx) E := by
  refine spI_mid rs p hl hN ha hm fun S' r' H2 es er s2 h2a hfa hfr hdom rl => ?_
  obtain ⟨v1, q1, p1⟩ := rl.at_ j1 d1 hj
  obtain ⟨v2, q2, p2⟩ := rl.at_ j2 d2 hj2
  refine ⟨v1, q1, .ref a, rfl, a, C, rfl, T, hno, .inl ⟨h2a, fun dx hdx hne => ?_⟩⟩
  refine ⟨v2, q2, .ref a, rfl, a, C, rfl, T, hno2, .inr ⟨dx, [(f1, v1)], upd_same, by rw [upd_ne hne, upd_same], by simp, ?_⟩⟩
  exact endI_of rs ha es er s2 hfa hfr hdom hdx hne (fun b n1 n2 => by rw [upd_ne n2, upd_ne n1, upd_ne n2]) (by rw [upd_ne (Ne.symm hne), upd_same]) upd_same (show RpP K S' r' [(f2, d2), (f1, d1)] [(f2, v2), (f1, v1)] from ⟨v2, _, rfl, p2, v1, [], rfl, p1, rfl⟩) q
end
end DK
end
section
set_option Elab.async false
set_option linter.all false
set_option autoImplicit false
set_option maxRecDepth 100000
set_option maxHeartbeats 4000000
/-! DKHeadI: the head's facts of own errors with an __init__; raising them. -/
namespace DK
open PySem L2

def oexOk (K : PySem.W.Frag) (C : Addr) : Bool := match K.lookup C with
  | some ⟨.type t, _, .cls cd, sl⟩ => decide (t = "type") && (decide (cd.mro.head? = some (.ref C)) && (PySem.HandSPX.refsVE (cd.mro.drop 1) && (cd.hasDict && (!cd.hasDel && (match sl.toList with
    | [_, _, _, _, some (.builtin id), _] => decide (id = "ValueError.__new__")
    | _ => false)))))
  | _ => false
theorem oexOk_ok {K : PySem.W.Frag} {C : Addr} (h : oexOk K C = true) : ∃ nm q N bs bm sn sub ab col dd k0 k1 k2 k3 k5, K.lookup C = some (excClassObj nm q C N bs bm true sn sub ab col dd k0 k1 k2 k3 k5 "ValueError.__new__") ∧ PySem.HandSPX.refsVE bm = true := by
  unfold oexOk at h
  split at h
  · rename_i t dd cd sl hl
    obtain ⟨h1, h⟩ := He.ba h
    obtain ⟨h2, h⟩ := He.ba h
    obtain ⟨h3, h⟩ := He.ba h
    obtain ⟨h4, h⟩ := He.ba h
    obtain ⟨h5, h6⟩ := He.ba h
    have e1 := of_decide_eq_true h1
    have e2 := of_decide_eq_true h2
    obtain ⟨nm, bs, mro, ns, qn, hd, sn, sb, ab, col, del⟩ := cd
    have e4 : hd = true := h4
    have e5 : del = false := by
      have : (!del) = true := h5
      cases del
      · rfl
      · cases this
    subst e1 e4 e5
    cases mro with
    | nil => cases e2
    | cons m bm =>
      have em : m = .ref C := Option.some.inj e2
      subst em
      split at h6
      · rename_i k0 k1 k2 k3 id k5 hs
        have ei := of_decide_eq_true h6
        subst ei
        obtain ⟨sl⟩ := sl
        have hs : sl = [k0, k1, k2, k3, some (.builtin "ValueError.__new__"), k5] := hs
        subst hs
        exact ⟨nm, qn, ns, bs, bm, sn, sb, ab, col, dd, k0, k1, k2, k3, k5, hl, h3⟩
      · cases h6
  · cases h
/-- an error's __init__: its class, parameters, body, scope -/
structure IniD where
  cls : Str
  qual : Str
  params : Arguments
  body : List Stmt
  scope : Scope
abbrev FnC : Type := Option (Str × Str × Arguments × FuncBody × Scope × Addr × List Str × Value × Addr)
def IniD.at_ (d : IniD) : Str × Option Str := (d.cls, some "__init__")
def fnC (K : PySem.W.Frag) (p : Str × Option Str) : FnC := match K.lookup (He.fAd K p) with
  | some ⟨_, _, .func fd, _⟩ => some (fd.name, fd.qualname, fd.params, fd.body, fd.scope, fd.globals, fd.closure.map (·.1), fd.defaults, fd.builtins)
  | _ => none
def IniD.val (d : IniD) : FnC := some (("__init__" : Str), d.qual, d.params, FuncBody.stmts d.body, d.scope, mainGlobals, [("__class__" : Str)], Value.none, builtinsNs)
def IniD.ok (K : PySem.W.Frag) (main : Str) (d : IniD) : Bool := match K.lookup (He.fAd K d.at_) with
  | some ⟨_, _, .func fd, _⟩ => (match fd.closure, fd.code with
    | [(_, cc)], .ref cda => PySem.W.codeIn K (.ref cda) d.qual && ((match K.lookup cc with
        | some ⟨_, _, .cell (some v), _⟩ => decide (v = .ref (He.ga K d.cls))
        | _ => false) && ((match K.lookup cda with
        | some ⟨_, _, .fields vs, _⟩ => (match vs[2]? with
          | some (Value.str x _) => decide (x = main)
          | _ => false)
        | _ => false) && decide (PySem.W.mroIn K (He.ga K d.cls) (.ref (He.ga K d.cls)) = some true ∧ PySem.W.ks_superIn K (He.ga K d.cls) (He.ga K d.cls) "__init__" = some (some (.builtin "ValueError.__init__")) ∧ PySem.W.subIn K (.ref (He.ga K d.cls)) (.type "ValueError") = some true
          ∧ PySem.W.nsIn K cStatics "thirdparty.any" = some none ∧ PySem.W.nsIn K mainGlobals "super" = some none ∧ PySem.W.findIn K (.ref (He.ga K d.cls)) "__setattr__" = some (some (.builtin "object.__setattr__")) ∧ PySem.W.subIn K (.ref (He.ga K d.cls)) (.type "BaseException") = some true
          ∧ PySem.W.typeIn K (.ref (He.ga K d.cls)) = some (.type "type") ∧ PySem.W.keepIn K (.ref (He.ga K d.cls)) = true ∧ PySem.W.findIn K (.ref (He.ga K d.cls)) "__init__" = some (some (.ref (He.fAd K d.at_))) ∧ PySem.W.typeIn K (.ref (He.fAd K d.at_)) = some (.type "function") ∧ oexOk K (He.ga K d.cls) = true)))
    | _, _ => false)
  | _ => false
/-- what is known of it -/
structure IniK (K : PySem.W.Frag) (main : Str) (d : IniD) : Prop where
  lk : ∃ oc od kV doc pm an cda ct cc osl, K.lookup (He.fAd K d.at_) = some ⟨oc, od, .func (PySem.W.ksFn "__init__" d.qual d.params d.body d.scope .none kV doc pm an (.ref cda) ct cc), osl⟩ ∧ PySem.W.codeIn K (.ref cda) d.qual = true ∧ SupK K main (He.fAd K d.at_) (He.ga K d.cls) cc cda
  T : OexC K (He.ga K d.cls)
  iC : PySem.W.findIn K (.ref (He.ga K d.cls)) "__init__" = some (some (.ref (He.fAd K d.at_)))
  tI : PySem.W.typeIn K (.ref (He.fAd K d.at_)) = some (.type "function")
theorem iniK_of {K : PySem.W.Frag} {main : Str} {d : IniD} (e : fnC K d.at_ = d.val) (c : d.ok K main = true) : IniK K main d := by
  unfold IniD.ok at c
  unfold fnC at e
  cases q : K.lookup (He.fAd K d.at_) with
  | none => rw [q] at c; cases c
  | some o =>
    obtain ⟨oc, od, dt, osl⟩ := o
    rw [q] at c e
    cases dt with
    | func fd =>
      obtain ⟨n1, n2, n3, n4, n5, n6, n7, n8, n9, n10, n11, n12, n13, n14, n15⟩ := fd
      have e2 : (some (n1, n2, n3, n4, n5, n6, n7.map (·.1), n8, n15) : FnC) = some (("__init__" : Str), d.qual, d.params, FuncBody.stmts d.body, d.scope, mainGlobals, [("__class__" : Str)], Value.none, builtinsNs) := e
      simp only [Option.some.injEq, Prod.mk.injEq] at e2
      obtain ⟨h1, h2, h3, h4, h5, h6, h7, h8, h9⟩ := e2
      subst h1 h2 h3 h4 h5 h6 h8 h9
      cases n7 with
      | nil => cases h7
      | cons p r =>
        cases r with
        | cons _ _ => simp at h7
        | nil =>
          obtain ⟨pn, cc⟩ := p
          have hpn : pn = "__class__" := by simpa using h7
          subst hpn
          cases n13 with
          | ref cda =>
            obtain ⟨c1, c⟩ := He.ba c
            obtain ⟨c2, c⟩ := He.ba c
            obtain ⟨c3, c4⟩ := He.ba c
            obtain ⟨g1, g2, g3, g4, g5, g6, g7, g8, g9, g10, g11, g12⟩ := of_decide_eq_true c4
            refine ⟨⟨oc, od, _, _, _, _, cda, _, cc, osl, q, c1, ?_, ?_, g1, g2, g3, g4, g5⟩, ⟨oexOk_ok g12, g6, g7, g8, g9⟩, g10, g11⟩
            · split at c2
              · rename_i cl cld v csl hc
                have := of_decide_eq_true c2
                subst this
                exact ⟨_, _, _, hc⟩
              · cases c2
            · split at c3
              · rename_i ccl cdd vs ccs hc
                split at c3
                · rename_i x tf hv
                  have := of_decide_eq_true c3
                  subst this
                  exact ⟨_, _, _, _, tf, hc, hv⟩
                · cases c3
              · cases c3
          | _ => cases c
    | _ => cases c
/-! ### the Hook -/
abbrev AlI : Type := He.AlD × Bool × List FnC
structure SaysI (fa : List He.Fa) (fn : List He.DefD) (fx : List Fx) (main : Str) (ins : List IniD) (K : PySem.W.Frag) : Prop where
  c : He.SaysD fa fn K
  x : allFx fx K = true
  i : ∀ d ∈ ins, IniK K main d
def obsI (fa : List He.Fa) (fn : List He.DefD) (fx : List Fx) (main : Str) (ins : List IniD) (K : PySem.W.Frag) : AlI := (He.obsD fa fn K, allFx fx K && ins.all (fun d => d.ok K main), ins.map fun d => fnC K d.at_)
def asI (g : Addr → Option Obj) (n : Nat) : List Addr := cStatics :: He.asD g n
theorem saysI_of {fa : List He.Fa} {fn : List He.DefD} {fx : List Fx} {main : Str} {ins : List IniD} {K : PySem.W.Frag} (e : obsI fa fn fx main ins K = (He.valD fn, true, ins.map IniD.val)) : SaysI fa fn fx main ins K := by
  have e1 : He.obsD fa fn K = He.valD fn := congrArg (fun z : AlI => z.1) e
  have e2 : (allFx fx K && ins.all (fun d => d.ok K main)) = true := congrArg (fun z : AlI => z.2.1) e
  have e3 : ins.map (fun d => fnC K d.at_) = ins.map IniD.val := congrArg (fun z : AlI => z.2.2) e
  obtain ⟨h1, h2⟩ := He.ba e2
  refine ⟨e1, h1, fun d hd => iniK_of ?_ (List.all_eq_true.mp h2 d hd)⟩
  obtain ⟨n, hn, rfl⟩ := List.mem_iff_getElem.mp hd
  have := congrArg (fun l : List FnC => l[n]?) e3
  simp only [List.getElem?_map, List.getElem?_eq_getElem hn, Option.map_some, Option.some.injEq] at this
  exact this
def hookI (n : Nat) (fa : List He.Fa) (fn : List He.DefD) (fx : List Fx) (main : Str) (ins : List IniD) : PySem.W.Hook where
  α := AlI
  obs := fun s => obsI fa fn fx main ins (He.frG s.heap.get? (asI s.heap.get? n))
  val := fun _ => (He.valD fn, true, ins.map IniD.val)
  says := fun _ h => ∃ K : PySem.W.Frag, K.In h ∧ SaysI fa fn fx main ins K
  of := fun _ _ e => ⟨_, He.frG_in, saysI_of e⟩
  keeps := fun _ _ _ ⟨K, hK, c⟩ k => ⟨K, PySem.W.Frag.In.keeps hK k, c⟩
def obsIG (n : Nat) (fa : List He.Fa) (fn : List He.DefD) (fx : List Fx) (main : Str) (ins : List IniD) (g : Addr → Option Obj) : AlI := obsI fa fn fx main ins (He.frG g (asI g n))
theorem obsIG_eq {n : Nat} {fa : List He.Fa} {fn : List He.DefD} {fx : List Fx} {main : Str} {ins : List IniD} {g : Addr → Option Obj} {s : Shared} (h : ∀ a, g a = s.heap.get? a) : obsIG n fa fn fx main ins g = (hookI n fa fn fx main ins).obs s := by
  have e : g = s.heap.get? := funext h
  rw [e] <;> rfl
/-! ### a def that makes an error -/
/-- the mirror of an __init__: of the arguments the fields -/
abbrev XM := List D → Store → Option (List (Str × D) × Store)
def HasX (P : Program) (w : World) (K : PySem.W.Frag) (mg : Str → Option Value) (base : Heap) (k : Nat) (c : Str) (n : Nat) (mk : XM) : Prop :=
  OexC K (He.ga K c) ∧ PySem.W.findIn K (.ref (He.ga K c)) "__init__" = some (some (.ref (He.fAd K (c, some "__init__")))) ∧ PySem.W.typeIn K (.ref (He.fAd K (c, some "__init__"))) = some (.type "function") ∧
  ∃ fd ps sp, FnOk P w K mg base (L2.CX P w) k (He.fAd K (c, some "__init__")) fd ps sp ∧ Binds K fd ps [] ∧ ∀ (S : Hp) (r : Rg) (O : Store) (H : Hp) (a : Addr) (ds : List D) (ws : List V) (fs : List (Str × D)) (O' : Store) (Qx : Option Addr → Hp → Prop) (E : XK), Rs K (He.ga K) S r O H → RpAll K S r ds ws → ds.length = n → H a = none → mk ds O = some (fs, O') →
    EndI K (He.ga K) S r O' fs Qx → sp (V.ref a :: ws) (upd H a (exo a (He.ga K c) none)) (QI a (He.ga K c) H Qx) E
def sRaiseX (c : Str) (n : Nat) (mk : XM) (t : AM) : SM := fun L O => ofRes L (t L O) fun ds O1 => if ds.length = n ∧ n ≤ 1000 then (match mk ds O1 with
  | some p => .exc ⟨c, some p.1⟩ L p.2
  | none => .bad) else .bad
theorem ds_raiseX {X : Cx} {J : JP} {W : WX} {k n : Nat} {c x : Str} {mk : XM} {p p2 pos : Pos} {e : Expr} {es : List Expr} {mt : AM} (hc : X.calm = true) (tk : Takes X W) (F : HasX X.prog X.w X.K X.mg X.base k c n mk) (hr : Room (k + 1) X.A) (hg : Gl X x) (hm : X.mg x = some (.ref (He.ga X.K c))) (ha : PA X (e :: es) (tA X.K (He.ga X.K) J W mt))
    (hdb : (x == ("__debug__" : Str)) = false := by decide) (he : starEach (e :: es) X.env = (false, eval e X.env) :: starEach es X.env := by rfl) (hpl : (backTo p2 (starEach es X.env)).any (·.1) = false := by rfl) :
    PS X (.Raise (some (.Call (.Name x p) (e :: es) [] p2)) none pos) (tS X.K (He.ga X.K) J W (sRaiseX c n mk mt)) := by
  obtain ⟨T, iC, tI, fd, ps, sp, F1, hb, hsp⟩ := F
  have hx : Passes (L2.CX X.prog X.w) X (fun _ _ _ => False) := fun pins σ H s e s' I c => by
    obtain ⟨_, _, _, _, _, _, _, _, _, _, _, _, z⟩ := c
    exact z.elim
  refine ps_imp (ps_raise hc tk (pmk_oex T iC tI F1 hr hb .nil hx hg hm ha hdb he hpl)) ?_
  rintro En σ H ⟨S, r, L, O, j, rl, rs, z⟩
  refine ⟨S, r, L, O, j, rl, rs, (bindS j rl z).imp ?_⟩
  rintro vs H1 ⟨S1, r1, ds, O1, e1, q1, p1, k1⟩
  split at k1
  · rename_i hn
    split at k1
    · rename_i fp hmk
      refine ⟨by rw [p1.length, hn.1]; exact hn.2, fun a ha => ?_⟩
      rw [List.append_nil]
      refine hsp S1 r1 O1 H1 a ds vs fp.1 fp.2 (fun d H' => W (.ref (He.ga X.K c)) d σ H') _ q1 p1 hn.1 ha hmk ⟨fun S2 r2 H4 dd gs e2 q2 hdd pg => ?_⟩
      exact k1 S2 r2 σ H4 (some dd) e2 (J.mono (e1.trans e2).s j) (rl.mono (e1.trans e2)) q2 ⟨dd, gs, rfl, hdd, pg⟩
    · exact k1.elim
  · exact k1.elim
end DK
end
section
set_option Elab.async false
set_option linter.all false
set_option autoImplicit false
set_option maxRecDepth 100000
set_option maxHeartbeats 4000000
/-! DKTry: except clauses that take errors with fields. -/
namespace DK
open PySem L2

/-- a flat value's place -/
theorem flat_rp {K : PySem.W.Frag} {S : Hp} {r : Rg} {d : D} {v : V} (h : flatOf d = some v) : Rp K S r d v := by
  cases d <;> cases h <;> exact rfl
def flatFs : List (Str × D) → Option (List (Str × V))
  | [] => some []
  | (f, d) :: r => match flatOf d, flatFs r with
    | some v, some vs => some ((f, v) :: vs)
    | _, _ => none
theorem flatFs_rp {K : PySem.W.Frag} {S : Hp} {r : Rg} : ∀ {fs : List (Str × D)} {gs us : List (Str × V)}, flatFs fs = some us → RpP K S r fs gs → gs = us
  | [], gs, us, h, p => by cases h; exact p
  | (f, d) :: fs, gs, us, h, p => by
    obtain ⟨v, gr, rfl, h1, h2⟩ := p
    unfold flatFs at h
    split at h
    · rename_i u vs e1 e2
      cases h
      rw [flatFs_rp e2 h2, (flatOf_ok e1 h1).1]
    · cases h
theorem flatFs_look {f : Str} {d : D} : ∀ {fs : List (Str × D)} {us : List (Str × V)}, flatFs fs = some us → fs.lookup f = some d → ∃ v, us.lookup f = some v ∧ flatOf d = some v
  | [], us, h, e => by cases e
  | (g, x) :: fs, us, h, e => by
    unfold flatFs at h
    split at h
    · rename_i u vs e1 e2
      cases h
      rw [List.lookup_cons] at e ⊢
      cases hb : f == g with
      | true => rw [hb] at e; cases e; exact ⟨u, rfl, e1⟩
      | false => rw [hb] at e; exact flatFs_look e2 e
    · cases h
/-- the error's own dict, if it has one -/
def XfR (x : Exn) (od : Option Addr) (S : Hp) : Prop := match x.fs with
  | none => od = none
  | some fs => ∃ dd us, od = some dd ∧ S dd = some (.xd us) ∧ flatFs fs = some us
theorem XfR.mono {x : Exn} {od : Option Addr} {S S' : Hp} (e : Same S S') (h : XfR x od S) : XfR x od S' := by
  unfold XfR at *
  split at h
  · exact h
  · obtain ⟨dd, us, h1, h2, h3⟩ := h
    exact ⟨dd, us, h1, e _ _ h2, h3⟩
def okX (x : Exn) : Bool := match x.fs with
  | none => true
  | some fs => (flatFs fs).isSome
theorem xfR_of {K : PySem.W.Frag} {S : Hp} {r : Rg} {x : Exn} {d : Option Addr} (h : ExR K S r x d) (o : okX x = true) : XfR x d S := by
  obtain ⟨c, fs⟩ := x
  cases fs with
  | none => exact h
  | some fs =>
    obtain ⟨dd, gs, h1, h2, h3⟩ := h
    obtain ⟨us, hu⟩ := Option.isSome_iff_exists.mp (show (flatFs fs).isSome = true from o)
    rw [flatFs_rp hu h3] at h2
    exact ⟨dd, us, h1, h2, hu⟩
def Jf (i : Nat) (a : Addr) (x : Exn) (od : Option Addr) : JP := ⟨fun σ S => σ[i]? = some (some (.ref a)) ∧ XfR x od S, fun e h => ⟨h.1, h.2.mono e⟩⟩
def Jn (x : Exn) (od : Option Addr) : JP := ⟨fun _ S => XfR x od S, fun e h => h.mono e⟩
def sTryE (subc : Str → Option Bool) (oi : Option Nat) (b : SM) (suite : Exn → SM) : SM := fun L O => match b L O with
  | .next L1 O1 => .next L1 O1
  | .ret d O1 => .ret d O1
  | .brk L1 O1 => .brk L1 O1
  | .cnt L1 O1 => .cnt L1 O1
  | .exc x L1 O1 => match subc x.cls with
    | some true => if okX x = true then (match oi with
      | some i => if i < L1.length then (match suite x (L1.set i none) O1 with
        | .next L2 O2 => .next (L2.set i none) O2
        | .ret d O2 => .ret d O2
        | .brk L2 O2 => .brk (L2.set i none) O2
        | .cnt L2 O2 => .cnt (L2.set i none) O2
        | _ => .bad) else .bad
      | none => (match suite x L1 O1 with
        | .next L2 O2 => .next L2 O2
        | .ret d O2 => .ret d O2
        | .brk L2 O2 => .brk L2 O2
        | .cnt L2 O2 => .cnt L2 O2
        | _ => .bad)) else .bad
    | some false => .exc x L1 O1
    | none => .bad
  | .bad => .bad
section
variable {X : Cx} {ad : Str → Addr} {W : WX} {pos pos' p p2 np : Pos} {e : Expr} {es : List Expr} {mt : AM} {c : Str} {body suite : List Stmt} {b0 : Stmt} {sb : SM} {ss : Exn → SM}
theorem ds_tryE_as {x n : Str} {i : Nat} {cv : Value} {subc : Str → Option Bool} (hs : X.stack = X.env :: X.outer) (hf : X.env.frame = some X.env.locals) (hN : X.N.Nodup) (hi : X.N[i]? = some n) (hln : X.env.kindOf n = some .local) (hc : Names X x cv) (tk : Takes X W)
    (hsub : ∀ nm b, subc nm = some b → PySem.W.exmOne X.K (.ref (ad nm)) cv = some b)
    (hb : ∀ (W : WX) (pn : List (Addr × Obj)) (xe : Value → Shared → Prop), Takes (X.tr pn xe) W → PassesOwn (model X.prog X.w) X.A X.env xe → PSs (X.tr pn xe) body (tS X.K ad JT W sb))
    (hsu : ∀ (y : Exn) (a : Addr) (od : Option Addr) (oe : Obj) (pn : List (Addr × Obj)), subc y.cls = some true → Zc (.ref (ad y.cls)) od oe → (∃ vs, oe.data = .fields vs) → PSs (X.suite a ((a, oe) :: pn)) (b0 :: suite) (tS X.K ad (Jf i a y od) WF (ss y))) :
    PS X (.Try body [.ExceptHandler (some (.Name x np)) (some n) (b0 :: suite) pos'] [] [] pos) (tS X.K ad JT W (sTryE subc (some i) sb ss)) := by
  refine ps_imp (ps_try_as (i := i) (tb := fun W => tS X.K ad JT W sb) (ts := fun a cls d En σ H => ∃ y : Exn, (cls = .ref (ad y.cls) ∧ subc y.cls = some true) ∧ tS X.K ad (Jf i a y d) WF (ss y) En σ H) hs hf hN hi hln hc tk hb ?_) ?_
  · intro a oe cls d pn hz hfl
    exact pss_ex fun y hp => by
      obtain ⟨rfl, h3⟩ := hp
      exact hsu y a d oe pn h3 hz hfl
  rintro En σ H ⟨S, r, L, O, j, rl, rs, z⟩
  refine ⟨S, r, L, O, j, rl, rs, ?_⟩
  unfold sTryE at z
  generalize sb L O = q at z
  cases q with
  | next L O => exact z
  | ret L O => exact z
  | brk L O => exact z
  | cnt L O => exact z
  | bad => exact z.elim
  | exc y L1 O1 =>
    intro S1 r1 σ1 H1 d e1 j1 l1 s1 hd
    cases hsc : subc y.cls with
    | none => simp only [hsc] at z; exact z.elim
    | some b =>
      simp only [hsc] at z
      refine ⟨b, hsub _ b hsc, fun hbt a ha => ?_, fun hbf => ?_⟩
      · subst hbt
        simp only at z
        split at z
        · rename_i ho
          split at z
          · rename_i hil
            refine ⟨y, ⟨rfl, hsc⟩, S1, r1, L1.set i none, O1, ⟨List.getElem?_set_self (by rw [l1.len]; exact hil), xfR_of hd ho⟩, l1.wipe i _, s1, ?_⟩
            generalize ss y (L1.set i none) O1 = q at z
            cases q with
            | next L2 O2 => exact fun S2 r2 σ2 H2 e2 j2 l2 s2 => z S2 r2 _ H2 (e1.trans e2) trivial (l2.wipe i none) s2
            | ret d O2 => exact fun S2 r2 H2 v e2 s2 p2 => z S2 r2 H2 v (e1.trans e2) s2 p2
            | brk L2 O2 => exact fun S2 r2 σ2 H2 e2 j2 l2 s2 => z S2 r2 _ H2 (e1.trans e2) trivial (l2.wipe i none) s2
            | cnt L2 O2 => exact fun S2 r2 σ2 H2 e2 j2 l2 s2 => z S2 r2 _ H2 (e1.trans e2) trivial (l2.wipe i none) s2
            | exc x L2 O2 => exact z.elim
            | bad => exact z.elim
          · exact z.elim
        · exact z.elim
      · subst hbf
        exact z S1 r1 σ1 H1 d e1 j1 l1 s1 hd
/-- err.f -/
def mXf (y : Exn) (f : Str) : EM := fun _ O => match y.fs with
  | some fs => match fs.lookup f with
    | some d => .ok d O
    | none => .bad
  | none => .bad
theorem de_xf {y : Exn} {a : Addr} {od : Option Addr} {oe : Obj} {pn : List (Addr × Obj)} {ex f : Str} {i : Nat} (T : XfC X.K (ad y.cls)) (hno : PySem.W.findIn X.K (.ref (ad y.cls)) f = some none) (hz : Zc (.ref (ad y.cls)) od oe) (hf : ∃ vs, oe.data = .fields vs) (hv : PE (X.suite a ((a, oe) :: pn)) (.Name ex p) (tVar i))
    (hb : attributeBase (.Name ex p) f X.env (eval (.Name ex p) X.env) = eval (.Name ex p) X.env := by rfl) : PE (X.suite a ((a, oe) :: pn)) (.Attribute (.Name ex p) f pos) (tE X.K ad (Jf i a y od) WF (mXf y f)) := by
  refine pe_imp (pe_xf T hno hz hf hv hb) ?_
  rintro σ H Q ⟨S, r, L, O, ⟨j1, j2⟩, rl, rs, z⟩
  obtain ⟨c, fs⟩ := y
  cases fs with
  | none => exact z.elim
  | some fs =>
    obtain ⟨dd, us, h1, h2, h3⟩ := j2
    replace z : Post X.K ad (fun S r => Rp X.K S r) WF σ S r Q (match fs.lookup f with | some d => .ok d O | none => .bad) := z
    split at z
    · rename_i d hd
      obtain ⟨v, hv1, hv2⟩ := flatFs_look h3 hd
      exact ⟨.ref a, j1, rfl, rfl, dd, us, v, h1, rs.sub _ _ h2, hv1, z S r H v (Ext.refl _ _) rs (flat_rp hv2)⟩
    · exact z.elim
theorem ds_tryE {x : Str} {cv : Value} {subc : Str → Option Bool} (hs : X.stack = X.env :: X.outer) (hf : X.env.frame = some X.env.locals) (hc : Names X x cv) (tk : Takes X W)
    (hsub : ∀ nm b, subc nm = some b → PySem.W.exmOne X.K (.ref (ad nm)) cv = some b)
    (hb : ∀ (W : WX) (pn : List (Addr × Obj)) (xe : Value → Shared → Prop), Takes (X.tr pn xe) W → PassesOwn (model X.prog X.w) X.A X.env xe → PSs (X.tr pn xe) body (tS X.K ad JT W sb))
    (hsu : ∀ (y : Exn) (a : Addr) (od : Option Addr) (oe : Obj) (pn : List (Addr × Obj)), subc y.cls = some true → Zc (.ref (ad y.cls)) od oe → (∃ vs, oe.data = .fields vs) → PSs (X.suite a ((a, oe) :: pn)) (b0 :: suite) (tS X.K ad (Jn y od) WF (ss y))) :
    PS X (.Try body [.ExceptHandler (some (.Name x np)) none (b0 :: suite) pos'] [] [] pos) (tS X.K ad JT W (sTryE subc none sb ss)) := by
  refine ps_imp (ps_try_only (tb := fun W => tS X.K ad JT W sb) (ts := fun a cls d En σ H => ∃ y : Exn, (cls = .ref (ad y.cls) ∧ subc y.cls = some true) ∧ tS X.K ad (Jn y d) WF (ss y) En σ H) hs hf hc tk hb ?_) ?_
  · intro a oe cls d pn hz hfl
    exact pss_ex fun y hp => by
      obtain ⟨rfl, h3⟩ := hp
      exact hsu y a d oe pn h3 hz hfl
  rintro En σ H ⟨S, r, L, O, j, rl, rs, z⟩
  refine ⟨S, r, L, O, j, rl, rs, ?_⟩
  unfold sTryE at z
  generalize sb L O = q at z
  cases q with
  | next L O => exact z
  | ret L O => exact z
  | brk L O => exact z
  | cnt L O => exact z
  | bad => exact z.elim
  | exc y L1 O1 =>
    intro S1 r1 σ1 H1 d e1 j1 l1 s1 hd
    cases hsc : subc y.cls with
    | none => simp only [hsc] at z; exact z.elim
    | some b =>
      simp only [hsc] at z
      refine ⟨b, hsub _ b hsc, fun hbt a ha => ?_, fun hbf => ?_⟩
      · subst hbt
        simp only at z
        split at z
        · rename_i ho
          refine ⟨y, ⟨rfl, hsc⟩, S1, r1, L1, O1, xfR_of hd ho, l1, s1, ?_⟩
          generalize ss y L1 O1 = q at z
          cases q with
          | next L2 O2 => exact fun S2 r2 σ2 H2 e2 j2 l2 s2 => z S2 r2 _ H2 (e1.trans e2) trivial l2 s2
          | ret d O2 => exact fun S2 r2 H2 v e2 s2 p2 => z S2 r2 H2 v (e1.trans e2) s2 p2
          | brk L2 O2 => exact fun S2 r2 σ2 H2 e2 j2 l2 s2 => z S2 r2 _ H2 (e1.trans e2) trivial l2 s2
          | cnt L2 O2 => exact fun S2 r2 σ2 H2 e2 j2 l2 s2 => z S2 r2 _ H2 (e1.trans e2) trivial l2 s2
          | exc x L2 O2 => exact z.elim
          | bad => exact z.elim
        · exact z.elim
      · subst hbf
        exact z S1 r1 σ1 H1 d e1 j1 l1 s1 hd
end
/-! ### isinstance of an error, whatever its own dict -/
section
open PySem.W
variable {pr : Program} {wd : World} {Ar : Around} {Er : Value → Shared → Prop} {st : Shared} {Kf : Frag} {ex D : Addr} {oex : Obj} {odx : Option Obj}
theorem found_cls {C : Addr} {at1 g1 : Value} (hc : (clsIn Kf C).isSome = true) (ha : findIn Kf (.ref C) "__class__" = some (some at1)) (hg : specialIn Kf at1 "__get__" = some (some g1)) (ht : takesIn Kf at1 = some true) : findObj Kf C odx "__class__" = some (.bind g1 at1) := by
  obtain ⟨cd, hc⟩ := Option.isSome_iff_exists.mp hc
  unfold findObj
  rw [hc, Option.bind_some, ha, Option.bind_some]
  simp [hg, ht]
theorem class_of_exc {Q : Option Value → Shared → Prop} (C : ExcC Kf D) (KI : Kf.In st.heap) (I : InstAt st.heap ex oex D odx) (h : Q (some (.ref D)) { st with toks := st.toks + 1 }) : wpAny (model pr wd) Ar (getAttr? (.ref ex) "__class__") Q Er st := by
  have hf : findObj Kf D odx "__class__" = some (.bind (.builtin "getset_descriptor.__get__") (.builtin "object.__class__")) := found_cls (by obtain ⟨cd, hc, _⟩ := any_some C.hd; rw [hc]; rfl) C.ha C.hn C.ht
  obtain ⟨hh, gg, dd, tt, oo⟩ := st
  have T0 := I.type (M := model pr wd)
  have T1 := looks_findIn (M := model pr wd) KI C.hg
  have T2 := looks_findIn (M := model pr wd) KI C.hk
  have T3 := looks_find (M := model pr wd) KI I hf
  have isE : Looks (model pr wd) hh (isInstance (.ref ex) (.type "BaseException")) true := T0.andThen (looks_subIn KI C.hs)
  have b0 : (false && onTheHeap (Value.builtin "BaseException.__getattribute__")) = false := rfl
  have b2 : (Value.builtin "BaseException.__getattribute__" == Value.builtin "object.__getattribute__") = false := by decide +kernel
  have b1 : (onTheHeap (Value.ref D) && Value.builtin "BaseException.__getattribute__" == Value.builtin "object.__getattribute__") = false := by
    rw [b2]
    rfl
  unfold getAttr? getAttrBy? getAttrBy
  refine wpAny_bind (wpAny_mkText (wpAny_bind (wpAny_attempt (wpAny_holding (wpAny_bind (T0.at (wpAny_bind (T1.at ?_))))))))
  show wpAny _ _ (ite ((onTheHeap (Value.ref D) && Value.builtin "BaseException.__getattribute__" == Value.builtin "object.__getattribute__") = true) _ _) _ _ _
  rw [b1, if_neg Bool.false_ne_true]
  unfold getAttrByItsOwn hookBefore
  refine wpAny_bind ?_
  rw [if_pos (show onTheHeap (Value.ref D) = true from rfl)]
  refine T2.at ?_
  refine wpAny_bind (wpAny_attempt (wpAny_holding ?_))
  unfold callGetattribute
  rw [b0, if_neg Bool.false_ne_true]
  unfold boundAndCalled
  rw [PySem.F.excAttr_ValueError.ga.bind (.ref ex)]
  refine wpAny_bind (wpAny_pure ?_)
  show wpAny _ _ (call (.builtin "BaseException.__getattribute__") [.ref ex, .str "__class__" tt]) _ _ _
  refine wpAny_call (codeAny_call_builtin PySem.F.excAttr_ValueError.ga.plain PySem.F.entry_bexc_ga ?_)
  refine @check_slot (model pr wd) _ _ ⟨hh, gg, dd, tt + 1, oo⟩ "BaseException.__getattribute__" "BaseException" "__getattribute__" (.ref ex) [.str "__class__" tt] [] _ (by decide +kernel) (by decide +kernel) isE (PySem.F.args_bexc_ga (.ref ex) (.str "__class__" tt)) ?_
  unfold Builtin.«object.__getattribute__»
  refine wpAny_bind (wpAny_of_eq (a := ((Value.ref ex : Value), [Value.str "__class__" tt])) (by first | rfl | (simp only [slotArgs]; rfl)) ?_)
  refine wpAny_bind (wpAny_pure (wpAny_bind (T0.at (wpAny_bind (T3.at ?_)))))
  show wpAny _ _ (holding [Value.builtin "object.__class__"] (call (.builtin "getset_descriptor.__get__") [.builtin "object.__class__", .ref ex, .ref D]) >>= ret) _ _ _
  refine wpAny_bind (wpAny_holding (wpAny_call (class_get (s := ⟨hh, gg, dd, tt + 1, oo⟩) (ox := oex) (od := odx) KI I C.hm ?_)))
  refine wpAny_pure ?_
  show wpAny _ _ (handedOut (.ref D)) _ _ _
  rw [handedOut_of (v := .ref D) rfl]
  first
    | exact wpAny_pure (wpAny_pure h)
    | exact wpAny_pure h
    | exact wpAny_pure (wpAny_bind (wpAny_pure (wpAny_pure h)))
theorem kitx_of_exc (C : ExcC Kf D) : KitX Kf (.ref ex) (.ref D) (fun h => InstAt h ex oex D odx) where
  ty := fun _ _ _ I => I.type
  it := fun _ _ KI _ => by
    obtain ⟨cdD, hcD, _⟩ := any_some C.hd
    unfold clsIn at hcD
    split at hcD
    · rename_i c' d' cd' sl' ho
      intro A' Q' E' s' k q
      unfold isType loadHead
      exact wpAny_bind (wpAny_loadPart (k _ _ (KI _ _ ho)) (wpAny_pure q))
    · cases hcD
  ne := fun h tp dx its n sl KI htp => by
    obtain ⟨cdD, hcD, _⟩ := any_some C.hd
    refine Bool.eq_false_iff.mpr fun q => ?_
    have e : D = tp := Value.ref.inj (beq_iff_eq.mp q)
    subst e
    unfold clsIn at hcD
    split at hcD
    · rename_i c' d' cd' sl' ho
      have z := (KI _ _ ho).symm.trans htp
      cases z
    · cases hcD
  ca := fun KI I k => class_of_exc C KI I k
end
section
variable {X : Cx} {ad : Str → Addr} {pos p p2 np : Pos}
def rIsX (K : PySem.W.Frag) (D a : Addr) (od : Option Addr) : List V → Hp → VK → Prop := fun xs H Q => ∃ (c : V) (cv : Value) (b : Bool), xs = [.ref a, c] ∧ (∀ u, RelV c u → u = cv) ∧ PySem.W.kitOne K (.ref D) cv = some b ∧ (∀ dd, od = some dd → ∃ us, H dd = some (.xd us)) ∧ Q (.bl b) H
theorem call_isX {a D : Addr} {od : Option Addr} {oe : Obj} {pn : List (Addr × Obj)} (C : ExcC X.K D) (hz : Zc (.ref D) od oe) (hf : ∃ vs, oe.data = .fields vs) : CallR (X.suite a ((a, oe) :: pn)) (.builtin "isinstance") (rIsX X.K D a od) := by
  intro pins s σ H xs us Q I r h
  obtain ⟨c, cv, b, rfl, hcv, e, hd, q⟩ := h
  cases r with
  | cons rx rr =>
    cases rr with
    | cons rt rr =>
      cases rr
      cases rx
      have ec := hcv _ rt
      subst ec
      obtain ⟨hget, _⟩ := I.pin (a, oe) (List.mem_append.mpr (.inl List.mem_cons_self))
      obtain ⟨vs, hv⟩ := hf
      have J : ∃ odx, PySem.W.InstAt s.heap a oe D odx := by
        obtain ⟨oc, od1, oda, osl⟩ := oe
        obtain ⟨h1, h2⟩ := hz
        dsimp only at h1 h2 hv
        subst h1 h2 hv
        cases od1 with
        | none => exact ⟨none, hget, rfl, rfl, trivial⟩
        | some dd =>
          obtain ⟨us2, hu⟩ := hd dd rfl
          have hx : ObjOk X.prog X.w H s.heap dd (.xd us2) := I.hok dd _ hu
          obtain ⟨mA, hns, _⟩ := hx
          obtain ⟨ob, ho, _⟩ := lookIn_ns hns
          exact ⟨some ob, hget, rfl, rfl, ho⟩
      obtain ⟨odx, J⟩ := J
      exact PySem.W.kia_one (kitx_of_exc C) I.kIn J e (fun z => nomatch z) fun tk => ⟨.bl b, H, I.kept (t' := tk) fun _ _ z => z, rfl, q⟩
theorem de_isX {y : Exn} {a : Addr} {od : Option Addr} {oe : Obj} {pn : List (Addr × Obj)} {x ex : Str} {i : Nat} {v : V} {cv : Value} {b : Bool} (C : ExcC X.K (ad y.cls)) (hz : Zc (.ref (ad y.cls)) od oe) (hf : ∃ vs, oe.data = .fields vs) (hv : PE (X.suite a ((a, oe) :: pn)) (.Name ex p) (tVar i)) (hC : PE (X.suite a ((a, oe) :: pn)) (.Name x p2) (tC v))
    (hcv : ∀ u, RelV v u → u = cv) (hk : PySem.W.kitOne X.K (.ref (ad y.cls)) cv = some b) (hg : Gl X "isinstance") (hm : X.mg "isinstance" = none) (hbv : bootBuiltins "isinstance" = some (.builtin "isinstance"))
    (hs1 : starEach (.Name ex p :: [.Name x p2]) X.env = (false, eval (.Name ex p) X.env) :: starEach [.Name x p2] X.env := by rfl) (hs2 : starEach (.Name x p2 :: []) X.env = (false, eval (.Name x p2) X.env) :: starEach [] X.env := by rfl)
    (hpl : (backTo pos (starEach [.Name x p2] X.env)).any (·.1) = false := by rfl) :
    PE (X.suite a ((a, oe) :: pn)) (.Call (.Name "isinstance" np) [.Name ex p, .Name x p2] [] pos) (tE X.K ad (Jf i a y od) WF (mC (.bl b))) := by
  refine pe_imp (pe_callB (X := X.suite a ((a, oe) :: pn)) (call_isX C hz hf) hg hm hbv (pa_cons hv (pa_cons hC pa_nil hs2) hs1) (by decide) (by decide) hs1 hpl) ?_
  rintro σ H Q ⟨S, r, L, O, ⟨j1, j2⟩, rl, rs, q⟩
  refine ⟨.ref a, j1, v, cv, b, rfl, hcv, hk, fun dd hdd => ?_, q S r H _ (Ext.refl _ _) rs rfl⟩
  obtain ⟨c, fs⟩ := y
  cases fs with
  | none =>
    have : od = none := j2
    rw [this] at hdd
    cases hdd
  | some fs =>
    obtain ⟨d2, us, h1, h2, _⟩ := j2
    rw [h1] at hdd
    cases hdd
    exact ⟨us, rs.sub _ _ h2⟩
end
/-! ### an __init__ by its parts -/
def mkOne (N : List Str) (ms : EM) (f1 : Str) (j1 : Nat) : XM := fun ds O => match ms (iniL N ds) O, (iniL N ds)[j1]? with
  | .ok _ O', some (some d1) => some ([(f1, d1)], O')
  | _, _ => none
def mkTwo (N : List Str) (ms : EM) (f1 : Str) (j1 : Nat) (f2 : Str) (j2 : Nat) : XM := fun ds O => match ms (iniL N ds) O, (iniL N ds)[j1]?, (iniL N ds)[j2]? with
  | .ok _ O', some (some d1), some (some d2) => some ([(f2, d2), (f1, d1)], O')
  | _, _, _ => none
section
variable {P : Program} {w : World} {K : PySem.W.Frag} {mg : Str → Option Value} {base : Heap} {main : Str} {d : IniD} {N ps : List Str} {self : Str} {ar : Arg} {e : Expr} {rest : List Stmt} {ms : EM} {p0 p1 apos pos pos2 : Pos} {k : Nat}
theorem hasX_tr {tr : TS} {mk : XM} {n : Nat} (I : IniK K main d) (hbody : d.body = .Expr (.Call (.Attribute (.Call (.Name "super" p0) [] [] p1) "__init__" apos) [e] [] pos) pos2 :: rest) (S : SupScope N ps d.scope) (h0 : N[0]? = some self) (hps : ps.length = n + 1) (hp : (d.params.posonlyargs ++ d.params.args).head? = some ar) (har : ar.arg = self) (hself : d.scope.names.lookup self = some .local)
    (hmain : ((P.main.file : Str) == main) = true) (htop : (P.main.scope.names.lookup ("super" : Str)).isSome = false) (hm : mg "super" = none)
    (hbind : ∀ (f : Addr) (fd : FuncData) (kV doc pm : Value) (an : Option Addr) (cda : Value) (ct : Value) (cc : Addr) (us : List Value), us.length = ps.length → bindArgs (PySem.W.ksFn "__init__" d.qual d.params d.body d.scope .none kV doc pm an cda ct cc) ⟨us, []⟩ = pure (ps.zip us))
    (he : ∀ (f cda cc : Addr) (A : Around) (outer : List Env) (s : Shared) (H : Hp) (E : XK), Room k (A.deeper (PySem.W.ksEnv d.qual d.scope s.heap.objs.size f (.ref cda) cc)) → PE (cxI P w K mg base N d.qual d.scope f (.ref cda) cc A outer s H E) e (tE K (He.ga K) JT WF ms))
    (hrest : ∀ (f cda cc : Addr) (A : Around) (outer : List Env) (s : Shared) (H : Hp) (E : XK), PSs (cxI P w K mg base N d.qual d.scope f (.ref cda) cc A outer s H E) rest tr)
    {pl : Sem Bool} (hev : ∀ f cda cc L : Addr, eval (.Call (.Attribute (.Call (.Name "super" p0) [] [] p1) "__init__" apos) [e] [] pos) (PySem.W.ksEnv d.qual d.scope L f (.ref cda) cc) = (do
      let ov ← attributeBase (.Call (.Name "super" p0) [] [] p1) "__init__" (PySem.W.ksEnv d.qual d.scope L f (.ref cda) cc) (eval (.Call (.Name "super" p0) [] [] p1) (PySem.W.ksEnv d.qual d.scope L f (.ref cda) cc))
      standAt apos.atName
      let (f1, first) ← holding [ov] (getMethod ov "__init__" pl)
      callWith pos f1 first (backTo pos (starEach [e] (PySem.W.ksEnv d.qual d.scope L f (.ref cda) cc))) []))
    (hst : ∀ f cda cc L : Addr, starEach [e] (PySem.W.ksEnv d.qual d.scope L f (.ref cda) cc) = [(false, eval e (PySem.W.ksEnv d.qual d.scope L f (.ref cda) cc))])
    (hsw : ∀ f cda cc L : Addr, swapsWith (.Call (.Attribute (.Call (.Name "super" p0) [] [] p1) "__init__" apos) [e] [] pos) none pos2.line (PySem.W.ksEnv d.qual d.scope L f (.ref cda) cc) = pure false)
    (hint : ∀ f cda cc L : Addr, interactive (PySem.W.ksEnv d.qual d.scope L f (.ref cda) cc) = false)
    (hsp : ∀ (S : Hp) (r : Rg) (O : Store) (H : Hp) (a : Addr) (ds : List D) (ws : List V) (fs : List (Str × D)) (O' : Store) (Qx : Option Addr → Hp → Prop) (E : XK), Rs K (He.ga K) S r O H → RpAll K S r ds ws → ds.length = n → H a = none → mk ds O = some (fs, O') → EndI K (He.ga K) S r O' fs Qx →
      spI N ps (He.ga K d.cls) (tE K (He.ga K) JT WF ms) tr (V.ref a :: ws) (upd H a (exo a (He.ga K d.cls) none)) (QI a (He.ga K d.cls) H Qx) E) :
    HasX P w K mg base (k + 1) d.cls n mk := by
  obtain ⟨oc, od, kV, doc, pm, an, cda, ct, cc, osl, lk, hcd, Z⟩ := I.lk
  refine ⟨I.T, I.iC, I.tI, _, ps, _, fnI_of (kV := kV) (doc := doc) (pm := pm) (ct := ct) (an := an) (main := main) (by rw [hbody] at lk; exact lk) hcd S Z I.T h0 (by omega) hp har hself hmain htop hm (fun A outer s H E hr => he _ cda cc A outer s H E hr) (fun A outer s H E hr => hrest _ cda cc A outer s H E) (fun L => hev _ cda cc L) (fun L => hst _ cda cc L) (fun L => hsw _ cda cc L) (fun L => hint _ cda cc L), ?_, hsp⟩
  exact .all fun us hl => by
    have := hbind (He.fAd K d.at_) (PySem.W.ksFn "__init__" d.qual d.params d.body d.scope .none kV doc pm an (.ref cda) ct cc) kV doc pm an (.ref cda) ct cc us hl
    rw [hbody] at this
    exact this
end
section
variable {K : PySem.W.Frag} {C : Addr} {N ps : List Str} {ms : EM} {n : Nat} {f1 f2 : Str} {j1 j2 : Nat}
theorem hsp_one (T : OexC K C) (hno : PySem.W.findIn K (.ref C) f1 = some none) (hps : ps.length = n + 1) (hN : ps.length ≤ N.length) : ∀ (S : Hp) (r : Rg) (O : Store) (H : Hp) (a : Addr) (ds : List D) (ws : List V) (fs : List (Str × D)) (O' : Store) (Qx : Option Addr → Hp → Prop) (E : XK), Rs K (He.ga K) S r O H → RpAll K S r ds ws → ds.length = n → H a = none → mkOne N ms f1 j1 ds O = some (fs, O') → EndI K (He.ga K) S r O' fs Qx →
    spI N ps C (tE K (He.ga K) JT WF ms) (tOst K f1 (tVar 0) (tVar j1)) (V.ref a :: ws) (upd H a (exo a C none)) (QI a C H Qx) E := fun S r O H a ds ws fs O' Qx E rs p hn ha hmk q => by
  unfold mkOne at hmk
  split at hmk
  · rename_i dm O2 d1 h1 h2
    cases hmk
    exact spI_one T hno rs p (by omega) hN ha h1 h2 q
  · cases hmk
theorem hsp_two (T : OexC K C) (hno : PySem.W.findIn K (.ref C) f1 = some none) (hno2 : PySem.W.findIn K (.ref C) f2 = some none) (hps : ps.length = n + 1) (hN : ps.length ≤ N.length) : ∀ (S : Hp) (r : Rg) (O : Store) (H : Hp) (a : Addr) (ds : List D) (ws : List V) (fs : List (Str × D)) (O' : Store) (Qx : Option Addr → Hp → Prop) (E : XK), Rs K (He.ga K) S r O H → RpAll K S r ds ws → ds.length = n → H a = none → mkTwo N ms f1 j1 f2 j2 ds O = some (fs, O') → EndI K (He.ga K) S r O' fs Qx →
    spI N ps C (tE K (He.ga K) JT WF ms) (tSeq (tOst K f1 (tVar 0) (tVar j1)) (tOst K f2 (tVar 0) (tVar j2))) (V.ref a :: ws) (upd H a (exo a C none)) (QI a C H Qx) E := fun S r O H a ds ws fs O' Qx E rs p hn ha hmk q => by
  unfold mkTwo at hmk
  split at hmk
  · rename_i dm O2 d1 d2 h1 h2 h3
    cases hmk
    exact spI_two T hno hno2 rs p (by omega) hN ha h1 h2 h3 q
  · cases hmk
end
theorem free_of {sc : Scope} (h : ∀ p ∈ sc.names, p.2 = .free → p.1 = ("__class__" : Str)) : ∀ y, sc.names.lookup y = some .free → y = "__class__" := fun y hy => h (y, .free) (PySem.mem_of_lookup hy) rfl
structure KnowsI (fa : List He.Fa) (fn : List He.DefD) (fx : List Fx) (main : Str) (ins : List IniD) (K : PySem.W.Frag) (mg : Str → Option Value) : Prop extends Knows fa fn fx K mg where
  i : ∀ d ∈ ins, IniK K main d
theorem xf_of {K : PySem.W.Frag} {C : Addr} (h : ExcC K C) : XfC K C := ⟨h.hg, h.hk, h.hs, h.hd⟩
end DK
end
section
set_option Elab.async false
set_option linter.all false
set_option autoImplicit false
set_option maxRecDepth 100000
set_option maxHeartbeats 4000000
/-! DKLaws: what many laws share, in plain Lean: draws that keep the rest of the store, picks, checked numbers, sameness. -/
namespace DK
open PySem L2
theorem pmono {n a c : Nat} {O : Store} (hac : a ≤ c) : Pool a n O → Pool c n O := fun ⟨ns, z, la, li, k, h, h1, h2, h3, h4, h5, h6, h7⟩ => ⟨ns, z, la, li, k, h, h1, h2, h3, h4, h5, h6, by omega⟩
/-- what a write to the pool's place leaves -/
def Keep (n : Nat) (R : Store → Prop) : Prop := ∀ O P, R O → R (O.set n (.lst P))
theorem keep_at {n i : Nat} {x : Option Ob} (h : i ≠ n) : Keep n fun O => O[i]? = x := fun O P r => by
  show (O.set n (.lst P))[i]? = x
  rw [List.getElem?_set_ne (fun z => h z.symm)]; exact r
theorem keep_and {n : Nat} {R S : Store → Prop} (h : Keep n R) (k : Keep n S) : Keep n fun O => R O ∧ S O := fun O P r => ⟨h O P r.1, k O P r.2⟩
theorem keep_len {n : Nat} {m : Nat → Prop} : Keep n fun O => m O.length := fun O P r => by
  show m (O.set n (.lst P)).length
  rw [List.length_set]; exact r
theorem draw_R {b n : Nat} {O : Store} {R : Store → Prop} {many : Int} (k : Keep n R) (h : Pool b n O) (r : R O) (hm : 0 < many) (hm2 : many ≤ 2 ^ 64) (hb : b ≤ 2 ^ 64) :
    ∃ v O', fDraw [.hdl n, .int many] O = .ok (.int v) O' ∧ 0 ≤ v ∧ v < many ∧ Pool (b + 1) n O' ∧ R O' := by
  obtain ⟨v, P, e, v0, v1, p⟩ := draw_ok h hm hm2 hb
  exact ⟨v, _, e, v0, v1, p, k _ _ r⟩
def bPick : SM := (sRet (mOp gIx (mVar 1) (mFn (arity 2 fDraw) [] (mCons (mVar 0) (mCons (mCall (g1 gLen) (mCons (mVar 1) mNil)) mNil)))))
def fPick : FM := runF 2 bPick
theorem pick_R {b n : Nat} {O : Store} {R : Store → Prop} {ds : List D} (k : Keep n R) (h : Pool b n O) (r : R O) (h0 : 0 < ds.length) (h1 : ds.length ≤ 2 ^ 64) (hb : b ≤ 2 ^ 64) :
    ∃ d O', fPick [.hdl n, .lst ds] O = .ok d O' ∧ d ∈ ds ∧ Pool (b + 1) n O' ∧ R O' := by
  obtain ⟨v, O', e, v0, v1, hp, hr⟩ := draw_R (many := ds.length) k h r (by omega) (by omega) hb
  obtain ⟨d, hd⟩ : ∃ d, ds[v.toNat]? = some d := ⟨ds[v.toNat]'(by omega), List.getElem?_eq_getElem _⟩
  have hi : atI ds v = some d := atI_nat v0 hd
  refine ⟨d, O', ?_, List.mem_of_getElem? hd, hp, hr⟩
  simp [fPick, bPick, runF, sSeq, sIf, sNext, sDrop, sRet, sRetN, sAsg, ofRes, ofB, bName, bNil, bCons, bTup, bLst, bSubL, mTest, mOp, mVar, mC, mChain, mAnd, mOr, mNot, mIf, mAndV, mOrV, mNotV, mNeg, mCons, mNil, mTup, mLst, newL, mCall, mFn, arity, g1, g2, gLen, gInt, gAbs, gMax2, gMin2, gIx, seqOf, lsqOf, lstOf, Res.bind, ofO, gAdd_ok, gSub_ok, gEq_int, gNe_int, gLt_int, gLe_int, gGt_int, gGe_int, gEq_bl, gNe_bl, gEq_str, gNe_str, mIsi, mIsiT, tyD, kitL, kitTab, atI_c0, atI_c1, atI_c2, atI_c3, atI_c4, sForR1, int1, int2, mMeth, mMake, mFld, sFldM, gIs, gIsNot, isNon_t, sRaise, gList, newLO, e, hi]
/-! ### checked numbers -/
def bIsNum : SM := (sSeq (sIf (mOr (mTest (mIsi "bool" (mVar 0))) (mNot (mTest (mIsi "int" (mVar 0))))) (sRet (mC (.bl false))) sNext)
    (sRet (mChain gLe gLe (mVar 1) (mVar 0) (mVar 2))))
def fIsNum : FM := runF 3 bIsNum
def bChk : SM := (sSeq (sIf (mNot (mTest (mFn (arity 3 fIsNum) [] (mCons (mVar 0) (mCons (mVar 1) (mCons (mVar 2) mNil)))))) (sRaise "InvalidNumber" (mCons (mOp (gAdd false) (mOp (gAdd false) (mOp (gAdd false) (mC (.str "no number from ")) (mCall (g1 gStr) (mCons (mVar 1) mNil))) (mC (.str " to "))) (mCall (g1 gStr) (mCons (mVar 2) mNil))) mNil)) sNext)
    (sRet (mVar 0)))
def fChk : FM := runF 3 bChk
theorem chk_yes {O : Store} {v a c : Int} (h0 : a ≤ v) (h1 : v ≤ c) : fChk [.int v, .int a, .int c] O = .ok (.int v) O := by
  simp [fChk, bChk, fIsNum, bIsNum, runF, sSeq, sIf, sNext, sDrop, sRet, sRetN, sAsg, ofRes, ofB, bName, bNil, bCons, bTup, bLst, bSubL, mTest, mOp, mVar, mC, mChain, mAnd, mOr, mNot, mIf, mAndV, mOrV, mNotV, mNeg, mCons, mNil, mTup, mLst, newL, mCall, mFn, arity, g1, g2, gLen, gInt, gAbs, gMax2, gMin2, gIx, seqOf, lsqOf, lstOf, Res.bind, ofO, gAdd_ok, gSub_ok, gEq_int, gNe_int, gLt_int, gLe_int, gGt_int, gGe_int, gEq_bl, gNe_bl, gEq_str, gNe_str, mIsi, mIsiT, tyD, kitL, kitTab, atI_c0, atI_c1, atI_c2, atI_c3, atI_c4, sForR1, int1, int2, mMeth, mMake, mFld, sFldM, gIs, gIsNot, isNon_t, sRaise, gList, newLO, h0, h1]
/-- the bound's text can be told -/
def MsgOk (a c : Int) : Prop := ∃ z, ∀ (d : D) (O : Store), (mCons (mOp (gAdd false) (mOp (gAdd false) (mOp (gAdd false) (mC (.str "no number from ")) (mCall (g1 gStr) (mCons (mVar 1) mNil))) (mC (.str " to "))) (mCall (g1 gStr) (mCons (mVar 2) mNil))) mNil) [some d, some (.int a), some (.int c)] O = .ok [z] O
theorem chk_no {O : Store} {d : D} {a c : Int} (m : MsgOk a c) (h : fIsNum [d, .int a, .int c] O = .ok (.bl false) O) : fChk [d, .int a, .int c] O = .exc ⟨"InvalidNumber", none⟩ O := by
  obtain ⟨z, msg⟩ := m
  have msg := msg d O
  unfold fChk bChk
  generalize (mCons (mOp (gAdd false) (mOp (gAdd false) (mOp (gAdd false) (mC (.str "no number from ")) (mCall (g1 gStr) (mCons (mVar 1) mNil))) (mC (.str " to "))) (mCall (g1 gStr) (mCons (mVar 2) mNil))) mNil) = m at msg ⊢
  simp [runF, sSeq, sIf, sNext, sDrop, sRet, sRetN, sAsg, ofRes, ofB, bName, bNil, bCons, bTup, bLst, bSubL, mTest, mOp, mVar, mC, mChain, mAnd, mOr, mNot, mIf, mAndV, mOrV, mNotV, mNeg, mCons, mNil, mTup, mLst, newL, mCall, mFn, arity, g1, g2, gLen, gInt, gAbs, gMax2, gMin2, gIx, seqOf, lsqOf, lstOf, Res.bind, ofO, gAdd_ok, gSub_ok, gEq_int, gNe_int, gLt_int, gLe_int, gGt_int, gGe_int, gEq_bl, gNe_bl, gEq_str, gNe_str, mIsi, mIsiT, tyD, kitL, kitTab, atI_c0, atI_c1, atI_c2, atI_c3, atI_c4, sForR1, int1, int2, mMeth, mMake, mFld, sFldM, gIs, gIsNot, isNon_t, sRaise, gList, newLO, h, msg]
theorem isnum_out {O : Store} {v a c : Int} (h : v < a ∨ c < v) : fIsNum [.int v, .int a, .int c] O = .ok (.bl false) O := by
  by_cases h1 : a ≤ v
  · have h2 : ¬ v ≤ c := by omega
    simp [fIsNum, bIsNum, runF, sSeq, sIf, sNext, sDrop, sRet, sRetN, sAsg, ofRes, ofB, bName, bNil, bCons, bTup, bLst, bSubL, mTest, mOp, mVar, mC, mChain, mAnd, mOr, mNot, mIf, mAndV, mOrV, mNotV, mNeg, mCons, mNil, mTup, mLst, newL, mCall, mFn, arity, g1, g2, gLen, gInt, gAbs, gMax2, gMin2, gIx, seqOf, lsqOf, lstOf, Res.bind, ofO, gAdd_ok, gSub_ok, gEq_int, gNe_int, gLt_int, gLe_int, gGt_int, gGe_int, gEq_bl, gNe_bl, gEq_str, gNe_str, mIsi, mIsiT, tyD, kitL, kitTab, atI_c0, atI_c1, atI_c2, atI_c3, atI_c4, sForR1, int1, int2, mMeth, mMake, mFld, sFldM, gIs, gIsNot, isNon_t, sRaise, gList, newLO, h1, h2]
  · simp [fIsNum, bIsNum, runF, sSeq, sIf, sNext, sDrop, sRet, sRetN, sAsg, ofRes, ofB, bName, bNil, bCons, bTup, bLst, bSubL, mTest, mOp, mVar, mC, mChain, mAnd, mOr, mNot, mIf, mAndV, mOrV, mNotV, mNeg, mCons, mNil, mTup, mLst, newL, mCall, mFn, arity, g1, g2, gLen, gInt, gAbs, gMax2, gMin2, gIx, seqOf, lsqOf, lstOf, Res.bind, ofO, gAdd_ok, gSub_ok, gEq_int, gNe_int, gLt_int, gLe_int, gGt_int, gGe_int, gEq_bl, gNe_bl, gEq_str, gNe_str, mIsi, mIsiT, tyD, kitL, kitTab, atI_c0, atI_c1, atI_c2, atI_c3, atI_c4, sForR1, int1, int2, mMeth, mMake, mFld, sFldM, gIs, gIsNot, isNon_t, sRaise, gList, newLO, h1]
theorem isnum_bl {O : Store} {v : Bool} {a c : Int} : fIsNum [.bl v, .int a, .int c] O = .ok (.bl false) O := by
  simp [fIsNum, bIsNum, runF, sSeq, sIf, sNext, sDrop, sRet, sRetN, sAsg, ofRes, ofB, bName, bNil, bCons, bTup, bLst, bSubL, mTest, mOp, mVar, mC, mChain, mAnd, mOr, mNot, mIf, mAndV, mOrV, mNotV, mNeg, mCons, mNil, mTup, mLst, newL, mCall, mFn, arity, g1, g2, gLen, gInt, gAbs, gMax2, gMin2, gIx, seqOf, lsqOf, lstOf, Res.bind, ofO, gAdd_ok, gSub_ok, gEq_int, gNe_int, gLt_int, gLe_int, gGt_int, gGe_int, gEq_bl, gNe_bl, gEq_str, gNe_str, mIsi, mIsiT, tyD, kitL, kitTab, atI_c0, atI_c1, atI_c2, atI_c3, atI_c4, sForR1, int1, int2, mMeth, mMake, mFld, sFldM, gIs, gIsNot, isNon_t, sRaise, gList, newLO]
/-! ### comprehensions over a range -/
theorem lc_keeps {I : Nat → Store → List D → Prop} {turn : D → Store → List D → Option (Store × List D)} {ds : List D} : ∀ (k i : Nat) (O : Store) (acc : List D), ds.length = i + k → I i O acc →
    (∀ j d O acc, ds[j]? = some d → I j O acc → ∃ O' acc', turn d O acc = some (O', acc') ∧ I (j + 1) O' acc') → ∃ O' acc', lcG (fun i _ => some ds[i]?) turn k i O acc = some (O', acc') ∧ I ds.length O' acc'
  | 0, i, O, acc, h, hI, _ => by
    have e : ds[i]? = none := List.getElem?_eq_none (by omega)
    refine ⟨O, acc, ?_, by rw [show ds.length = i by omega]; exact hI⟩
    unfold lcG
    rw [e]
  | k + 1, i, O, acc, h, hI, st => by
    obtain ⟨d, hd⟩ : ∃ d, ds[i]? = some d := ⟨ds[i]'(by omega), List.getElem?_eq_getElem _⟩
    obtain ⟨O1, acc1, e1, h1⟩ := st i d O acc hd hI
    obtain ⟨O2, acc2, e2, h2⟩ := lc_keeps k (i + 1) O1 acc1 (by omega) h1 st
    refine ⟨O2, acc2, ?_, h2⟩
    unfold lcG
    rw [hd]
    show (match turn d O acc with | some p => lcG (fun i _ => some ds[i]?) turn k (i + 1) p.1 p.2 | none => none) = _
    rw [e1]
    exact e2
theorem rangeD_len (a : Int) (n : Nat) : (rangeD a n).length = n := by simp [rangeD]
/-- [el for k in range(j)], the element one that keeps the invariant -/
theorem lcR1_keeps {I : Nat → Store → List D → Prop} {t : AM} {vs : List Nat} {b : BM} {el : EM} {L : Loc} {O O1 : Store} {j : Int} (ht : t L O = .ok [.int j] O1) (h0 : 0 ≤ j) (h1 : j ≤ 100000) (hI : I 0 O1 []) (hacc : ∀ i O acc, I i O acc → acc.length ≤ 900000)
    (st : ∀ (i : Nat) O acc, (i : Int) < j → I i O acc → ∃ L' y O', b (.int (0 + (i : Int))) (wipeL L vs) O = some (L', O) ∧ el L' O = .ok y O' ∧ I (i + 1) O' (acc ++ [y])) :
    ∃ O' ys, mLcR1 false t vs b mYes el L O = .ok (.lst ys) O' ∧ I j.toNat O' ys := by
  obtain ⟨O2, ys, e, h⟩ := lc_keeps (I := I) (turn := lcTurn vs b mYes el L) (ds := rangeD 0 j.toNat) j.toNat 0 O1 [] (by rw [rangeD_len]; omega) hI fun i d O acc hd hI => by
    have hl := (List.getElem?_eq_some_iff.mp hd).1
    rw [rangeD_len] at hl
    obtain rfl : d = .int (0 + (i : Int)) := by
      unfold rangeD at hd
      rw [List.getElem?_map, List.getElem?_range hl] at hd
      exact (Option.some.inj hd).symm
    obtain ⟨L', y, O', e1, e2, h2⟩ := st i O acc (by omega) hI
    refine ⟨O', acc ++ [y], ?_, h2⟩
    show (match b (.int (0 + (i : Int))) (wipeL L vs) O with
      | some p => (match mYes p.1 p.2 with
        | .ok true O2 => (match el p.1 O2 with
          | .ok y O3 => if acc.length ≤ 900000 then some (O3, acc ++ [y]) else none
          | _ => none)
        | .ok false O2 => some (O2, acc)
        | _ => none)
      | none => none) = _
    rw [e1]
    show (match el L' O with
          | .ok y O3 => if acc.length ≤ 900000 then some (O3, acc ++ [y]) else none
          | _ => none) = _
    rw [e2]
    show (if acc.length ≤ 900000 then some (O', acc ++ [y]) else none) = _
    rw [if_pos (hacc _ _ _ hI)]
  refine ⟨O2, ys, ?_, by rw [rangeD_len] at h; exact h⟩
  show ((t L O).bind fun ds O1 => match int1 ds with
    | some j => lcEnd false (lcG (fun i _ => some (rangeD 0 j.toNat)[i]?) (lcTurn vs b mYes el L) j.toNat 0 O1 [])
    | none => .bad) = _
  rw [ht]
  show (match int1 [.int j] with
    | some j => lcEnd false (lcG (fun i _ => some (rangeD 0 j.toNat)[i]?) (lcTurn vs b mYes el L) j.toNat 0 O1 [])
    | none => .bad) = _
  rw [show int1 [.int j] = some j by simp [int1]; omega]
  show lcEnd false (lcG (fun i _ => some (rangeD 0 j.toNat)[i]?) (lcTurn vs b mYes el L) j.toNat 0 O1 []) = _
  rw [e]
  show newL false ys O2 = _
  have hy := hacc _ _ _ h
  simp [newL]
  omega
/-- a loop over a list of the store that the turns leave -/
theorem loopH_keeps {turn : D → SM} {n : Nat} {xs : List D} {I : Nat → Loc → Store → Prop} (ho : ∀ j L O, I j L O → O[n]? = some (.lst xs)) : ∀ (k i : Nat) (L : Loc) (O : Store), xs.length = i + k → I i L O →
    (∀ j d L O, xs[j]? = some d → I j L O → ∃ L' O', turn d L O = .next L' O' ∧ I (j + 1) L' O') → ∃ L' O', loopH turn n k i L O = .next L' O' ∧ I xs.length L' O'
  | 0, i, L, O, hk, h, _ => by
    refine ⟨L, O, ?_, by rw [show xs.length = i by omega]; exact h⟩
    show (match O[n]? with | some (.lst xs) => if xs.length ≤ i then SR.next L O else .bad | _ => .bad) = _
    rw [ho _ _ _ h]
    show (if xs.length ≤ i then SR.next L O else .bad) = _
    rw [if_pos (by omega)]
  | k + 1, i, L, O, hk, h, st => by
    obtain ⟨d, hd⟩ : ∃ d, xs[i]? = some d := ⟨xs[i]'(by omega), List.getElem?_eq_getElem _⟩
    obtain ⟨L1, O1, e, h1⟩ := st i d L O hd h
    obtain ⟨L2, O2, e2, h2⟩ := loopH_keeps ho k (i + 1) L1 O1 (by omega) h1 st
    refine ⟨L2, O2, ?_, h2⟩
    show (match O[n]? with
    | some (.lst xs) => match xs[i]? with
      | some d => match turn d L O with
        | .next L1 O1 => loopH turn n k (i + 1) L1 O1
        | .cnt L1 O1 => loopH turn n k (i + 1) L1 O1
        | .brk L1 O1 => .next L1 O1
        | .ret d O1 => .ret d O1
        | .exc x L1 O1 => .exc x L1 O1
        | .bad => .bad
      | none => .next L O
    | _ => .bad) = _
    rw [ho _ _ _ h]
    show (match xs[i]? with
      | some d => match turn d L O with
        | .next L1 O1 => loopH turn n k (i + 1) L1 O1
        | .cnt L1 O1 => loopH turn n k (i + 1) L1 O1
        | .brk L1 O1 => .next L1 O1
        | .ret d O1 => .ret d O1
        | .exc x L1 O1 => .exc x L1 O1
        | .bad => .bad
      | none => .next L O) = _
    rw [hd]
    show (match turn d L O with
        | .next L1 O1 => loopH turn n k (i + 1) L1 O1
        | .cnt L1 O1 => loopH turn n k (i + 1) L1 O1
        | .brk L1 O1 => .next L1 O1
        | .ret d O1 => .ret d O1
        | .exc x L1 O1 => .exc x L1 O1
        | .bad => .bad) = _
    rw [e]
    exact e2
end DK
end
section
set_option Elab.async false
set_option linter.all false
set_option autoImplicit false
set_option maxRecDepth 100000
set_option maxHeartbeats 4000000
/-! The walk of darkrise_k59_meters_far_out: printed by gen.py. -/
namespace DK.k59
open PySem L2 DK
def top (i : Nat) : Stmt := PySem.Challenge.pw_darkrise_k59_meters_far_out.main.body.getD i (.Pass ⟨0, 0, 0, 0⟩)
abbrev s_law_pool : Stmt := top 15
abbrev s_law_draw : Stmt := top 16
abbrev s_law_pick : Stmt := top 17
abbrev s_law_numbers : Stmt := top 19
abbrev s_is_number : Stmt := top 7
abbrev s_checked_number : Stmt := top 8
abbrev s_warm_init : Stmt := inC (top 11) 0
abbrev s_meter_init : Stmt := inC (top 12) 0
abbrev s_law_wide : Stmt := top 18
abbrev s_law_span : Stmt := top 20
abbrev s_law_at : Stmt := top 21
abbrev s_meter_place : Stmt := inC (top 12) 5
abbrev s_warm_behind : Stmt := inC (top 11) 2
abbrev s_meter_extra : Stmt := inC (top 12) 7
abbrev s_meter_last : Stmt := inC (top 12) 3
abbrev s_meter_switch : Stmt := inC (top 12) 4
abbrev s_warm_until : Stmt := inC (top 11) 4
abbrev s_meter_settles : Stmt := inC (top 12) 10
abbrev s_law_same : Stmt := top 14
abbrev s_meter_peak : Stmt := inC (top 12) 11
abbrev s_meter_dark_minutes : Stmt := inC (top 12) 9
abbrev s_meter_is_lit : Stmt := inC (top 12) 6
abbrev s_law_refused : Stmt := top 22
abbrev s_warm_want : Stmt := inC (top 11) 3
abbrev s_law : Stmt := top 23
def d_law_pool : He.DefD := ⟨("_law_pool", none), "_law_pool", "_law_pool", defArgs s_law_pool, defBody s_law_pool, defScope s_law_pool, [], []⟩
theorem sc_law_pool : FnScope ["script"] ["script"] (defScope s_law_pool) := ⟨rfl, rfl, rfl, by decide +kernel, rfl, by decide +kernel, by decide +kernel⟩
def d_law_draw : He.DefD := ⟨("_law_draw", none), "_law_draw", "_law_draw", defArgs s_law_draw, defBody s_law_draw, defScope s_law_draw, [], []⟩
theorem sc_law_draw : FnScope ["pool", "many", "found", "cell", "mixed"] ["pool", "many"] (defScope s_law_draw) := ⟨rfl, rfl, rfl, by decide +kernel, rfl, by decide +kernel, by decide +kernel⟩
def d_law_pick : He.DefD := ⟨("_law_pick", none), "_law_pick", "_law_pick", defArgs s_law_pick, defBody s_law_pick, defScope s_law_pick, [], []⟩
theorem sc_law_pick : FnScope ["pool", "rows"] ["pool", "rows"] (defScope s_law_pick) := ⟨rfl, rfl, rfl, by decide +kernel, rfl, by decide +kernel, by decide +kernel⟩
def d_law_numbers : He.DefD := ⟨("_law_numbers", none), "_law_numbers", "_law_numbers", defArgs s_law_numbers, defBody s_law_numbers, defScope s_law_numbers, [], []⟩
theorem sc_law_numbers : FnScope ["pool", "k"] ["pool"] (defScope s_law_numbers) := ⟨rfl, rfl, rfl, by decide +kernel, rfl, by decide +kernel, by decide +kernel⟩
def d_is_number : He.DefD := ⟨("is_number", none), "is_number", "is_number", defArgs s_is_number, defBody s_is_number, defScope s_is_number, [.int 0, .int 1000000], []⟩
theorem sc_is_number : FnScope ["value", "least", "most"] ["value", "least", "most"] (defScope s_is_number) := ⟨rfl, rfl, rfl, by decide +kernel, rfl, by decide +kernel, by decide +kernel⟩
def d_checked_number : He.DefD := ⟨("checked_number", none), "checked_number", "checked_number", defArgs s_checked_number, defBody s_checked_number, defScope s_checked_number, [.int 0, .int 1000000], []⟩
theorem sc_checked_number : FnScope ["value", "least", "most"] ["value", "least", "most"] (defScope s_checked_number) := ⟨rfl, rfl, rfl, by decide +kernel, rfl, by decide +kernel, by decide +kernel⟩
def d_warm_init : He.DefD := ⟨("Warm", some "__init__"), "__init__", "Warm.__init__", defArgs s_warm_init, defBody s_warm_init, defScope s_warm_init, [], []⟩
theorem sc_warm_init : FnScope ["self", "grow", "top", "fall"] ["self", "grow", "top", "fall"] (defScope s_warm_init) := ⟨rfl, rfl, rfl, by decide +kernel, rfl, by decide +kernel, by decide +kernel⟩
def d_meter_init : He.DefD := ⟨("Meter", some "__init__"), "__init__", "Meter.__init__", defArgs s_meter_init, defBody s_meter_init, defScope s_meter_init, [], []⟩
theorem sc_meter_init : FnScope ["self", "warm"] ["self", "warm"] (defScope s_meter_init) := ⟨rfl, rfl, rfl, by decide +kernel, rfl, by decide +kernel, by decide +kernel⟩
def d_law_wide : He.DefD := ⟨("_law_wide", none), "_law_wide", "_law_wide", defArgs s_law_wide, defBody s_law_wide, defScope s_law_wide, [], []⟩
theorem sc_law_wide : FnScope ["pool", "kind"] ["pool"] (defScope s_law_wide) := ⟨rfl, rfl, rfl, by decide +kernel, rfl, by decide +kernel, by decide +kernel⟩
def d_law_span : He.DefD := ⟨("_law_span", none), "_law_span", "_law_span", defArgs s_law_span, defBody s_law_span, defScope s_law_span, [], []⟩
theorem sc_law_span : FnScope ["numbers", "extra", "minutes", "lit"] ["numbers", "extra", "minutes", "lit"] (defScope s_law_span) := ⟨rfl, rfl, rfl, by decide +kernel, rfl, by decide +kernel, by decide +kernel⟩
def d_law_at : He.DefD := ⟨("_law_at", none), "_law_at", "_law_at", defArgs s_law_at, defBody s_law_at, defScope s_law_at, [], []⟩
theorem sc_law_at : FnScope ["numbers", "marks", "minute", "extra", "at", "lit", "mark"] ["numbers", "marks", "minute"] (defScope s_law_at) := ⟨rfl, rfl, rfl, by decide +kernel, rfl, by decide +kernel, by decide +kernel⟩
def d_meter_place : He.DefD := ⟨("Meter", some "_place"), "_place", "Meter._place", defArgs s_meter_place, defBody s_meter_place, defScope s_meter_place, [], []⟩
theorem sc_meter_place : FnScope ["self", "minute", "low", "high", "middle"] ["self", "minute"] (defScope s_meter_place) := ⟨rfl, rfl, rfl, by decide +kernel, rfl, by decide +kernel, by decide +kernel⟩
def d_warm_behind : He.DefD := ⟨("Warm", some "behind"), "behind", "Warm.behind", defArgs s_warm_behind, defBody s_warm_behind, defScope s_warm_behind, [], []⟩
theorem sc_warm_behind : FnScope ["self", "extra", "minutes", "lit"] ["self", "extra", "minutes", "lit"] (defScope s_warm_behind) := ⟨rfl, rfl, rfl, by decide +kernel, rfl, by decide +kernel, by decide +kernel⟩
def d_meter_extra : He.DefD := ⟨("Meter", some "extra"), "extra", "Meter.extra", defArgs s_meter_extra, defBody s_meter_extra, defScope s_meter_extra, [], []⟩
theorem sc_meter_extra : FnScope ["self", "minute", "place", "begun", "lit"] ["self", "minute"] (defScope s_meter_extra) := ⟨rfl, rfl, rfl, by decide +kernel, rfl, by decide +kernel, by decide +kernel⟩
def d_meter_last : He.DefD := ⟨("Meter", some "last"), "last", "Meter.last", defArgs s_meter_last, defBody s_meter_last, defScope s_meter_last, [], []⟩
theorem sc_meter_last : FnScope ["self"] ["self"] (defScope s_meter_last) := ⟨rfl, rfl, rfl, by decide +kernel, rfl, by decide +kernel, by decide +kernel⟩
def d_meter_switch : He.DefD := ⟨("Meter", some "switch"), "switch", "Meter.switch", defArgs s_meter_switch, defBody s_meter_switch, defScope s_meter_switch, [], []⟩
theorem sc_meter_switch : FnScope ["self", "minute", "lit", "extra"] ["self", "minute", "lit"] (defScope s_meter_switch) := ⟨rfl, rfl, rfl, by decide +kernel, rfl, by decide +kernel, by decide +kernel⟩
def d_warm_until : He.DefD := ⟨("Warm", some "until"), "until", "Warm.until", defArgs s_warm_until, defBody s_warm_until, defScope s_warm_until, [], []⟩
theorem sc_warm_until : FnScope ["self", "extra", "least"] ["self", "extra", "least"] (defScope s_warm_until) := ⟨rfl, rfl, rfl, by decide +kernel, rfl, by decide +kernel, by decide +kernel⟩
def d_meter_settles : He.DefD := ⟨("Meter", some "settles"), "settles", "Meter.settles", defArgs s_meter_settles, defBody s_meter_settles, defScope s_meter_settles, [.int 0], []⟩
theorem sc_meter_settles : FnScope ["self", "minute", "least", "more"] ["self", "minute", "least"] (defScope s_meter_settles) := ⟨rfl, rfl, rfl, by decide +kernel, rfl, by decide +kernel, by decide +kernel⟩
def d_law_same : He.DefD := ⟨("_law_same", none), "_law_same", "_law_same", defArgs s_law_same, defBody s_law_same, defScope s_law_same, [], []⟩
theorem sc_law_same : FnScope ["actual", "due", "k"] ["actual", "due"] (defScope s_law_same) := ⟨rfl, rfl, rfl, by decide +kernel, rfl, by decide +kernel, by decide +kernel⟩
def d_meter_peak : He.DefD := ⟨("Meter", some "peak"), "peak", "Meter.peak", defArgs s_meter_peak, defBody s_meter_peak, defScope s_meter_peak, [], []⟩
theorem sc_meter_peak : FnScope ["self", "begin", "end", "found", "minute", "lit"] ["self", "begin", "end"] (defScope s_meter_peak) := ⟨rfl, rfl, rfl, by decide +kernel, rfl, by decide +kernel, by decide +kernel⟩
def d_meter_dark_minutes : He.DefD := ⟨("Meter", some "dark_minutes"), "dark_minutes", "Meter.dark_minutes", defArgs s_meter_dark_minutes, defBody s_meter_dark_minutes, defScope s_meter_dark_minutes, [], []⟩
theorem sc_meter_dark_minutes : FnScope ["self", "begin", "end", "total", "index", "minute", "lit", "behind"] ["self", "begin", "end"] (defScope s_meter_dark_minutes) := ⟨rfl, rfl, rfl, by decide +kernel, rfl, by decide +kernel, by decide +kernel⟩
def d_meter_is_lit : He.DefD := ⟨("Meter", some "is_lit"), "is_lit", "Meter.is_lit", defArgs s_meter_is_lit, defBody s_meter_is_lit, defScope s_meter_is_lit, [], []⟩
theorem sc_meter_is_lit : FnScope ["self", "minute"] ["self", "minute"] (defScope s_meter_is_lit) := ⟨rfl, rfl, rfl, by decide +kernel, rfl, by decide +kernel, by decide +kernel⟩
def d_law_refused : He.DefD := ⟨("_law_refused", none), "_law_refused", "_law_refused", defArgs s_law_refused, defBody s_law_refused, defScope s_law_refused, [], []⟩
theorem sc_law_refused : FnScope ["choice", "meter", "value", "problem"] ["choice", "meter", "value"] (defScope s_law_refused) := ⟨rfl, rfl, rfl, by decide +kernel, rfl, by decide +kernel, by decide +kernel⟩
def d_warm_want : He.DefD := ⟨("Warm", some "want"), "want", "Warm.want", defArgs s_warm_want, defBody s_warm_want, defScope s_warm_want, [], []⟩
theorem sc_warm_want : FnScope ["self", "base", "extra"] ["self", "base", "extra"] (defScope s_warm_want) := ⟨rfl, rfl, rfl, by decide +kernel, rfl, by decide +kernel, by decide +kernel⟩
def d_law : He.DefD := ⟨("law", none), "law", "law", defArgs s_law, defBody s_law, defScope s_law, [], []⟩
theorem sc_law : FnScope ["script", "pool", "numbers", "warm", "meter", "minutes", "marks", "lit", "k", "minute", "extra", "least", "told", "many", "state", "base", "due", "choice", "bad"] ["script"] (defScope s_law) := ⟨rfl, rfl, rfl, by decide +kernel, rfl, by decide +kernel, by decide +kernel⟩
abbrev PP : Program := PySem.Challenge.pw_darkrise_k59_meters_far_out
abbrev s_notnow_init : Stmt := inC (top 4) 0
def ini_NotNow : IniD := ⟨"NotNow", "NotNow.__init__", defArgs s_notnow_init, defBody s_notnow_init, defScope s_notnow_init⟩
theorem sup_NotNow : SupScope ["self", "reason"] ["self", "reason"] (defScope s_notnow_init) := ⟨rfl, rfl, rfl, by decide +kernel, rfl, by decide +kernel, by decide +kernel, free_of (by decide +kernel), rfl, rfl⟩
def fn : List He.DefD := [d_law_pool, d_law_draw, d_law_pick, d_law_numbers, d_is_number, d_checked_number, d_warm_init, d_meter_init, d_law_wide, d_law_span, d_law_at, d_meter_place, d_warm_behind, d_meter_extra, d_meter_last, d_meter_switch, d_warm_until, d_meter_settles, d_law_same, d_meter_peak, d_meter_dark_minutes, d_meter_is_lit, d_law_refused, d_warm_want, d_law]
def fa : List He.Fa := [.glo "law", .free "super", .noat "NotNow" "reason", .free "list", .free "int", .free "len", .free "abs", .glo "_law_draw", .glo "_law_pick", .free "range", .free "isinstance", .free "bool", .glo "is_number", .free "str", .exc "InvalidNumber", .glo "InvalidNumber", .glo "checked_number", .cls "Warm", .noat "Warm" "grow", .noat "Warm" "top", .noat "Warm" "fall", .cls "Meter", .noat "Meter" "_warm", .noat "Meter" "_marks", .noat "Meter" "_extras", .free "min", .free "max", .glo "_law_span", .int "LAST" 1000000000000, .meth "Meter" "_place", .meth "Warm" "behind", .meth "Meter" "last", .glo "NotNow", .meth "Meter" "extra", .meth "Warm" "until", .free "tuple", .glo "_law_same", .exm "InvalidNumber" "RiseError" true, .exm "NotNow" "RiseError" true, .glo "RiseError", .meth "Meter" "switch", .meth "Meter" "peak", .meth "Meter" "dark_minutes", .glo "Warm", .mkr "Warm", .meth "Meter" "is_lit", .meth "Meter" "settles", .free "ValueError", .glo "_law_pool", .glo "_law_numbers", .glo "Meter", .mkr "Meter", .glo "_law_wide", .free "sorted", .glo "_law_at", .meth "Warm" "want", .glo "_law_refused"]
def fx : List Fx := [.exc "InvalidNumber", .kitR "InvalidNumber" "InvalidNumber" true, .kitT "InvalidNumber" "ValueError" true, .exc "NotNow", .kitR "NotNow" "InvalidNumber" false, .kitT "NotNow" "ValueError" true]
def ins : List IniD := [ini_NotNow]
abbrev Kn (K : PySem.W.Frag) (mg : Str → Option Value) : Prop := KnowsI fa fn fx "/claim/cut.py" ins K mg
def m_notnow_init : EM := (mVar 1)
def x_NotNow : XM := mkOne ["self", "reason"] m_notnow_init "reason" 1
theorem has_NotNow {w : World} {K : PySem.W.Frag} {mg : Str → Option Value} {base : Heap} (kn : Kn K mg) : HasX PP w K mg base 1 "NotNow" 1 x_NotNow := by
  have I : IniK K "/claim/cut.py" ini_NotNow := kn.i _ (by simp [ins])
  refine hasX_tr (k := 0) (d := ini_NotNow) (N := ["self", "reason"]) (ps := ["self", "reason"]) (self := "self") (ms := m_notnow_init) I rfl sup_NotNow rfl rfl rfl rfl rfl (by decide +kernel) (by decide +kernel) (kn.free 1) (fun f fd kV doc pm an cda ct cc us hl => match us, hl with | [_, _], _ => rfl) (fun f cda cc A outer s H E hr => ?_) (fun f cda cc A outer s H E => (pss_one (ps_ost (pv 0) (pv 1)))) (fun _ _ _ _ => rfl) (fun _ _ _ _ => rfl) (fun _ _ _ _ => rfl) (fun _ _ _ _ => rfl) (hsp_one I.T (kn.noat 2) rfl (by decide))
  delta m_notnow_init
  exact (de_var (pv 1))
def b_law_pool : SM := (sRet (mLst true (mCons (mCall (g1 (gList false)) (mCons (mVar 0) mNil)) (mCons (mC (.int 0)) (mCons (mC (.int 0)) (mCons (mC (.int 0)) (mCons (mC (.int 0)) mNil)))))))
def f_law_pool : FM := runF 1 b_law_pool
theorem ok_law_pool {w : World} {K : PySem.W.Frag} {mg : Str → Option Value} {base : Heap} (kn : Kn K mg) : Has PP w K mg base 1 d_law_pool ["script"] f_law_pool := by
  refine has_def (k := 0) (N := ["script"]) (d := d_law_pool) (kn.c.def_ 0 (d := d_law_pool) rfl) sc_law_pool fun f cdv A outer s H E hr => ?_
  delta b_law_pool
  exact (dss_one (ds_ret (de_lst (hm := true) (da_cons (de_callTy (cd_list false) rfl (kn.free 3) (by decide +kernel) (da_cons (de_var (pv 0)) da_nil)) (da_cons de_int (da_cons de_int (da_cons de_int (da_cons de_int da_nil))))))))
def b_law_draw : SM := (sSeq (sIf (mTest (mOp gGt (mOp gIx (mVar 0) (mC (.int 2))) (mC (.int 0)))) (sSeq (sAsg (mOp gMod (mCall (g1 gInt) (mCons (mOp gIx (mVar 0) (mC (.int 2))) mNil)) (mVar 1)) (bName 2))
    (sSeq (sAsg (mOp gFdiv (mOp gIx (mVar 0) (mC (.int 2))) (mVar 1)) (bSubL (mVar 0) (mC (.int 2))))
    (sRet (mVar 2)))) sNext)
    (sSeq (sIf (mAnd (mTest (mOp gEq (mOp gMod (mCall (g1 gInt) (mCons (mOp gIx (mVar 0) (mC (.int 4))) mNil)) (mC (.int 8))) (mC (.int 0)))) (mTest (mOp gLt (mOp gIx (mVar 0) (mC (.int 1))) (mCall (g1 gLen) (mCons (mOp gIx (mVar 0) (mC (.int 0))) mNil))))) (sSeq (sAsg (mCall (g1 gAbs) (mCons (mOp gIx (mOp gIx (mVar 0) (mC (.int 0))) (mOp gIx (mVar 0) (mC (.int 1)))) mNil)) (bName 3))
    (sSeq (sAsg (mOp (gAdd false) (mOp gIx (mVar 0) (mC (.int 1))) (mC (.int 1))) (bSubL (mVar 0) (mC (.int 1))))
    (sSeq (sIf (mTest (mOp gGe (mVar 3) (mOp gPow (mC (.int 10)) (mC (.int 18))))) (sSeq (sAsg (mOp gFdiv (mVar 3) (mVar 1)) (bSubL (mVar 0) (mC (.int 2))))
    (sRet (mOp gMod (mCall (g1 gInt) (mCons (mVar 3) mNil)) (mVar 1)))) sNext)
    (sAsg (mVar 3) (bSubL (mVar 0) (mC (.int 3))))))) sNext)
    (sSeq (sAsg (mOp (gAdd false) (mOp gIx (mVar 0) (mC (.int 4))) (mC (.int 1))) (bSubL (mVar 0) (mC (.int 4))))
    (sSeq (sAsg (mOp gMod (mCall (g1 gInt) (mCons (mOp (gAdd false) (mOp (gAdd false) (mOp gMul (mOp gIx (mVar 0) (mC (.int 3))) (mC (.int 48271))) (mOp gMul (mOp gIx (mVar 0) (mC (.int 4))) (mC (.int 69621)))) (mC (.int 7919))) mNil)) (mC (.int 2147483647))) (bName 4))
    (sSeq (sAsg (mOp gMod (mCall (g1 gInt) (mCons (mOp (gAdd false) (mOp gMul (mVar 4) (mVar 4)) (mOp gMul (mOp gIx (mVar 0) (mC (.int 4))) (mC (.int 40692)))) mNil)) (mC (.int 2147483399))) (bName 4))
    (sRet (mOp gMod (mCall (g1 gInt) (mCons (mVar 4) mNil)) (mVar 1))))))))
def f_law_draw : FM := runF 5 b_law_draw
theorem ok_law_draw {w : World} {K : PySem.W.Frag} {mg : Str → Option Value} {base : Heap} (kn : Kn K mg) : Has PP w K mg base 1 d_law_draw ["pool", "many"] f_law_draw := by
  refine has_def (k := 0) (N := ["pool", "many", "found", "cell", "mixed"]) (d := d_law_draw) (kn.c.def_ 1 (d := d_law_draw) rfl) sc_law_draw fun f cdv A outer s H E hr => ?_
  delta b_law_draw
  exact (dss_cons (ds_if (dt_cmp od_gt (de_ix (de_var (pv 0)) de_int (fun _ _ => rfl)) de_int (nomark _)) (dss_cons (ds_set (i := 2) sc_law_draw.nd rfl (by first | exact .inl rfl | exact .inr rfl) (de_op od_mod (de_callTy cd_int rfl (kn.free 4) (by decide +kernel) (da_cons (de_ix (de_var (pv 0)) de_int (fun _ _ => rfl)) da_nil)) (de_var (pv 1))))
    (dss_cons (ds_asg (de_op od_fdiv (de_ix (de_var (pv 0)) de_int (fun _ _ => rfl)) (de_var (pv 1))) (dg_subL (W := WF) (de_var (pv 0)) de_int))
    (dss_one (ds_ret (de_var (pv 2)))))) dss_nil)
    (dss_cons (ds_if (PW.pt (dw_and (dt_cmp (od_eq hr.units) (de_op od_mod (de_callTy cd_int rfl (kn.free 4) (by decide +kernel) (da_cons (de_ix (de_var (pv 0)) de_int (fun _ _ => rfl)) da_nil)) de_int) de_int (nomark _)) (dw_and1 (dt_cmp od_lt (de_ix (de_var (pv 0)) de_int (fun _ _ => rfl)) (de_callB cd_len rfl (kn.free 5) (by decide +kernel) (da_cons (de_ix (de_var (pv 0)) de_int (fun _ _ => rfl)) da_nil)) (nomark _))))) (dss_cons (ds_set (i := 3) sc_law_draw.nd rfl (by first | exact .inl rfl | exact .inr rfl) (de_callB cd_abs rfl (kn.free 6) (by decide +kernel) (da_cons (de_ix (de_ix (de_var (pv 0)) de_int (fun _ _ => rfl)) (de_ix (de_var (pv 0)) de_int (fun _ _ => rfl)) (fun _ _ => rfl)) da_nil)))
    (dss_cons (ds_asg (de_op (od_add false) (de_ix (de_var (pv 0)) de_int (fun _ _ => rfl)) de_int) (dg_subL (W := WF) (de_var (pv 0)) de_int))
    (dss_cons (ds_if (dt_cmp od_ge (de_var (pv 3)) (de_op od_pow de_int de_int) (nomark _)) (dss_cons (ds_asg (de_op od_fdiv (de_var (pv 3)) (de_var (pv 1))) (dg_subL (W := WF) (de_var (pv 0)) de_int))
    (dss_one (ds_ret (de_op od_mod (de_callTy cd_int rfl (kn.free 4) (by decide +kernel) (da_cons (de_var (pv 3)) da_nil)) (de_var (pv 1)))))) dss_nil)
    (dss_one (ds_asg (de_var (pv 3)) (dg_subL (W := WF) (de_var (pv 0)) de_int)))))) dss_nil)
    (dss_cons (ds_asg (de_op (od_add false) (de_ix (de_var (pv 0)) de_int (fun _ _ => rfl)) de_int) (dg_subL (W := WF) (de_var (pv 0)) de_int))
    (dss_cons (ds_set (i := 4) sc_law_draw.nd rfl (by first | exact .inl rfl | exact .inr rfl) (de_op od_mod (de_callTy cd_int rfl (kn.free 4) (by decide +kernel) (da_cons (de_op (od_add false) (de_op (od_add false) (de_op od_mul (de_ix (de_var (pv 0)) de_int (fun _ _ => rfl)) de_int) (de_op od_mul (de_ix (de_var (pv 0)) de_int (fun _ _ => rfl)) de_int)) de_int) da_nil)) de_int))
    (dss_cons (ds_set (i := 4) sc_law_draw.nd rfl (by first | exact .inl rfl | exact .inr rfl) (de_op od_mod (de_callTy cd_int rfl (kn.free 4) (by decide +kernel) (da_cons (de_op (od_add false) (de_op od_mul (de_var (pv 4)) (de_var (pv 4))) (de_op od_mul (de_ix (de_var (pv 0)) de_int (fun _ _ => rfl)) de_int)) da_nil)) de_int))
    (dss_one (ds_ret (de_op od_mod (de_callTy cd_int rfl (kn.free 4) (by decide +kernel) (da_cons (de_var (pv 4)) da_nil)) (de_var (pv 1))))))))))
def b_law_pick : SM := (sRet (mOp gIx (mVar 1) (mFn (arity 2 f_law_draw) [] (mCons (mVar 0) (mCons (mCall (g1 gLen) (mCons (mVar 1) mNil)) mNil)))))
def f_law_pick : FM := runF 2 b_law_pick
theorem ok_law_pick {w : World} {K : PySem.W.Frag} {mg : Str → Option Value} {base : Heap} (kn : Kn K mg) : Has PP w K mg base 2 d_law_pick ["pool", "rows"] f_law_pick := by
  obtain ⟨fd0, F0, O0⟩ := ok_law_draw (w := w) (base := base) kn
  have B1 := FunD.bindsN (ps := ["pool", "many"]) F0 (fun _ _ _ _ _ _ us hl => match us, hl with | [_, _], _ => rfl)
  refine has_def (k := 1) (N := ["pool", "rows"]) (d := d_law_pick) (kn.c.def_ 2 (d := d_law_pick) rfl) sc_law_pick fun f cdv A outer s H E hr => ?_
  delta b_law_pick
  exact (dss_one (ds_ret (de_ix (de_var (pv 1)) (de_call (dds := []) O0 (hr.mono (by omega)) rfl (kn.glo 7) F0.kp B1 .nil (fun _ _ => rfl) tk_of (da_cons (de_var (pv 0)) (da_cons (de_callB cd_len rfl (kn.free 5) (by decide +kernel) (da_cons (de_var (pv 1)) da_nil)) da_nil))) (fun _ _ => rfl))))
theorem blk_law_numbers_181_11 : BlkOk ["pool", "k"] (defScope s_law_numbers) { kind := .function, names := [(".0", .local), ("k", .local), ("_law_pick", .globalImplicit), ("_law_draw", .globalImplicit), ("pool", .free)], isGenerator := false, isCoroutine := false, more := [] } [("k", 1)] := ⟨rfl, by decide +kernel, by decide +kernel, by decide +kernel, by decide +kernel⟩
def b_law_numbers : SM := (sRet (mLcR1 false (mCons (mC (.int 3)) mNil) [1] (bName 1) mYes (mFn (arity 2 f_law_pick) [] (mCons (mVar 0) (mCons (mLst false (mCons (mFn (arity 2 f_law_draw) [] (mCons (mVar 0) (mCons (mC (.int 12)) mNil))) (mCons (mFn (arity 2 f_law_draw) [] (mCons (mVar 0) (mCons (mC (.int 120)) mNil))) (mCons (mC (.int 0)) (mCons (mC (.int 1000)) (mCons (mFn (arity 2 f_law_draw) [] (mCons (mVar 0) (mCons (mC (.int 1001)) mNil))) mNil)))))) mNil)))))
def f_law_numbers : FM := runF 2 b_law_numbers
theorem ok_law_numbers {w : World} {K : PySem.W.Frag} {mg : Str → Option Value} {base : Heap} (kn : Kn K mg) : Has PP w K mg base 3 d_law_numbers ["pool"] f_law_numbers := by
  obtain ⟨fd0, F0, O0⟩ := ok_law_pick (w := w) (base := base) kn
  have B1 := FunD.bindsN (ps := ["pool", "rows"]) F0 (fun _ _ _ _ _ _ us hl => match us, hl with | [_, _], _ => rfl)
  obtain ⟨fd2, F2, O2⟩ := ok_law_draw (w := w) (base := base) kn
  have B3 := FunD.bindsN (ps := ["pool", "many"]) F2 (fun _ _ _ _ _ _ us hl => match us, hl with | [_, _], _ => rfl)
  refine has_def (k := 2) (N := ["pool", "k"]) (d := d_law_numbers) (kn.c.def_ 3 (d := d_law_numbers) rfl) sc_law_numbers fun f cdv A outer s H E hr => ?_
  delta b_law_numbers
  exact (dss_one (ds_ret (de_lcR1 (own := [("k", 1)]) (hm := false) rfl sc_law_numbers.nd rfl (kn.free 9) (da_cons de_int da_nil) blk_law_numbers_181_11 (fun s1 H1 C1 cl1 fp1 J1 hJ1 => (dg_name (i := 1) sc_law_numbers.nd rfl (by first | exact .inl rfl | exact .inr rfl) (hJ := fun σ v S h => hJ1 σ v S 1 (by simp) h))) (fun s1 H1 C1 cl1 fp1 J1 hJ1 => dts_nil) (fun s1 H1 C1 cl1 fp1 J1 hJ1 => (de_call (dds := []) O0 (hr.mono (by omega)) rfl (kn.glo 8) F0.kp B1 .nil (fun _ _ => rfl) takesF (da_cons (de_var (pv 0)) (da_cons (de_lst (hm := false) (da_cons (de_call (dds := []) O2 (hr.mono (by omega)) rfl (kn.glo 7) F2.kp B3 .nil (fun _ _ => rfl) takesF (da_cons (de_var (pv 0)) (da_cons de_int da_nil))) (da_cons (de_call (dds := []) O2 (hr.mono (by omega)) rfl (kn.glo 7) F2.kp B3 .nil (fun _ _ => rfl) takesF (da_cons (de_var (pv 0)) (da_cons de_int da_nil))) (da_cons de_int (da_cons de_int (da_cons (de_call (dds := []) O2 (hr.mono (by omega)) rfl (kn.glo 7) F2.kp B3 .nil (fun _ _ => rfl) takesF (da_cons (de_var (pv 0)) (da_cons de_int da_nil))) da_nil)))))) da_nil)))))))
def b_is_number : SM := (sSeq (sIf (mOr (mTest (mIsi "bool" (mVar 0))) (mNot (mTest (mIsi "int" (mVar 0))))) (sRet (mC (.bl false))) sNext)
    (sRet (mChain gLe gLe (mVar 1) (mVar 0) (mVar 2))))
def f_is_number : FM := runF 3 b_is_number
theorem ok_is_number {w : World} {K : PySem.W.Frag} {mg : Str → Option Value} {base : Heap} (kn : Kn K mg) : Has PP w K mg base 1 d_is_number ["value", "least", "most"] f_is_number := by
  refine has_def (k := 0) (N := ["value", "least", "most"]) (d := d_is_number) (kn.c.def_ 4 (d := d_is_number) rfl) sc_is_number fun f cdv A outer s H E hr => ?_
  delta b_is_number
  exact (dss_cons (ds_if (PW.pt (dw_or (dt_val (de_isi (T := "bool") rfl (kn.free 10) (by decide +kernel) rfl (kn.free 11) (by decide +kernel) (de_var (pv 0)))) (dw_or1 (dt_not (dt_val (de_isi (T := "int") rfl (kn.free 10) (by decide +kernel) rfl (kn.free 4) (by decide +kernel) (de_var (pv 0)))))))) (dss_one (ds_ret de_bl)) dss_nil)
    (dss_one (ds_ret (de_chain od_le od_le (de_var (pv 1)) (de_var (pv 0)) (de_var (pv 2))))))
def b_checked_number : SM := (sSeq (sIf (mNot (mTest (mFn (arity 3 f_is_number) [] (mCons (mVar 0) (mCons (mVar 1) (mCons (mVar 2) mNil)))))) (sRaise "InvalidNumber" (mCons (mOp (gAdd false) (mOp (gAdd false) (mOp (gAdd false) (mC (.str "no number from ")) (mCall (g1 gStr) (mCons (mVar 1) mNil))) (mC (.str " to "))) (mCall (g1 gStr) (mCons (mVar 2) mNil))) mNil)) sNext)
    (sRet (mVar 0)))
def f_checked_number : FM := runF 3 b_checked_number
theorem ok_checked_number {w : World} {K : PySem.W.Frag} {mg : Str → Option Value} {base : Heap} (kn : Kn K mg) : Has PP w K mg base 2 d_checked_number ["value", "least", "most"] f_checked_number := by
  obtain ⟨fd0, F0, O0⟩ := ok_is_number (w := w) (base := base) kn
  obtain ⟨ds1, V1, B1⟩ := FunD.binds1 (ps := ["value", "least", "most"]) F0 3 2 (by intro z; cases z) rfl (fun T kV doc pm an cdv ct us its h1 h2 => match us, its, h1, h2 with | [_, _, _], [_, _], _, _ => ⟨_, rfl, rfl⟩)
  refine has_def (k := 1) (N := ["value", "least", "most"]) (d := d_checked_number) (kn.c.def_ 5 (d := d_checked_number) rfl) sc_checked_number fun f cdv A outer s H E hr => ?_
  delta b_checked_number
  exact (dss_cons (ds_if (dt_not (dt_val (de_call (dds := []) O0 (hr.mono (by omega)) rfl (kn.glo 12) F0.kp B1 V1 (fun _ _ => rfl) tk_of (da_cons (de_var (pv 0)) (da_cons (de_var (pv 1)) (da_cons (de_var (pv 2)) da_nil)))))) (dss_one (ds_raise (c := "InvalidNumber") rfl tk_of PySem.F.excBase_ValueError (kn.exc 14).1 (kn.glo 15) (kn.exc 14).2.1 (raises_own (kn.exc 14).2.2.1 (kn.exc 14).2.2.2) rfl (da_cons (de_op (od_add false) (de_op (od_add false) (de_op (od_add false) de_str (de_callTy cd_str rfl (kn.free 13) (by decide +kernel) (da_cons (de_var (pv 1)) da_nil))) de_str) (de_callTy cd_str rfl (kn.free 13) (by decide +kernel) (da_cons (de_var (pv 2)) da_nil))) da_nil))) dss_nil)
    (dss_one (ds_ret (de_var (pv 0)))))
def b_warm_init : SM := (sSeq (sFldM "Warm" "grow" (mVar 0) (mFn (arity 3 f_checked_number) [] (mCons (mVar 1) (mCons (mC (.int 0)) (mCons (mC (.int 1000)) mNil)))))
    (sSeq (sFldM "Warm" "top" (mVar 0) (mFn (arity 3 f_checked_number) [] (mCons (mVar 2) (mCons (mC (.int 0)) (mCons (mC (.int 1000)) mNil)))))
    (sFldM "Warm" "fall" (mVar 0) (mFn (arity 3 f_checked_number) [] (mCons (mVar 3) (mCons (mC (.int 0)) (mCons (mC (.int 1000)) mNil)))))))
def f_warm_init : FM := runF 4 b_warm_init
theorem ok_warm_init {w : World} {K : PySem.W.Frag} {mg : Str → Option Value} {base : Heap} (kn : Kn K mg) : Has PP w K mg base 3 d_warm_init ["self", "grow", "top", "fall"] f_warm_init := by
  obtain ⟨fd0, F0, O0⟩ := ok_checked_number (w := w) (base := base) kn
  obtain ⟨ds1, V1, B1⟩ := FunD.binds1 (ps := ["value", "least", "most"]) F0 3 2 (by intro z; cases z) rfl (fun T kV doc pm an cdv ct us its h1 h2 => match us, its, h1, h2 with | [_, _, _], [_, _], _, _ => ⟨_, rfl, rfl⟩)
  refine has_def (k := 2) (N := ["self", "grow", "top", "fall"]) (d := d_warm_init) (kn.c.def_ 6 (d := d_warm_init) rfl) sc_warm_init fun f cdv A outer s H E hr => ?_
  delta b_warm_init
  exact (dss_cons (ds_fld (de_var (pv 0)) (de_call (dds := []) O0 (hr.mono (by omega)) rfl (kn.glo 16) F0.kp B1 V1 (fun _ _ => rfl) tk_of (da_cons (de_var (pv 1)) (da_cons de_int (da_cons de_int da_nil)))) (kn.cls 17) (kn.noat 18))
    (dss_cons (ds_fld (de_var (pv 0)) (de_call (dds := []) O0 (hr.mono (by omega)) rfl (kn.glo 16) F0.kp B1 V1 (fun _ _ => rfl) tk_of (da_cons (de_var (pv 2)) (da_cons de_int (da_cons de_int da_nil)))) (kn.cls 17) (kn.noat 19))
    (dss_one (ds_fld (de_var (pv 0)) (de_call (dds := []) O0 (hr.mono (by omega)) rfl (kn.glo 16) F0.kp B1 V1 (fun _ _ => rfl) tk_of (da_cons (de_var (pv 3)) (da_cons de_int (da_cons de_int da_nil)))) (kn.cls 17) (kn.noat 20)))))
def b_meter_init : SM := (sSeq (sFldM "Meter" "_warm" (mVar 0) (mVar 1))
    (sSeq (sFldM "Meter" "_marks" (mVar 0) (mLst true (mCons (mTup (mCons (mC (.int 0)) (mCons (mC (.bl false)) mNil))) mNil)))
    (sFldM "Meter" "_extras" (mVar 0) (mLst true (mCons (mC (.int 0)) mNil)))))
def f_meter_init : FM := runF 2 b_meter_init
theorem ok_meter_init {w : World} {K : PySem.W.Frag} {mg : Str → Option Value} {base : Heap} (kn : Kn K mg) : Has PP w K mg base 1 d_meter_init ["self", "warm"] f_meter_init := by
  refine has_def (k := 0) (N := ["self", "warm"]) (d := d_meter_init) (kn.c.def_ 7 (d := d_meter_init) rfl) sc_meter_init fun f cdv A outer s H E hr => ?_
  delta b_meter_init
  exact (dss_cons (ds_fld (de_var (pv 0)) (de_var (pv 1)) (kn.cls 21) (kn.noat 22))
    (dss_cons (ds_fld (de_var (pv 0)) (de_lst (hm := true) (da_cons (de_tup (da_cons de_int (da_cons de_bl da_nil))) da_nil)) (kn.cls 21) (kn.noat 23))
    (dss_one (ds_fld (de_var (pv 0)) (de_lst (hm := true) (da_cons de_int da_nil)) (kn.cls 21) (kn.noat 24)))))
def b_law_wide : SM := (sSeq (sAsg (mFn (arity 2 f_law_draw) [] (mCons (mVar 0) (mCons (mC (.int 4)) mNil))) (bName 1))
    (sSeq (sIf (mTest (mOp gEq (mVar 1) (mC (.int 0)))) (sRet (mFn (arity 2 f_law_pick) [] (mCons (mVar 0) (mCons (mLst false (mCons (mC (.int 0)) (mCons (mC (.int 1)) (mCons (mC (.int 1000000000000)) (mCons (mC (.int 999999999999)) mNil))))) mNil)))) sNext)
    (sSeq (sIf (mTest (mOp gEq (mVar 1) (mC (.int 1)))) (sRet (mFn (arity 2 f_law_draw) [] (mCons (mVar 0) (mCons (mC (.int 60)) mNil)))) sNext)
    (sRet (mOp (gAdd false) (mOp gMul (mFn (arity 2 f_law_draw) [] (mCons (mVar 0) (mCons (mC (.int 1000000)) mNil))) (mFn (arity 2 f_law_pick) [] (mCons (mVar 0) (mCons (mLst false (mCons (mC (.int 1)) (mCons (mC (.int 1000)) (mCons (mC (.int 1000000)) mNil)))) mNil)))) (mFn (arity 2 f_law_draw) [] (mCons (mVar 0) (mCons (mC (.int 60)) mNil))))))))
def f_law_wide : FM := runF 2 b_law_wide
theorem ok_law_wide {w : World} {K : PySem.W.Frag} {mg : Str → Option Value} {base : Heap} (kn : Kn K mg) : Has PP w K mg base 3 d_law_wide ["pool"] f_law_wide := by
  obtain ⟨fd0, F0, O0⟩ := ok_law_draw (w := w) (base := base) kn
  have B1 := FunD.bindsN (ps := ["pool", "many"]) F0 (fun _ _ _ _ _ _ us hl => match us, hl with | [_, _], _ => rfl)
  obtain ⟨fd2, F2, O2⟩ := ok_law_pick (w := w) (base := base) kn
  have B3 := FunD.bindsN (ps := ["pool", "rows"]) F2 (fun _ _ _ _ _ _ us hl => match us, hl with | [_, _], _ => rfl)
  refine has_def (k := 2) (N := ["pool", "kind"]) (d := d_law_wide) (kn.c.def_ 8 (d := d_law_wide) rfl) sc_law_wide fun f cdv A outer s H E hr => ?_
  delta b_law_wide
  exact (dss_cons (ds_set (i := 1) sc_law_wide.nd rfl (by first | exact .inl rfl | exact .inr rfl) (de_call (dds := []) O0 (hr.mono (by omega)) rfl (kn.glo 7) F0.kp B1 .nil (fun _ _ => rfl) tk_of (da_cons (de_var (pv 0)) (da_cons de_int da_nil))))
    (dss_cons (ds_if (dt_cmp (od_eq hr.units) (de_var (pv 1)) de_int (nomark _)) (dss_one (ds_ret (de_call (dds := []) O2 (hr.mono (by omega)) rfl (kn.glo 8) F2.kp B3 .nil (fun _ _ => rfl) tk_of (da_cons (de_var (pv 0)) (da_cons (de_lst (hm := false) (da_cons de_int (da_cons de_int (da_cons de_int (da_cons de_int da_nil))))) da_nil))))) dss_nil)
    (dss_cons (ds_if (dt_cmp (od_eq hr.units) (de_var (pv 1)) de_int (nomark _)) (dss_one (ds_ret (de_call (dds := []) O0 (hr.mono (by omega)) rfl (kn.glo 7) F0.kp B1 .nil (fun _ _ => rfl) tk_of (da_cons (de_var (pv 0)) (da_cons de_int da_nil))))) dss_nil)
    (dss_one (ds_ret (de_op (od_add false) (de_op od_mul (de_call (dds := []) O0 (hr.mono (by omega)) rfl (kn.glo 7) F0.kp B1 .nil (fun _ _ => rfl) tk_of (da_cons (de_var (pv 0)) (da_cons de_int da_nil))) (de_call (dds := []) O2 (hr.mono (by omega)) rfl (kn.glo 8) F2.kp B3 .nil (fun _ _ => rfl) tk_of (da_cons (de_var (pv 0)) (da_cons (de_lst (hm := false) (da_cons de_int (da_cons de_int (da_cons de_int da_nil)))) da_nil)))) (de_call (dds := []) O0 (hr.mono (by omega)) rfl (kn.glo 7) F0.kp B1 .nil (fun _ _ => rfl) tk_of (da_cons (de_var (pv 0)) (da_cons de_int da_nil)))))))))
def b_law_span : SM := (sSeq (sIf (mTru (mVar 3)) (sRet (mOp gSub (mVar 1) (mCall (g2 gMin2) (mCons (mVar 1) (mCons (mOp gMul (mVar 2) (mOp gIx (mVar 0) (mC (.int 2)))) mNil))))) sNext)
    (sSeq (sIf (mTest (mOp gGe (mVar 1) (mOp gIx (mVar 0) (mC (.int 1))))) (sRet (mVar 1)) sNext)
    (sRet (mOp gSub (mOp gIx (mVar 0) (mC (.int 1))) (mCall (g2 gMax2) (mCons (mC (.int 0)) (mCons (mOp gSub (mOp gSub (mOp gIx (mVar 0) (mC (.int 1))) (mVar 1)) (mOp gMul (mVar 2) (mOp gIx (mVar 0) (mC (.int 0))))) mNil)))))))
def f_law_span : FM := runF 4 b_law_span
theorem ok_law_span {w : World} {K : PySem.W.Frag} {mg : Str → Option Value} {base : Heap} (kn : Kn K mg) : Has PP w K mg base 1 d_law_span ["numbers", "extra", "minutes", "lit"] f_law_span := by
  refine has_def (k := 0) (N := ["numbers", "extra", "minutes", "lit"]) (d := d_law_span) (kn.c.def_ 9 (d := d_law_span) rfl) sc_law_span fun f cdv A outer s H E hr => ?_
  delta b_law_span
  exact (dss_cons (ds_if (dt_truth (de_var (pv 3))) (dss_one (ds_ret (de_op od_sub (de_var (pv 1)) (de_callB (cd_min2 rfl) rfl (kn.free 25) (by decide +kernel) (da_cons (de_var (pv 1)) (da_cons (de_op od_mul (de_var (pv 2)) (de_ix (de_var (pv 0)) de_int (fun _ _ => rfl))) da_nil)))))) dss_nil)
    (dss_cons (ds_if (dt_cmp od_ge (de_var (pv 1)) (de_ix (de_var (pv 0)) de_int (fun _ _ => rfl)) (nomark _)) (dss_one (ds_ret (de_var (pv 1)))) dss_nil)
    (dss_one (ds_ret (de_op od_sub (de_ix (de_var (pv 0)) de_int (fun _ _ => rfl)) (de_callB (cd_max2 rfl) rfl (kn.free 26) (by decide +kernel) (da_cons de_int (da_cons (de_op od_sub (de_op od_sub (de_ix (de_var (pv 0)) de_int (fun _ _ => rfl)) (de_var (pv 1))) (de_op od_mul (de_var (pv 2)) (de_ix (de_var (pv 0)) de_int (fun _ _ => rfl)))) da_nil))))))))
def b_law_at : SM := (sSeq (sAsg (mC (.int 0)) (bName 3))
    (sSeq (sAsg (mC (.int 0)) (bName 4))
    (sSeq (sAsg (mC (.bl false)) (bName 5))
    (sSeq (sForL (mVar 1) (bName 6) (sIf (mTest (mOp gLe (mOp gIx (mVar 6) (mC (.int 0))) (mVar 2))) (sSeq (sAsg (mFn (arity 4 f_law_span) [] (mCons (mVar 0) (mCons (mVar 3) (mCons (mOp gSub (mOp gIx (mVar 6) (mC (.int 0))) (mVar 4)) (mCons (mVar 5) mNil))))) (bName 3))
    (sSeq (sAsg (mOp gIx (mVar 6) (mC (.int 0))) (bName 4))
    (sAsg (mOp gIx (mVar 6) (mC (.int 1))) (bName 5)))) sNext))
    (sRet (mLst false (mCons (mFn (arity 4 f_law_span) [] (mCons (mVar 0) (mCons (mVar 3) (mCons (mOp gSub (mVar 2) (mVar 4)) (mCons (mVar 5) mNil))))) (mCons (mVar 5) mNil))))))))
def f_law_at : FM := runF 7 b_law_at
theorem ok_law_at {w : World} {K : PySem.W.Frag} {mg : Str → Option Value} {base : Heap} (kn : Kn K mg) : Has PP w K mg base 2 d_law_at ["numbers", "marks", "minute"] f_law_at := by
  obtain ⟨fd0, F0, O0⟩ := ok_law_span (w := w) (base := base) kn
  have B1 := FunD.bindsN (ps := ["numbers", "extra", "minutes", "lit"]) F0 (fun _ _ _ _ _ _ us hl => match us, hl with | [_, _, _, _], _ => rfl)
  refine has_def (k := 1) (N := ["numbers", "marks", "minute", "extra", "at", "lit", "mark"]) (d := d_law_at) (kn.c.def_ 10 (d := d_law_at) rfl) sc_law_at fun f cdv A outer s H E hr => ?_
  delta b_law_at
  exact (dss_cons (ds_set (i := 3) sc_law_at.nd rfl (by first | exact .inl rfl | exact .inr rfl) de_int)
    (dss_cons (ds_set (i := 4) sc_law_at.nd rfl (by first | exact .inl rfl | exact .inr rfl) de_int)
    (dss_cons (ds_set (i := 5) sc_law_at.nd rfl (by first | exact .inl rfl | exact .inr rfl) de_bl)
    (dss_cons (ds_forL own_of rfl (de_var (pv 1)) (dg_name (i := 6) sc_law_at.nd rfl (by first | exact .inl rfl | exact .inr rfl)) (dss_one (ds_if (dt_cmp od_le (de_ix (de_var (pv 6)) de_int (fun _ _ => rfl)) (de_var (pv 2)) (nomark _)) (dss_cons (ds_set (i := 3) sc_law_at.nd rfl (by first | exact .inl rfl | exact .inr rfl) (de_call (dds := []) O0 (hr.mono (by omega)) rfl (kn.glo 27) F0.kp B1 .nil (fun _ _ => rfl) tk_of (da_cons (de_var (pv 0)) (da_cons (de_var (pv 3)) (da_cons (de_op od_sub (de_ix (de_var (pv 6)) de_int (fun _ _ => rfl)) (de_var (pv 4))) (da_cons (de_var (pv 5)) da_nil))))))
    (dss_cons (ds_set (i := 4) sc_law_at.nd rfl (by first | exact .inl rfl | exact .inr rfl) (de_ix (de_var (pv 6)) de_int (fun _ _ => rfl)))
    (dss_one (ds_set (i := 5) sc_law_at.nd rfl (by first | exact .inl rfl | exact .inr rfl) (de_ix (de_var (pv 6)) de_int (fun _ _ => rfl)))))) dss_nil)))
    (dss_one (ds_ret (de_lst (hm := false) (da_cons (de_call (dds := []) O0 (hr.mono (by omega)) rfl (kn.glo 27) F0.kp B1 .nil (fun _ _ => rfl) tk_of (da_cons (de_var (pv 0)) (da_cons (de_var (pv 3)) (da_cons (de_op od_sub (de_var (pv 2)) (de_var (pv 4))) (da_cons (de_var (pv 5)) da_nil))))) (da_cons (de_var (pv 5)) da_nil)))))))))
def b_meter_place : SM := (sSeq (sAsg (mC (.int 0)) (bName 2))
    (sSeq (sAsg (mCall (g1 gLen) (mCons (mFld "Meter" "_marks" (mVar 0)) mNil)) (bName 3))
    (sSeq (sWhile 100 (mTest (mOp gGt (mOp gSub (mVar 3) (mVar 2)) (mC (.int 1)))) (sSeq (sAsg (mOp gFdiv (mOp (gAdd false) (mVar 2) (mVar 3)) (mC (.int 2))) (bName 4))
    (sIf (mTest (mOp gLe (mOp gIx (mOp gIx (mFld "Meter" "_marks" (mVar 0)) (mVar 4)) (mC (.int 0))) (mVar 1))) (sAsg (mVar 4) (bName 2)) (sAsg (mVar 4) (bName 3)))))
    (sRet (mVar 2)))))
def f_meter_place : FM := runF 5 b_meter_place
theorem ok_meter_place {w : World} {K : PySem.W.Frag} {mg : Str → Option Value} {base : Heap} (kn : Kn K mg) : Has PP w K mg base 1 d_meter_place ["self", "minute"] f_meter_place := by
  refine has_def (k := 0) (N := ["self", "minute", "low", "high", "middle"]) (d := d_meter_place) (kn.c.def_ 11 (d := d_meter_place) rfl) sc_meter_place fun f cdv A outer s H E hr => ?_
  delta b_meter_place
  exact (dss_cons (ds_set (i := 2) sc_meter_place.nd rfl (by first | exact .inl rfl | exact .inr rfl) de_int)
    (dss_cons (ds_set (i := 3) sc_meter_place.nd rfl (by first | exact .inl rfl | exact .inr rfl) (de_callB cd_len rfl (kn.free 5) (by decide +kernel) (da_cons (de_fld (de_var (pv 0)) (kn.cls 21) (kn.noat 23)) da_nil)))
    (dss_cons (ds_while (n := 100) own_of (dt_cmp od_gt (de_op od_sub (de_var (pv 3)) (de_var (pv 2))) de_int (nomark _)) (dss_cons (ds_set (i := 4) sc_meter_place.nd rfl (by first | exact .inl rfl | exact .inr rfl) (de_op od_fdiv (de_op (od_add false) (de_var (pv 2)) (de_var (pv 3))) de_int))
    (dss_one (ds_if (dt_cmp od_le (de_ix (de_ix (de_fld (de_var (pv 0)) (kn.cls 21) (kn.noat 23)) (de_var (pv 4)) (fun _ _ => rfl)) de_int (fun _ _ => rfl)) (de_var (pv 1)) (nomark _)) (dss_one (ds_set (i := 2) sc_meter_place.nd rfl (by first | exact .inl rfl | exact .inr rfl) (de_var (pv 4)))) (dss_one (ds_set (i := 3) sc_meter_place.nd rfl (by first | exact .inl rfl | exact .inr rfl) (de_var (pv 4))))))))
    (dss_one (ds_ret (de_var (pv 2)))))))
def b_warm_behind : SM := (sSeq (sIf (mTru (mVar 3)) (sRet (mCall (g2 gMax2) (mCons (mC (.int 0)) (mCons (mOp gSub (mVar 1) (mOp gMul (mVar 2) (mFld "Warm" "fall" (mVar 0)))) mNil)))) sNext)
    (sRet (mCall (g2 gMax2) (mCons (mVar 1) (mCons (mCall (g2 gMin2) (mCons (mFld "Warm" "top" (mVar 0)) (mCons (mOp (gAdd false) (mVar 1) (mOp gMul (mVar 2) (mFld "Warm" "grow" (mVar 0)))) mNil))) mNil)))))
def f_warm_behind : FM := runF 4 b_warm_behind
theorem ok_warm_behind {w : World} {K : PySem.W.Frag} {mg : Str → Option Value} {base : Heap} (kn : Kn K mg) : Has PP w K mg base 1 d_warm_behind ["self", "extra", "minutes", "lit"] f_warm_behind := by
  refine has_def (k := 0) (N := ["self", "extra", "minutes", "lit"]) (d := d_warm_behind) (kn.c.def_ 12 (d := d_warm_behind) rfl) sc_warm_behind fun f cdv A outer s H E hr => ?_
  delta b_warm_behind
  exact (dss_cons (ds_if (dt_truth (de_var (pv 3))) (dss_one (ds_ret (de_callB (cd_max2 rfl) rfl (kn.free 26) (by decide +kernel) (da_cons de_int (da_cons (de_op od_sub (de_var (pv 1)) (de_op od_mul (de_var (pv 2)) (de_fld (de_var (pv 0)) (kn.cls 17) (kn.noat 20)))) da_nil))))) dss_nil)
    (dss_one (ds_ret (de_callB (cd_max2 rfl) rfl (kn.free 26) (by decide +kernel) (da_cons (de_var (pv 1)) (da_cons (de_callB (cd_min2 rfl) rfl (kn.free 25) (by decide +kernel) (da_cons (de_fld (de_var (pv 0)) (kn.cls 17) (kn.noat 19)) (da_cons (de_op (od_add false) (de_var (pv 1)) (de_op od_mul (de_var (pv 2)) (de_fld (de_var (pv 0)) (kn.cls 17) (kn.noat 18)))) da_nil))) da_nil))))))
def b_meter_extra : SM := (sSeq (sDrop (mFn (arity 3 f_checked_number) [] (mCons (mVar 1) (mCons (mC (.int 0)) (mCons (mC (.int 1000000000000)) mNil)))))
    (sSeq (sAsg (mMeth "Meter" "_place" (arity 2 f_meter_place) [] (mVar 0) (mCons (mVar 1) mNil)) (bName 2))
    (sSeq (sAsg (mOp gIx (mFld "Meter" "_marks" (mVar 0)) (mVar 2)) (bTup 2 (bCons (bName 3) (bCons (bName 4) bNil))))
    (sRet (mMeth "Warm" "behind" (arity 4 f_warm_behind) [] (mFld "Meter" "_warm" (mVar 0)) (mCons (mOp gIx (mFld "Meter" "_extras" (mVar 0)) (mVar 2)) (mCons (mOp gSub (mVar 1) (mVar 3)) (mCons (mVar 4) mNil))))))))
def f_meter_extra : FM := runF 5 b_meter_extra
theorem ok_meter_extra {w : World} {K : PySem.W.Frag} {mg : Str → Option Value} {base : Heap} (kn : Kn K mg) : Has PP w K mg base 3 d_meter_extra ["self", "minute"] f_meter_extra := by
  obtain ⟨fd0, F0, O0⟩ := ok_checked_number (w := w) (base := base) kn
  obtain ⟨ds1, V1, B1⟩ := FunD.binds1 (ps := ["value", "least", "most"]) F0 3 2 (by intro z; cases z) rfl (fun T kV doc pm an cdv ct us its h1 h2 => match us, its, h1, h2 with | [_, _, _], [_, _], _, _ => ⟨_, rfl, rfl⟩)
  obtain ⟨t2, G2⟩ := kn.int 28 (z := 1000000000000)
  obtain ⟨fd3, F3, O3⟩ := ok_meter_place (w := w) (base := base) kn
  have B4 := FunD.bindsN (ps := ["self", "minute"]) F3 (fun _ _ _ _ _ _ us hl => match us, hl with | [_, _], _ => rfl)
  obtain ⟨fd5, F5, O5⟩ := ok_warm_behind (w := w) (base := base) kn
  have B6 := FunD.bindsN (ps := ["self", "extra", "minutes", "lit"]) F5 (fun _ _ _ _ _ _ us hl => match us, hl with | [_, _, _, _], _ => rfl)
  refine has_def (k := 2) (N := ["self", "minute", "place", "begun", "lit"]) (d := d_meter_extra) (kn.c.def_ 13 (d := d_meter_extra) rfl) sc_meter_extra fun f cdv A outer s H E hr => ?_
  delta b_meter_extra
  exact (dss_cons (ds_expr (de_call (dds := []) O0 (hr.mono (by omega)) rfl (kn.glo 16) F0.kp B1 V1 (fun _ _ => rfl) tk_of (da_cons (de_var (pv 1)) (da_cons de_int (da_cons (de_c (pe_glob (v := .int 1000000000000) rfl G2 ⟨t2, rfl⟩) fun _ _ => rfl) da_nil)))))
    (dss_cons (ds_set (i := 2) sc_meter_extra.nd rfl (by first | exact .inl rfl | exact .inr rfl) (de_meth (c := "Meter") (dds := []) (de_var (pv 0)) (kn.cls 21) (kn.meth 29) O3 (hr.mono (by omega)) B4 .nil (fun _ _ => rfl) tk_of (da_cons (de_var (pv 1)) da_nil)))
    (dss_cons (ds_asg (de_ix (de_fld (de_var (pv 0)) (kn.cls 21) (kn.noat 23)) (de_var (pv 2)) (fun _ _ => rfl)) (dg_tup rfl (dgs_cons (dg_name (i := 3) sc_meter_extra.nd rfl (by first | exact .inl rfl | exact .inr rfl)) (dgs_cons (dg_name (i := 4) sc_meter_extra.nd rfl (by first | exact .inl rfl | exact .inr rfl)) dgs_nil))))
    (dss_one (ds_ret (de_meth (c := "Warm") (dds := []) (de_fld (de_var (pv 0)) (kn.cls 21) (kn.noat 22)) (kn.cls 17) (kn.meth 30) O5 (hr.mono (by omega)) B6 .nil (fun _ _ => rfl) tk_of (da_cons (de_ix (de_fld (de_var (pv 0)) (kn.cls 21) (kn.noat 24)) (de_var (pv 2)) (fun _ _ => rfl)) (da_cons (de_op od_sub (de_var (pv 1)) (de_var (pv 3))) (da_cons (de_var (pv 4)) da_nil)))))))))
def b_meter_last : SM := (sRet (mOp gIx (mOp gIx (mFld "Meter" "_marks" (mVar 0)) (mNeg (mC (.int 1)))) (mC (.int 0))))
def f_meter_last : FM := runF 1 b_meter_last
theorem ok_meter_last {w : World} {K : PySem.W.Frag} {mg : Str → Option Value} {base : Heap} (kn : Kn K mg) : Has PP w K mg base 1 d_meter_last ["self"] f_meter_last := by
  refine has_def (k := 0) (N := ["self"]) (d := d_meter_last) (kn.c.def_ 14 (d := d_meter_last) rfl) sc_meter_last fun f cdv A outer s H E hr => ?_
  delta b_meter_last
  exact (dss_one (ds_ret (de_ix (de_ix (de_fld (de_var (pv 0)) (kn.cls 21) (kn.noat 23)) (de_neg de_int) (fun _ _ => rfl)) de_int (fun _ _ => rfl))))
def b_meter_switch : SM := (sSeq (sDrop (mFn (arity 3 f_checked_number) [] (mCons (mVar 1) (mCons (mC (.int 0)) (mCons (mC (.int 1000000000000)) mNil)))))
    (sSeq (sIf (mTest (mOp gLt (mVar 1) (mMeth "Meter" "last" (arity 1 f_meter_last) [] (mVar 0) mNil))) (sRaiseX "NotNow" 1 x_NotNow (mCons (mC (.str "past")) mNil)) sNext)
    (sSeq (sAsg (mMeth "Meter" "extra" (arity 2 f_meter_extra) [] (mVar 0) (mCons (mVar 1) mNil)) (bName 3))
    (sSeq (sIf (mAnd (mTest (mOp gEq (mVar 1) (mMeth "Meter" "last" (arity 1 f_meter_last) [] (mVar 0) mNil))) (mTest (mOp gGt (mVar 1) (mC (.int 0))))) (sSeq (sDrop (mBL gPop (mFld "Meter" "_marks" (mVar 0)) mNil))
    (sDrop (mBL gPop (mFld "Meter" "_extras" (mVar 0)) mNil))) sNext)
    (sIf (mTest (mOp gEq (mVar 1) (mC (.int 0)))) (sSeq (sFldM "Meter" "_marks" (mVar 0) (mLst true (mCons (mTup (mCons (mC (.int 0)) (mCons (mVar 2) mNil))) mNil)))
    (sFldM "Meter" "_extras" (mVar 0) (mLst true (mCons (mC (.int 0)) mNil)))) (sIf (mTest (mOp gNe (mOp gIx (mOp gIx (mFld "Meter" "_marks" (mVar 0)) (mNeg (mC (.int 1)))) (mC (.int 1))) (mVar 2))) (sSeq (sDrop (mApp (mFld "Meter" "_marks" (mVar 0)) (mTup (mCons (mVar 1) (mCons (mVar 2) mNil)))))
    (sDrop (mApp (mFld "Meter" "_extras" (mVar 0)) (mVar 3)))) sNext))))))
def f_meter_switch : FM := runF 4 b_meter_switch
theorem ok_meter_switch {w : World} {K : PySem.W.Frag} {mg : Str → Option Value} {base : Heap} (kn : Kn K mg) : Has PP w K mg base 4 d_meter_switch ["self", "minute", "lit"] f_meter_switch := by
  obtain ⟨fd0, F0, O0⟩ := ok_checked_number (w := w) (base := base) kn
  obtain ⟨ds1, V1, B1⟩ := FunD.binds1 (ps := ["value", "least", "most"]) F0 3 2 (by intro z; cases z) rfl (fun T kV doc pm an cdv ct us its h1 h2 => match us, its, h1, h2 with | [_, _, _], [_, _], _, _ => ⟨_, rfl, rfl⟩)
  obtain ⟨t2, G2⟩ := kn.int 28 (z := 1000000000000)
  obtain ⟨fd3, F3, O3⟩ := ok_meter_last (w := w) (base := base) kn
  have B4 := FunD.bindsN (ps := ["self"]) F3 (fun _ _ _ _ _ _ us hl => match us, hl with | [_], _ => rfl)
  have X5 := has_NotNow (w := w) (base := base) kn
  obtain ⟨fd6, F6, O6⟩ := ok_meter_extra (w := w) (base := base) kn
  have B7 := FunD.bindsN (ps := ["self", "minute"]) F6 (fun _ _ _ _ _ _ us hl => match us, hl with | [_, _], _ => rfl)
  refine has_def (k := 3) (N := ["self", "minute", "lit", "extra"]) (d := d_meter_switch) (kn.c.def_ 15 (d := d_meter_switch) rfl) sc_meter_switch fun f cdv A outer s H E hr => ?_
  delta b_meter_switch
  exact (dss_cons (ds_expr (de_call (dds := []) O0 (hr.mono (by omega)) rfl (kn.glo 16) F0.kp B1 V1 (fun _ _ => rfl) tk_of (da_cons (de_var (pv 1)) (da_cons de_int (da_cons (de_c (pe_glob (v := .int 1000000000000) rfl G2 ⟨t2, rfl⟩) fun _ _ => rfl) da_nil)))))
    (dss_cons (ds_if (dt_cmp od_lt (de_var (pv 1)) (de_meth0 (c := "Meter") (dds := []) (de_var (pv 0)) (kn.cls 21) (kn.meth 31) O3 (hr.mono (by omega)) B4 .nil (fun _ _ => rfl) tk_of) (nomark _)) (dss_one (ds_raiseX rfl tk_of X5 (hr.mono (by omega)) rfl (kn.glo 32) (da_cons de_str da_nil))) dss_nil)
    (dss_cons (ds_set (i := 3) sc_meter_switch.nd rfl (by first | exact .inl rfl | exact .inr rfl) (de_meth (c := "Meter") (dds := []) (de_var (pv 0)) (kn.cls 21) (kn.meth 33) O6 (hr.mono (by omega)) B7 .nil (fun _ _ => rfl) tk_of (da_cons (de_var (pv 1)) da_nil)))
    (dss_cons (ds_if (PW.pt (dw_and (dt_cmp (od_eq hr.units) (de_var (pv 1)) (de_meth0 (c := "Meter") (dds := []) (de_var (pv 0)) (kn.cls 21) (kn.meth 31) O3 (hr.mono (by omega)) B4 .nil (fun _ _ => rfl) tk_of) (nomark _)) (dw_and1 (dt_cmp od_gt (de_var (pv 1)) de_int (nomark _))))) (dss_cons (ds_expr (de_bL0 PySem.F.plainAttrs_list PySem.F.slot_list_pop PySem.F.type_list_pop ml_pop (de_fld (de_var (pv 0)) (kn.cls 21) (kn.noat 23)) ))
    (dss_one (ds_expr (de_bL0 PySem.F.plainAttrs_list PySem.F.slot_list_pop PySem.F.type_list_pop ml_pop (de_fld (de_var (pv 0)) (kn.cls 21) (kn.noat 24)) )))) dss_nil)
    (dss_one (ds_if (dt_cmp (od_eq hr.units) (de_var (pv 1)) de_int (nomark _)) (dss_cons (ds_fld (de_var (pv 0)) (de_lst (hm := true) (da_cons (de_tup (da_cons de_int (da_cons (de_var (pv 2)) da_nil))) da_nil)) (kn.cls 21) (kn.noat 23))
    (dss_one (ds_fld (de_var (pv 0)) (de_lst (hm := true) (da_cons de_int da_nil)) (kn.cls 21) (kn.noat 24)))) (dss_one (ds_if (dt_cmp (od_ne hr.units) (de_ix (de_ix (de_fld (de_var (pv 0)) (kn.cls 21) (kn.noat 23)) (de_neg de_int) (fun _ _ => rfl)) de_int (fun _ _ => rfl)) (de_var (pv 2)) (nomark _)) (dss_cons (ds_expr (de_app (de_fld (de_var (pv 0)) (kn.cls 21) (kn.noat 23)) (de_tup (da_cons (de_var (pv 1)) (da_cons (de_var (pv 2)) da_nil)))))
    (dss_one (ds_expr (de_app (de_fld (de_var (pv 0)) (kn.cls 21) (kn.noat 24)) (de_var (pv 3)))))) dss_nil))))))))
def b_warm_until : SM := (sSeq (sIf (mTest (mOp gLe (mVar 1) (mVar 2))) (sRet (mC (.int 0))) sNext)
    (sSeq (sIf (mTest (mOp gEq (mFld "Warm" "fall" (mVar 0)) (mC (.int 0)))) (sRet (mC .non)) sNext)
    (sRet (mOp gFdiv (mOp gSub (mOp (gAdd false) (mOp gSub (mVar 1) (mVar 2)) (mFld "Warm" "fall" (mVar 0))) (mC (.int 1))) (mFld "Warm" "fall" (mVar 0))))))
def f_warm_until : FM := runF 3 b_warm_until
theorem ok_warm_until {w : World} {K : PySem.W.Frag} {mg : Str → Option Value} {base : Heap} (kn : Kn K mg) : Has PP w K mg base 1 d_warm_until ["self", "extra", "least"] f_warm_until := by
  refine has_def (k := 0) (N := ["self", "extra", "least"]) (d := d_warm_until) (kn.c.def_ 16 (d := d_warm_until) rfl) sc_warm_until fun f cdv A outer s H E hr => ?_
  delta b_warm_until
  exact (dss_cons (ds_if (dt_cmp od_le (de_var (pv 1)) (de_var (pv 2)) (nomark _)) (dss_one (ds_ret de_int)) dss_nil)
    (dss_cons (ds_if (dt_cmp (od_eq hr.units) (de_fld (de_var (pv 0)) (kn.cls 17) (kn.noat 20)) de_int (nomark _)) (dss_one (ds_ret de_non)) dss_nil)
    (dss_one (ds_ret (de_op od_fdiv (de_op od_sub (de_op (od_add false) (de_op od_sub (de_var (pv 1)) (de_var (pv 2))) (de_fld (de_var (pv 0)) (kn.cls 17) (kn.noat 20))) de_int) (de_fld (de_var (pv 0)) (kn.cls 17) (kn.noat 20)))))))
def b_meter_settles : SM := (sSeq (sAsg (mMeth "Warm" "until" (arity 3 f_warm_until) [] (mFld "Meter" "_warm" (mVar 0)) (mCons (mMeth "Meter" "extra" (arity 2 f_meter_extra) [] (mVar 0) (mCons (mVar 1) mNil)) (mCons (mVar 2) mNil))) (bName 3))
    (sSeq (sIf (mTest (mOp gIs (mVar 3) (mC .non))) (sRet (mC .non)) sNext)
    (sRet (mOp (gAdd false) (mVar 1) (mVar 3)))))
def f_meter_settles : FM := runF 4 b_meter_settles
theorem ok_meter_settles {w : World} {K : PySem.W.Frag} {mg : Str → Option Value} {base : Heap} (kn : Kn K mg) : Has PP w K mg base 4 d_meter_settles ["self", "minute", "least"] f_meter_settles := by
  obtain ⟨fd0, F0, O0⟩ := ok_warm_until (w := w) (base := base) kn
  have B1 := FunD.bindsN (ps := ["self", "extra", "least"]) F0 (fun _ _ _ _ _ _ us hl => match us, hl with | [_, _, _], _ => rfl)
  obtain ⟨fd2, F2, O2⟩ := ok_meter_extra (w := w) (base := base) kn
  have B3 := FunD.bindsN (ps := ["self", "minute"]) F2 (fun _ _ _ _ _ _ us hl => match us, hl with | [_, _], _ => rfl)
  refine has_def (k := 3) (N := ["self", "minute", "least", "more"]) (d := d_meter_settles) (kn.c.def_ 17 (d := d_meter_settles) rfl) sc_meter_settles fun f cdv A outer s H E hr => ?_
  delta b_meter_settles
  exact (dss_cons (ds_set (i := 3) sc_meter_settles.nd rfl (by first | exact .inl rfl | exact .inr rfl) (de_meth (c := "Warm") (dds := []) (de_fld (de_var (pv 0)) (kn.cls 21) (kn.noat 22)) (kn.cls 17) (kn.meth 34) O0 (hr.mono (by omega)) B1 .nil (fun _ _ => rfl) tk_of (da_cons (de_meth (c := "Meter") (dds := []) (de_var (pv 0)) (kn.cls 21) (kn.meth 33) O2 (hr.mono (by omega)) B3 .nil (fun _ _ => rfl) tk_of (da_cons (de_var (pv 1)) da_nil)) (da_cons (de_var (pv 2)) da_nil))))
    (dss_cons (ds_if (dt_cmp od_is (de_var (pv 3)) de_non (nomark _)) (dss_one (ds_ret de_non)) dss_nil)
    (dss_one (ds_ret (de_op (od_add false) (de_var (pv 1)) (de_var (pv 3)))))))
def b_law_same (self_ : FM) : SM := (sSeq (sIf (mTest (mOp gIs (mVar 1) (mC .non))) (sRet (mOp gIs (mVar 0) (mC .non))) sNext)
    (sSeq (sIf (mTest (mIsiT ["tuple", "list"] (mVar 1))) (sSeq (sIf (mOr (mTest (mOp gNe (mIsi "tuple" (mVar 1)) (mIsi "tuple" (mVar 0)))) (mTest (mOp gNe (mIsi "list" (mVar 1)) (mIsi "list" (mVar 0))))) (sRet (mC (.bl false))) sNext)
    (sSeq (sIf (mTest (mOp gNe (mCall (g1 gLen) (mCons (mVar 0) mNil)) (mCall (g1 gLen) (mCons (mVar 1) mNil)))) (sRet (mC (.bl false))) sNext)
    (sSeq (sForR1 (mCons (mCall (g1 gLen) (mCons (mVar 1) mNil)) mNil) (bName 2) (sIf (mNot (mTest (mFn (arity 2 self_) [] (mCons (mOp gIx (mVar 0) (mVar 2)) (mCons (mOp gIx (mVar 1) (mVar 2)) mNil))))) (sRet (mC (.bl false))) sNext))
    (sRet (mC (.bl true)))))) sNext)
    (sSeq (sIf (mTest (mIsi "bool" (mVar 1))) (sRet (mAndV (mIsi "bool" (mVar 0)) (mOp gEq (mVar 0) (mVar 1)))) sNext)
    (sSeq (sIf (mTest (mIsi "int" (mVar 1))) (sRet (mAndV (mIsi "int" (mVar 0)) (mAndV (mNotV (mIsi "bool" (mVar 0))) (mOp gEq (mVar 0) (mVar 1))))) sNext)
    (sRet (mAndV (mIsi "str" (mVar 0)) (mOp gEq (mVar 0) (mVar 1))))))))
def f_law_same : Nat → FM
  | 0 => fun _ _ => .bad
  | g + 1 => runF 3 (b_law_same (f_law_same g))
theorem ok_law_same {w : World} {K : PySem.W.Frag} {mg : Str → Option Value} {base : Heap} (kn : Kn K mg) : ∀ g : Nat, Has PP w K mg base (0 + g) d_law_same ["actual", "due"] (f_law_same g)
  | 0 => has_bad (kn.c.def_ 18 (d := d_law_same) rfl)
  | g + 1 => by
    obtain ⟨fdR, FR, OR⟩ := ok_law_same (w := w) (base := base) kn g
    have B0 := FunD.bindsN (ps := ["actual", "due"]) FR (fun _ _ _ _ _ _ us hl => match us, hl with | [_, _], _ => rfl)
    refine has_def (k := 0 + g) (N := ["actual", "due", "k"]) (d := d_law_same) (kn.c.def_ 18 (d := d_law_same) rfl) sc_law_same fun f cdv A outer s H E hr => ?_
    delta b_law_same
    exact (dss_cons (ds_if (dt_cmp od_is (de_var (pv 1)) de_non (nomark _)) (dss_one (ds_ret (de_cmp od_is (de_var (pv 0)) de_non (nomark _)))) dss_nil)
    (dss_cons (ds_if (dt_val (de_isiT (Ts := ["tuple", "list"]) rfl (kn.free 10) (by decide +kernel) (.cons rfl (kn.free 35) (by decide +kernel) (by decide) (by decide) rfl (.cons rfl (kn.free 3) (by decide +kernel) (by decide) (by decide) rfl .nil)) (by decide) (de_var (pv 1)))) (dss_cons (ds_if (PW.pt (dw_or (dt_cmp (od_ne hr.units) (de_isi (T := "tuple") rfl (kn.free 10) (by decide +kernel) rfl (kn.free 35) (by decide +kernel) (de_var (pv 1))) (de_isi (T := "tuple") rfl (kn.free 10) (by decide +kernel) rfl (kn.free 35) (by decide +kernel) (de_var (pv 0))) (nomark _)) (dw_or1 (dt_cmp (od_ne hr.units) (de_isi (T := "list") rfl (kn.free 10) (by decide +kernel) rfl (kn.free 3) (by decide +kernel) (de_var (pv 1))) (de_isi (T := "list") rfl (kn.free 10) (by decide +kernel) rfl (kn.free 3) (by decide +kernel) (de_var (pv 0))) (nomark _))))) (dss_one (ds_ret de_bl)) dss_nil)
    (dss_cons (ds_if (dt_cmp (od_ne hr.units) (de_callB cd_len rfl (kn.free 5) (by decide +kernel) (da_cons (de_var (pv 0)) da_nil)) (de_callB cd_len rfl (kn.free 5) (by decide +kernel) (da_cons (de_var (pv 1)) da_nil)) (nomark _)) (dss_one (ds_ret de_bl)) dss_nil)
    (dss_cons (ds_forR1 own_of rfl rfl (kn.free 9) (da_cons (de_callB cd_len rfl (kn.free 5) (by decide +kernel) (da_cons (de_var (pv 1)) da_nil)) da_nil) (dg_name (i := 2) sc_law_same.nd rfl (by first | exact .inl rfl | exact .inr rfl)) (dss_one (ds_if (dt_not (dt_val (de_call (dds := []) OR (hr.mono (by omega)) rfl (kn.glo 36) FR.kp B0 .nil (fun _ _ => rfl) tk_of (da_cons (de_ix (de_var (pv 0)) (de_var (pv 2)) (fun _ _ => rfl)) (da_cons (de_ix (de_var (pv 1)) (de_var (pv 2)) (fun _ _ => rfl)) da_nil))))) (dss_one (ds_ret de_bl)) dss_nil)))
    (dss_one (ds_ret de_bl))))) dss_nil)
    (dss_cons (ds_if (dt_val (de_isi (T := "bool") rfl (kn.free 10) (by decide +kernel) rfl (kn.free 11) (by decide +kernel) (de_var (pv 1)))) (dss_one (ds_ret (de_and (de_isi (T := "bool") rfl (kn.free 10) (by decide +kernel) rfl (kn.free 11) (by decide +kernel) (de_var (pv 0))) (de_and1 (by exact (de_cmp (od_eq hr.units) (de_var (pv 0)) (de_var (pv 1)) (nomark _))))))) dss_nil)
    (dss_cons (ds_if (dt_val (de_isi (T := "int") rfl (kn.free 10) (by decide +kernel) rfl (kn.free 4) (by decide +kernel) (de_var (pv 1)))) (dss_one (ds_ret (de_and (de_isi (T := "int") rfl (kn.free 10) (by decide +kernel) rfl (kn.free 4) (by decide +kernel) (de_var (pv 0))) (de_and (de_not (de_isi (T := "bool") rfl (kn.free 10) (by decide +kernel) rfl (kn.free 11) (by decide +kernel) (de_var (pv 0)))) (de_and1 (by exact (de_cmp (od_eq hr.units) (de_var (pv 0)) (de_var (pv 1)) (nomark _)))))))) dss_nil)
    (dss_one (ds_ret (de_and (de_isi (T := "str") rfl (kn.free 10) (by decide +kernel) rfl (kn.free 13) (by decide +kernel) (de_var (pv 0))) (de_and1 (by exact (de_cmp (od_eq hr.units) (de_var (pv 0)) (de_var (pv 1)) (nomark _)))))))))))
def b_meter_peak : SM := (sSeq (sDrop (mFn (arity 3 f_checked_number) [] (mCons (mVar 1) (mCons (mC (.int 0)) (mCons (mC (.int 1000000000000)) mNil)))))
    (sSeq (sDrop (mFn (arity 3 f_checked_number) [] (mCons (mVar 2) (mCons (mVar 1) (mCons (mC (.int 1000000000000)) mNil)))))
    (sSeq (sAsg (mLst true (mCons (mMeth "Meter" "extra" (arity 2 f_meter_extra) [] (mVar 0) (mCons (mVar 1) mNil)) (mCons (mMeth "Meter" "extra" (arity 2 f_meter_extra) [] (mVar 0) (mCons (mVar 2) mNil)) mNil))) (bName 3))
    (sSeq (sForL (mFld "Meter" "_marks" (mVar 0)) (bTup 2 (bCons (bName 4) (bCons (bName 5) bNil))) (sIf (mTest (mChain gLe gLe (mVar 1) (mVar 4) (mVar 2))) (sDrop (mApp (mVar 3) (mMeth "Meter" "extra" (arity 2 f_meter_extra) [] (mVar 0) (mCons (mVar 4) mNil)))) sNext))
    (sRet (mCall (g1 gMaxL) (mCons (mVar 3) mNil)))))))
def f_meter_peak : FM := runF 6 b_meter_peak
theorem ok_meter_peak {w : World} {K : PySem.W.Frag} {mg : Str → Option Value} {base : Heap} (kn : Kn K mg) : Has PP w K mg base 4 d_meter_peak ["self", "begin", "end"] f_meter_peak := by
  obtain ⟨fd0, F0, O0⟩ := ok_checked_number (w := w) (base := base) kn
  obtain ⟨ds1, V1, B1⟩ := FunD.binds1 (ps := ["value", "least", "most"]) F0 3 2 (by intro z; cases z) rfl (fun T kV doc pm an cdv ct us its h1 h2 => match us, its, h1, h2 with | [_, _, _], [_, _], _, _ => ⟨_, rfl, rfl⟩)
  obtain ⟨t2, G2⟩ := kn.int 28 (z := 1000000000000)
  obtain ⟨fd3, F3, O3⟩ := ok_meter_extra (w := w) (base := base) kn
  have B4 := FunD.bindsN (ps := ["self", "minute"]) F3 (fun _ _ _ _ _ _ us hl => match us, hl with | [_, _], _ => rfl)
  refine has_def (k := 3) (N := ["self", "begin", "end", "found", "minute", "lit"]) (d := d_meter_peak) (kn.c.def_ 19 (d := d_meter_peak) rfl) sc_meter_peak fun f cdv A outer s H E hr => ?_
  delta b_meter_peak
  exact (dss_cons (ds_expr (de_call (dds := []) O0 (hr.mono (by omega)) rfl (kn.glo 16) F0.kp B1 V1 (fun _ _ => rfl) tk_of (da_cons (de_var (pv 1)) (da_cons de_int (da_cons (de_c (pe_glob (v := .int 1000000000000) rfl G2 ⟨t2, rfl⟩) fun _ _ => rfl) da_nil)))))
    (dss_cons (ds_expr (de_call (dds := []) O0 (hr.mono (by omega)) rfl (kn.glo 16) F0.kp B1 V1 (fun _ _ => rfl) tk_of (da_cons (de_var (pv 2)) (da_cons (de_var (pv 1)) (da_cons (de_c (pe_glob (v := .int 1000000000000) rfl G2 ⟨t2, rfl⟩) fun _ _ => rfl) da_nil)))))
    (dss_cons (ds_set (i := 3) sc_meter_peak.nd rfl (by first | exact .inl rfl | exact .inr rfl) (de_lst (hm := true) (da_cons (de_meth (c := "Meter") (dds := []) (de_var (pv 0)) (kn.cls 21) (kn.meth 33) O3 (hr.mono (by omega)) B4 .nil (fun _ _ => rfl) tk_of (da_cons (de_var (pv 1)) da_nil)) (da_cons (de_meth (c := "Meter") (dds := []) (de_var (pv 0)) (kn.cls 21) (kn.meth 33) O3 (hr.mono (by omega)) B4 .nil (fun _ _ => rfl) tk_of (da_cons (de_var (pv 2)) da_nil)) da_nil))))
    (dss_cons (ds_forL own_of rfl (de_fld (de_var (pv 0)) (kn.cls 21) (kn.noat 23)) (dg_tup rfl (dgs_cons (dg_name (i := 4) sc_meter_peak.nd rfl (by first | exact .inl rfl | exact .inr rfl)) (dgs_cons (dg_name (i := 5) sc_meter_peak.nd rfl (by first | exact .inl rfl | exact .inr rfl)) dgs_nil))) (dss_one (ds_if (dt_chain od_le od_le (de_var (pv 1)) (de_var (pv 4)) (de_var (pv 2))) (dss_one (ds_expr (de_app (de_var (pv 3)) (de_meth (c := "Meter") (dds := []) (de_var (pv 0)) (kn.cls 21) (kn.meth 33) O3 (hr.mono (by omega)) B4 .nil (fun _ _ => rfl) tk_of (da_cons (de_var (pv 4)) da_nil))))) dss_nil)))
    (dss_one (ds_ret (de_callB (cd_maxL rfl) rfl (kn.free 26) (by decide +kernel) (da_cons (de_var (pv 3)) da_nil))))))))
def b_meter_dark_minutes : SM := (sSeq (sDrop (mFn (arity 3 f_checked_number) [] (mCons (mVar 1) (mCons (mC (.int 0)) (mCons (mC (.int 1000000000000)) mNil)))))
    (sSeq (sDrop (mFn (arity 3 f_checked_number) [] (mCons (mVar 2) (mCons (mC (.int 0)) (mCons (mC (.int 1000000000000)) mNil)))))
    (sSeq (sAsg (mC (.int 0)) (bName 3))
    (sSeq (sForR1 (mCons (mCall (g1 gLen) (mCons (mFld "Meter" "_marks" (mVar 0)) mNil)) mNil) (bName 4) (sSeq (sAsg (mOp gIx (mFld "Meter" "_marks" (mVar 0)) (mVar 4)) (bTup 2 (bCons (bName 5) (bCons (bName 6) bNil))))
    (sSeq (sAsg (mVar 2) (bName 7))
    (sSeq (sIf (mTest (mOp gLt (mOp (gAdd false) (mVar 4) (mC (.int 1))) (mCall (g1 gLen) (mCons (mFld "Meter" "_marks" (mVar 0)) mNil)))) (sAsg (mOp gIx (mOp gIx (mFld "Meter" "_marks" (mVar 0)) (mOp (gAdd false) (mVar 4) (mC (.int 1)))) (mC (.int 0))) (bName 7)) sNext)
    (sIf (mNot (mTru (mVar 6))) (sAsg (mOp (gAdd false) (mVar 3) (mCall (g2 gMax2) (mCons (mC (.int 0)) (mCons (mOp gSub (mCall (g2 gMin2) (mCons (mVar 2) (mCons (mVar 7) mNil))) (mCall (g2 gMax2) (mCons (mVar 1) (mCons (mVar 5) mNil)))) mNil)))) (bName 3)) sNext)))))
    (sRet (mVar 3))))))
def f_meter_dark_minutes : FM := runF 8 b_meter_dark_minutes
theorem ok_meter_dark_minutes {w : World} {K : PySem.W.Frag} {mg : Str → Option Value} {base : Heap} (kn : Kn K mg) : Has PP w K mg base 3 d_meter_dark_minutes ["self", "begin", "end"] f_meter_dark_minutes := by
  obtain ⟨fd0, F0, O0⟩ := ok_checked_number (w := w) (base := base) kn
  obtain ⟨ds1, V1, B1⟩ := FunD.binds1 (ps := ["value", "least", "most"]) F0 3 2 (by intro z; cases z) rfl (fun T kV doc pm an cdv ct us its h1 h2 => match us, its, h1, h2 with | [_, _, _], [_, _], _, _ => ⟨_, rfl, rfl⟩)
  obtain ⟨t2, G2⟩ := kn.int 28 (z := 1000000000000)
  refine has_def (k := 2) (N := ["self", "begin", "end", "total", "index", "minute", "lit", "behind"]) (d := d_meter_dark_minutes) (kn.c.def_ 20 (d := d_meter_dark_minutes) rfl) sc_meter_dark_minutes fun f cdv A outer s H E hr => ?_
  delta b_meter_dark_minutes
  exact (dss_cons (ds_expr (de_call (dds := []) O0 (hr.mono (by omega)) rfl (kn.glo 16) F0.kp B1 V1 (fun _ _ => rfl) tk_of (da_cons (de_var (pv 1)) (da_cons de_int (da_cons (de_c (pe_glob (v := .int 1000000000000) rfl G2 ⟨t2, rfl⟩) fun _ _ => rfl) da_nil)))))
    (dss_cons (ds_expr (de_call (dds := []) O0 (hr.mono (by omega)) rfl (kn.glo 16) F0.kp B1 V1 (fun _ _ => rfl) tk_of (da_cons (de_var (pv 2)) (da_cons de_int (da_cons (de_c (pe_glob (v := .int 1000000000000) rfl G2 ⟨t2, rfl⟩) fun _ _ => rfl) da_nil)))))
    (dss_cons (ds_set (i := 3) sc_meter_dark_minutes.nd rfl (by first | exact .inl rfl | exact .inr rfl) de_int)
    (dss_cons (ds_forR1 own_of rfl rfl (kn.free 9) (da_cons (de_callB cd_len rfl (kn.free 5) (by decide +kernel) (da_cons (de_fld (de_var (pv 0)) (kn.cls 21) (kn.noat 23)) da_nil)) da_nil) (dg_name (i := 4) sc_meter_dark_minutes.nd rfl (by first | exact .inl rfl | exact .inr rfl)) (dss_cons (ds_asg (de_ix (de_fld (de_var (pv 0)) (kn.cls 21) (kn.noat 23)) (de_var (pv 4)) (fun _ _ => rfl)) (dg_tup rfl (dgs_cons (dg_name (i := 5) sc_meter_dark_minutes.nd rfl (by first | exact .inl rfl | exact .inr rfl)) (dgs_cons (dg_name (i := 6) sc_meter_dark_minutes.nd rfl (by first | exact .inl rfl | exact .inr rfl)) dgs_nil))))
    (dss_cons (ds_set (i := 7) sc_meter_dark_minutes.nd rfl (by first | exact .inl rfl | exact .inr rfl) (de_var (pv 2)))
    (dss_cons (ds_if (dt_cmp od_lt (de_op (od_add false) (de_var (pv 4)) de_int) (de_callB cd_len rfl (kn.free 5) (by decide +kernel) (da_cons (de_fld (de_var (pv 0)) (kn.cls 21) (kn.noat 23)) da_nil)) (nomark _)) (dss_one (ds_set (i := 7) sc_meter_dark_minutes.nd rfl (by first | exact .inl rfl | exact .inr rfl) (de_ix (de_ix (de_fld (de_var (pv 0)) (kn.cls 21) (kn.noat 23)) (de_op (od_add false) (de_var (pv 4)) de_int) (fun _ _ => rfl)) de_int (fun _ _ => rfl)))) dss_nil)
    (dss_one (ds_if (dt_not (dt_truth (de_var (pv 6)))) (dss_one (ds_set (i := 3) sc_meter_dark_minutes.nd rfl (by first | exact .inl rfl | exact .inr rfl) (de_op (od_add false) (de_var (pv 3)) (de_callB (cd_max2 rfl) rfl (kn.free 26) (by decide +kernel) (da_cons de_int (da_cons (de_op od_sub (de_callB (cd_min2 rfl) rfl (kn.free 25) (by decide +kernel) (da_cons (de_var (pv 2)) (da_cons (de_var (pv 7)) da_nil))) (de_callB (cd_max2 rfl) rfl (kn.free 26) (by decide +kernel) (da_cons (de_var (pv 1)) (da_cons (de_var (pv 5)) da_nil)))) da_nil)))))) dss_nil))))))
    (dss_one (ds_ret (de_var (pv 3))))))))
def b_meter_is_lit : SM := (sSeq (sDrop (mFn (arity 3 f_checked_number) [] (mCons (mVar 1) (mCons (mC (.int 0)) (mCons (mC (.int 1000000000000)) mNil)))))
    (sRet (mOp gIx (mOp gIx (mFld "Meter" "_marks" (mVar 0)) (mMeth "Meter" "_place" (arity 2 f_meter_place) [] (mVar 0) (mCons (mVar 1) mNil))) (mC (.int 1)))))
def f_meter_is_lit : FM := runF 2 b_meter_is_lit
theorem ok_meter_is_lit {w : World} {K : PySem.W.Frag} {mg : Str → Option Value} {base : Heap} (kn : Kn K mg) : Has PP w K mg base 3 d_meter_is_lit ["self", "minute"] f_meter_is_lit := by
  obtain ⟨fd0, F0, O0⟩ := ok_checked_number (w := w) (base := base) kn
  obtain ⟨ds1, V1, B1⟩ := FunD.binds1 (ps := ["value", "least", "most"]) F0 3 2 (by intro z; cases z) rfl (fun T kV doc pm an cdv ct us its h1 h2 => match us, its, h1, h2 with | [_, _, _], [_, _], _, _ => ⟨_, rfl, rfl⟩)
  obtain ⟨t2, G2⟩ := kn.int 28 (z := 1000000000000)
  obtain ⟨fd3, F3, O3⟩ := ok_meter_place (w := w) (base := base) kn
  have B4 := FunD.bindsN (ps := ["self", "minute"]) F3 (fun _ _ _ _ _ _ us hl => match us, hl with | [_, _], _ => rfl)
  refine has_def (k := 2) (N := ["self", "minute"]) (d := d_meter_is_lit) (kn.c.def_ 21 (d := d_meter_is_lit) rfl) sc_meter_is_lit fun f cdv A outer s H E hr => ?_
  delta b_meter_is_lit
  exact (dss_cons (ds_expr (de_call (dds := []) O0 (hr.mono (by omega)) rfl (kn.glo 16) F0.kp B1 V1 (fun _ _ => rfl) tk_of (da_cons (de_var (pv 1)) (da_cons de_int (da_cons (de_c (pe_glob (v := .int 1000000000000) rfl G2 ⟨t2, rfl⟩) fun _ _ => rfl) da_nil)))))
    (dss_one (ds_ret (de_ix (de_ix (de_fld (de_var (pv 0)) (kn.cls 21) (kn.noat 23)) (de_meth (c := "Meter") (dds := []) (de_var (pv 0)) (kn.cls 21) (kn.meth 29) O3 (hr.mono (by omega)) B4 .nil (fun _ _ => rfl) tk_of (da_cons (de_var (pv 1)) da_nil)) (fun _ _ => rfl)) de_int (fun _ _ => rfl)))))
def sub_law_refused_199 (nm : Str) : Option Bool := if nm = "InvalidNumber" then some true else if nm = "NotNow" then some true else none
theorem subok_law_refused_199 {K : PySem.W.Frag} {mg : Str → Option Value} (kn : Kn K mg) (nm : Str) (b : Bool) (z : sub_law_refused_199 nm = some b) : PySem.W.exmOne K (.ref (He.ga K nm)) (.ref (He.ga K "RiseError")) = some b := by
  unfold sub_law_refused_199 at z
  split at z
  · rename_i e; cases z; rw [e]; exact kn.exm 37
  split at z
  · rename_i e; cases z; rw [e]; exact kn.exm 38
  cases z
def b_law_refused : SM := (sSeq (sTryE sub_law_refused_199 (some 3) (sIf (mTest (mOp gEq (mVar 0) (mC (.int 0)))) (sDrop (mMeth "Meter" "extra" (arity 2 f_meter_extra) [] (mVar 1) (mCons (mVar 2) mNil))) (sIf (mTest (mOp gEq (mVar 0) (mC (.int 1)))) (sDrop (mMeth "Meter" "switch" (arity 3 f_meter_switch) [] (mVar 1) (mCons (mVar 2) (mCons (mC (.bl true)) mNil)))) (sIf (mTest (mOp gEq (mVar 0) (mC (.int 2)))) (sDrop (mMeth "Meter" "peak" (arity 3 f_meter_peak) [] (mVar 1) (mCons (mVar 2) (mCons (mC (.int 5)) mNil)))) (sIf (mTest (mOp gEq (mVar 0) (mC (.int 3)))) (sDrop (mMeth "Meter" "dark_minutes" (arity 3 f_meter_dark_minutes) [] (mVar 1) (mCons (mC (.int 5)) (mCons (mVar 2) mNil)))) (sIf (mTest (mOp gEq (mVar 0) (mC (.int 4)))) (sDrop (mMake "Warm" (arity 4 f_warm_init) [] (mCons (mVar 2) (mCons (mC (.int 5)) (mCons (mC (.int 5)) mNil))))) (sIf (mTest (mOp gEq (mVar 0) (mC (.int 5)))) (sDrop (mMake "Warm" (arity 4 f_warm_init) [] (mCons (mC (.int 5)) (mCons (mVar 2) (mCons (mC (.int 5)) mNil))))) (sIf (mTest (mOp gEq (mVar 0) (mC (.int 6)))) (sDrop (mMake "Warm" (arity 4 f_warm_init) [] (mCons (mC (.int 5)) (mCons (mC (.int 5)) (mCons (mVar 2) mNil))))) (sIf (mTest (mOp gEq (mVar 0) (mC (.int 7)))) (sDrop (mMeth "Meter" "is_lit" (arity 2 f_meter_is_lit) [] (mVar 1) (mCons (mVar 2) mNil))) (sIf (mTest (mOp gEq (mVar 0) (mC (.int 8)))) (sDrop (mMeth "Meter" "settles" (arity 3 f_meter_settles) [.int 0] (mVar 1) (mCons (mVar 2) mNil))) (sDrop (mMeth "Meter" "peak" (arity 3 f_meter_peak) [] (mVar 1) (mCons (mC (.int 10)) (mCons (mC (.int 9)) mNil))))))))))))) (fun y => if y.cls = "InvalidNumber" then (sRet (mAndV (mC (.bl true)) (mC (.bl true)))) else if y.cls = "NotNow" then (sRet (mAndV (mC (.bl false)) (mC (.bl true)))) else fun _ _ => .bad))
    (sRet (mC (.bl false))))
def f_law_refused : FM := runF 4 b_law_refused
theorem ok_law_refused {w : World} {K : PySem.W.Frag} {mg : Str → Option Value} {base : Heap} (kn : Kn K mg) : Has PP w K mg base 5 d_law_refused ["choice", "meter", "value"] f_law_refused := by
  obtain ⟨fd0, F0, O0⟩ := ok_meter_extra (w := w) (base := base) kn
  have B1 := FunD.bindsN (ps := ["self", "minute"]) F0 (fun _ _ _ _ _ _ us hl => match us, hl with | [_, _], _ => rfl)
  obtain ⟨fd2, F2, O2⟩ := ok_meter_switch (w := w) (base := base) kn
  have B3 := FunD.bindsN (ps := ["self", "minute", "lit"]) F2 (fun _ _ _ _ _ _ us hl => match us, hl with | [_, _, _], _ => rfl)
  obtain ⟨fd4, F4, O4⟩ := ok_meter_peak (w := w) (base := base) kn
  have B5 := FunD.bindsN (ps := ["self", "begin", "end"]) F4 (fun _ _ _ _ _ _ us hl => match us, hl with | [_, _, _], _ => rfl)
  obtain ⟨fd6, F6, O6⟩ := ok_meter_dark_minutes (w := w) (base := base) kn
  have B7 := FunD.bindsN (ps := ["self", "begin", "end"]) F6 (fun _ _ _ _ _ _ us hl => match us, hl with | [_, _, _], _ => rfl)
  obtain ⟨fd8, F8, O8⟩ := ok_warm_init (w := w) (base := base) kn
  have B9 := FunD.bindsN (ps := ["self", "grow", "top", "fall"]) F8 (fun _ _ _ _ _ _ us hl => match us, hl with | [_, _, _, _], _ => rfl)
  obtain ⟨fd10, F10, O10⟩ := ok_meter_is_lit (w := w) (base := base) kn
  have B11 := FunD.bindsN (ps := ["self", "minute"]) F10 (fun _ _ _ _ _ _ us hl => match us, hl with | [_, _], _ => rfl)
  obtain ⟨fd12, F12, O12⟩ := ok_meter_settles (w := w) (base := base) kn
  obtain ⟨ds13, V13, B13⟩ := FunD.binds1 (ps := ["self", "minute", "least"]) F12 2 0 (by intro z; cases z) rfl (fun T kV doc pm an cdv ct us its h1 h2 => match us, its, h1, h2 with | [_, _], [_], _, _ => ⟨_, rfl, rfl⟩)
  refine has_def (k := 4) (N := ["choice", "meter", "value", "problem"]) (d := d_law_refused) (kn.c.def_ 22 (d := d_law_refused) rfl) sc_law_refused fun f cdv A outer s H E hr => ?_
  delta b_law_refused
  exact (dss_cons (ds_tryE_as (i := 3) (cv := (.ref (He.ga K "RiseError"))) rfl rfl sc_law_refused.nd rfl rfl (⟨rfl, by decide, .inl (kn.glo 39)⟩) tk_of (subok_law_refused_199 kn) (fun W1 pn1 xe1 tk1 own1 => (dss_one (ds_if (dt_cmp (od_eq hr.units) (de_var (pv 0)) de_int (nomark _)) (dss_one (ds_expr (de_meth (c := "Meter") (dds := []) (de_var (pv 1)) (kn.cls 21) (kn.meth 33) O0 (hr.mono (by omega)) B1 .nil (fun _ _ => rfl) tk1 (da_cons (de_var (pv 2)) da_nil)))) (dss_one (ds_if (dt_cmp (od_eq hr.units) (de_var (pv 0)) de_int (nomark _)) (dss_one (ds_expr (de_meth (c := "Meter") (dds := []) (de_var (pv 1)) (kn.cls 21) (kn.meth 40) O2 (hr.mono (by omega)) B3 .nil (fun _ _ => rfl) tk1 (da_cons (de_var (pv 2)) (da_cons de_bl da_nil))))) (dss_one (ds_if (dt_cmp (od_eq hr.units) (de_var (pv 0)) de_int (nomark _)) (dss_one (ds_expr (de_meth (c := "Meter") (dds := []) (de_var (pv 1)) (kn.cls 21) (kn.meth 41) O4 (hr.mono (by omega)) B5 .nil (fun _ _ => rfl) tk1 (da_cons (de_var (pv 2)) (da_cons de_int da_nil))))) (dss_one (ds_if (dt_cmp (od_eq hr.units) (de_var (pv 0)) de_int (nomark _)) (dss_one (ds_expr (de_meth (c := "Meter") (dds := []) (de_var (pv 1)) (kn.cls 21) (kn.meth 42) O6 (hr.mono (by omega)) B7 .nil (fun _ _ => rfl) tk1 (da_cons de_int (da_cons (de_var (pv 2)) da_nil))))) (dss_one (ds_if (dt_cmp (od_eq hr.units) (de_var (pv 0)) de_int (nomark _)) (dss_one (ds_expr (de_make (c := "Warm") (dds := []) (kn.mkr 44) O8 (hr.mono (by omega)) rfl (kn.glo 43) B9 .nil (fun _ _ => rfl) tk1 (da_cons (de_var (pv 2)) (da_cons de_int (da_cons de_int da_nil)))))) (dss_one (ds_if (dt_cmp (od_eq hr.units) (de_var (pv 0)) de_int (nomark _)) (dss_one (ds_expr (de_make (c := "Warm") (dds := []) (kn.mkr 44) O8 (hr.mono (by omega)) rfl (kn.glo 43) B9 .nil (fun _ _ => rfl) tk1 (da_cons de_int (da_cons (de_var (pv 2)) (da_cons de_int da_nil)))))) (dss_one (ds_if (dt_cmp (od_eq hr.units) (de_var (pv 0)) de_int (nomark _)) (dss_one (ds_expr (de_make (c := "Warm") (dds := []) (kn.mkr 44) O8 (hr.mono (by omega)) rfl (kn.glo 43) B9 .nil (fun _ _ => rfl) tk1 (da_cons de_int (da_cons de_int (da_cons (de_var (pv 2)) da_nil)))))) (dss_one (ds_if (dt_cmp (od_eq hr.units) (de_var (pv 0)) de_int (nomark _)) (dss_one (ds_expr (de_meth (c := "Meter") (dds := []) (de_var (pv 1)) (kn.cls 21) (kn.meth 45) O10 (hr.mono (by omega)) B11 .nil (fun _ _ => rfl) tk1 (da_cons (de_var (pv 2)) da_nil)))) (dss_one (ds_if (dt_cmp (od_eq hr.units) (de_var (pv 0)) de_int (nomark _)) (dss_one (ds_expr (de_meth (c := "Meter") (dds := [.int 0]) (de_var (pv 1)) (kn.cls 21) (kn.meth 46) O12 (hr.mono (by omega)) B13 V13 (fun _ _ => ⟨_, _, rfl, rfl, rfl⟩) tk1 (da_cons (de_var (pv 2)) da_nil)))) (dss_one (ds_expr (de_meth (c := "Meter") (dds := []) (de_var (pv 1)) (kn.cls 21) (kn.meth 41) O4 (hr.mono (by omega)) B5 .nil (fun _ _ => rfl) tk1 (da_cons de_int (da_cons de_int da_nil)))))))))))))))))))))))) (fun ⟨yc, yf⟩ a od oe pn hc hz hf => by
      replace hc : sub_law_refused_199 yc = some true := hc
      unfold sub_law_refused_199 at hc
      split at hc
      · rename_i e; subst e; show PSs _ _ (tS _ _ _ _ (sRet (mAndV (mC (.bl true)) (mC (.bl true))))); exact (dss_one (ds_ret (de_and (by exact de_isX (fx_exc (fx_at kn.x 0)) hz hf (pv 3) (pe_glob (v := .ref (He.ga K "InvalidNumber")) rfl (kn.glo 15) rfl) (fun _ r => r) (fx_kitR (fx_at kn.x 1)) rfl (kn.free 10) (by decide +kernel)) (de_and1 (by exact (by exact de_isX (fx_exc (fx_at kn.x 0)) hz hf (pv 3) (pe_bltn (v := .ty "ValueError") rfl (kn.free 47) (by decide +kernel) rfl) (fun _ r => r) (fx_kitT (fx_at kn.x 2)) rfl (kn.free 10) (by decide +kernel)))))))
      split at hc
      · rename_i e; subst e; show PSs _ _ (tS _ _ _ _ (sRet (mAndV (mC (.bl false)) (mC (.bl true))))); exact (dss_one (ds_ret (de_and (by exact de_isX (fx_exc (fx_at kn.x 3)) hz hf (pv 3) (pe_glob (v := .ref (He.ga K "InvalidNumber")) rfl (kn.glo 15) rfl) (fun _ r => r) (fx_kitR (fx_at kn.x 4)) rfl (kn.free 10) (by decide +kernel)) (de_and1 (by exact (by exact de_isX (fx_exc (fx_at kn.x 3)) hz hf (pv 3) (pe_bltn (v := .ty "ValueError") rfl (kn.free 47) (by decide +kernel) rfl) (fun _ r => r) (fx_kitT (fx_at kn.x 5)) rfl (kn.free 10) (by decide +kernel)))))))
      cases hc))
    (dss_one (ds_ret de_bl)))
def b_warm_want : SM := (sRet (mOp (gAdd false) (mVar 1) (mOp gFdiv (mOp (gAdd false) (mOp gMul (mVar 1) (mVar 2)) (mC (.int 99))) (mC (.int 100)))))
def f_warm_want : FM := runF 3 b_warm_want
theorem ok_warm_want {w : World} {K : PySem.W.Frag} {mg : Str → Option Value} {base : Heap} (kn : Kn K mg) : Has PP w K mg base 1 d_warm_want ["self", "base", "extra"] f_warm_want := by
  refine has_def (k := 0) (N := ["self", "base", "extra"]) (d := d_warm_want) (kn.c.def_ 23 (d := d_warm_want) rfl) sc_warm_want fun f cdv A outer s H E hr => ?_
  delta b_warm_want
  exact (dss_one (ds_ret (de_op (od_add false) (de_var (pv 1)) (de_op od_fdiv (de_op (od_add false) (de_op od_mul (de_var (pv 1)) (de_var (pv 2))) de_int) de_int))))
theorem blk_law_228_21 : BlkOk ["script", "pool", "numbers", "warm", "meter", "minutes", "marks", "lit", "k", "minute", "extra", "least", "told", "many", "state", "base", "due", "choice", "bad"] (defScope s_law) { kind := .function, names := [(".0", .local), ("k", .local), ("_law_wide", .globalImplicit), ("pool", .free)], isGenerator := false, isCoroutine := false, more := [] } [("k", 8)] := ⟨rfl, by decide +kernel, by decide +kernel, by decide +kernel, by decide +kernel⟩
def b_law : SM := (sSeq (sAsg (mFn (arity 1 f_law_pool) [] (mCons (mVar 0) mNil)) (bName 1))
    (sSeq (sAsg (mFn (arity 1 f_law_numbers) [] (mCons (mVar 1) mNil)) (bName 2))
    (sSeq (sAsg (mMake "Warm" (arity 4 f_warm_init) [] (mCons (mOp gIx (mVar 2) (mC (.int 0))) (mCons (mOp gIx (mVar 2) (mC (.int 1))) (mCons (mOp gIx (mVar 2) (mC (.int 2))) mNil)))) (bName 3))
    (sSeq (sAsg (mMake "Meter" (arity 2 f_meter_init) [] (mCons (mVar 3) mNil)) (bName 4))
    (sSeq (sAsg (mCall (g1 (gSorted false)) (mCons (mLcR1 false (mCons (mFn (arity 2 f_law_draw) [] (mCons (mVar 1) (mCons (mC (.int 6)) mNil))) mNil) [8] (bName 8) mYes (mFn (arity 1 f_law_wide) [] (mCons (mVar 1) mNil))) mNil)) (bName 5))
    (sSeq (sAsg (mLst true mNil) (bName 6))
    (sSeq (sAsg (mOp gEq (mFn (arity 2 f_law_draw) [] (mCons (mVar 1) (mCons (mC (.int 2)) mNil))) (mC (.int 0))) (bName 7))
    (sSeq (sForR1 (mCons (mCall (g1 gLen) (mCons (mVar 5) mNil)) mNil) (bName 8) (sIf (mOr (mTest (mOp gEq (mVar 8) (mC (.int 0)))) (mTest (mOp gGt (mOp gIx (mVar 5) (mVar 8)) (mOp gIx (mVar 5) (mOp gSub (mVar 8) (mC (.int 1))))))) (sSeq (sDrop (mApp (mVar 6) (mTup (mCons (mOp gIx (mVar 5) (mVar 8)) (mCons (mVar 7) mNil)))))
    (sSeq (sDrop (mMeth "Meter" "switch" (arity 3 f_meter_switch) [] (mVar 4) (mCons (mOp gIx (mVar 5) (mVar 8)) (mCons (mVar 7) mNil))))
    (sAsg (mNotV (mVar 7)) (bName 7)))) sNext))
    (sSeq (sForR1 (mCons (mC (.int 4)) mNil) (bName 8) (sSeq (sAsg (mFn (arity 1 f_law_wide) [] (mCons (mVar 1) mNil)) (bName 9))
    (sSeq (sIf (mTest (mOp gGt (mVar 9) (mC (.int 1000000000000)))) (sAsg (mC (.int 1000000000000)) (bName 9)) sNext)
    (sSeq (sAsg (mFn (arity 3 f_law_at) [] (mCons (mVar 2) (mCons (mVar 6) (mCons (mVar 9) mNil)))) (bLst 2 (bCons (bName 10) (bCons (bName 7) bNil))))
    (sSeq (sIf (mOr (mNot (mTest (mFn (arity 2 (f_law_same 3)) [] (mCons (mMeth "Meter" "extra" (arity 2 f_meter_extra) [] (mVar 4) (mCons (mVar 9) mNil)) (mCons (mVar 10) mNil))))) (mNot (mTest (mFn (arity 2 (f_law_same 3)) [] (mCons (mMeth "Meter" "is_lit" (arity 2 f_meter_is_lit) [] (mVar 4) (mCons (mVar 9) mNil)) (mCons (mVar 7) mNil)))))) (sRet (mC (.bl false))) sNext)
    (sSeq (sAsg (mFn (arity 2 f_law_pick) [] (mCons (mVar 1) (mCons (mLst false (mCons (mC (.int 0)) (mCons (mC (.int 0)) (mCons (mC (.int 1)) (mCons (mFn (arity 2 f_law_draw) [] (mCons (mVar 1) (mCons (mC (.int 1001)) mNil))) mNil))))) mNil))) (bName 11))
    (sSeq (sAsg (mIf (mTest (mOp gEq (mVar 11) (mC (.int 0)))) (mMeth "Meter" "settles" (arity 3 f_meter_settles) [.int 0] (mVar 4) (mCons (mVar 9) mNil)) (mMeth "Meter" "settles" (arity 3 f_meter_settles) [] (mVar 4) (mCons (mVar 9) (mCons (mVar 11) mNil)))) (bName 12))
    (sSeq (sIf (mTest (mOp gIs (mVar 12) (mC .non))) (sIf (mOr (mTest (mOp gGt (mOp gIx (mVar 2) (mC (.int 2))) (mC (.int 0)))) (mTest (mOp gLe (mVar 10) (mVar 11)))) (sRet (mC (.bl false))) sNext) (sSeq (sIf (mOr (mNot (mTest (mIsi "int" (mVar 12)))) (mOr (mTest (mIsi "bool" (mVar 12))) (mTest (mOp gLt (mVar 12) (mVar 9))))) (sRet (mC (.bl false))) sNext)
    (sSeq (sIf (mTest (mOp gGt (mFn (arity 4 f_law_span) [] (mCons (mVar 2) (mCons (mVar 10) (mCons (mOp gSub (mVar 12) (mVar 9)) (mCons (mC (.bl true)) mNil))))) (mVar 11))) (sRet (mC (.bl false))) sNext)
    (sSeq (sIf (mAnd (mTest (mOp gGt (mVar 12) (mVar 9))) (mTest (mOp gLe (mFn (arity 4 f_law_span) [] (mCons (mVar 2) (mCons (mVar 10) (mCons (mOp gSub (mOp gSub (mVar 12) (mVar 9)) (mC (.int 1))) (mCons (mC (.bl true)) mNil))))) (mVar 11)))) (sRet (mC (.bl false))) sNext)
    (sIf (mNot (mTest (mFn (arity 2 (f_law_same 3)) [] (mCons (mMeth "Warm" "until" (arity 3 f_warm_until) [] (mVar 3) (mCons (mVar 10) (mCons (mVar 11) mNil))) (mCons (mOp gSub (mVar 12) (mVar 9)) mNil))))) (sRet (mC (.bl false))) sNext)))))
    (sSeq (sAsg (mFn (arity 1 f_law_wide) [] (mCons (mVar 1) mNil)) (bName 13))
    (sSeq (sAsg (mOp gEq (mFn (arity 2 f_law_draw) [] (mCons (mVar 1) (mCons (mC (.int 2)) mNil))) (mC (.int 0))) (bName 14))
    (sSeq (sIf (mNot (mTest (mFn (arity 2 (f_law_same 3)) [] (mCons (mMeth "Warm" "behind" (arity 4 f_warm_behind) [] (mVar 3) (mCons (mVar 10) (mCons (mVar 13) (mCons (mVar 14) mNil)))) (mCons (mFn (arity 4 f_law_span) [] (mCons (mVar 2) (mCons (mVar 10) (mCons (mVar 13) (mCons (mVar 14) mNil))))) mNil))))) (sRet (mC (.bl false))) sNext)
    (sSeq (sAsg (mFn (arity 2 f_law_draw) [] (mCons (mVar 1) (mCons (mC (.int 1000001)) mNil))) (bName 15))
    (sSeq (sAsg (mOp (gAdd false) (mOp (gAdd false) (mVar 15) (mOp gFdiv (mOp gMul (mVar 15) (mVar 10)) (mC (.int 100)))) (mCall (g1 gInt) (mCons (mOp gGt (mOp gMod (mCall (g1 gInt) (mCons (mOp gMul (mVar 15) (mVar 10)) mNil)) (mC (.int 100))) (mC (.int 0))) mNil))) (bName 16))
    (sIf (mNot (mTest (mFn (arity 2 (f_law_same 3)) [] (mCons (mMeth "Warm" "want" (arity 3 f_warm_want) [] (mVar 3) (mCons (mVar 15) (mCons (mVar 10) mNil))) (mCons (mVar 16) mNil))))) (sRet (mC (.bl false))) sNext))))))))))))))
    (sSeq (sForR1 (mCons (mC (.int 10)) mNil) (bName 17) (sSeq (sAsg (mFn (arity 2 f_law_pick) [] (mCons (mVar 1) (mCons (mLst false (mCons (mNeg (mC (.int 1))) (mCons (mNeg (mC (.int 5))) (mCons (mC (.int 1000000000001)) (mCons (mIf (mTest (mChain gLt gLt (mC (.int 3)) (mVar 17) (mC (.int 7)))) (mC (.int 1001)) (mNeg (mC (.int 2)))) (mCons (mIf (mTest (mChain gLt gLt (mC (.int 3)) (mVar 17) (mC (.int 7)))) (mC (.bl true)) (mNeg (mC (.int 3)))) mNil)))))) mNil))) (bName 18))
    (sIf (mNot (mTest (mFn (arity 3 f_law_refused) [] (mCons (mVar 17) (mCons (mVar 4) (mCons (mVar 18) mNil)))))) (sRet (mC (.bl false))) sNext)))
    (sRet (mC (.bl true)))))))))))))
def f_law : FM := runF 19 b_law
theorem ok_law {w : World} {K : PySem.W.Frag} {mg : Str → Option Value} {base : Heap} (kn : Kn K mg) : ∃ fd, FunD K "law" "law" (defArgs s_law) (defBody s_law) (defScope s_law) [] [] (He.ga K "law") fd ∧ FnOk PP w K mg base CX0 6 (He.ga K "law") fd ["script"] (spLaw K f_law) := by
  obtain ⟨fd0, F0, O0⟩ := ok_law_pool (w := w) (base := base) kn
  have B1 := FunD.bindsN (ps := ["script"]) F0 (fun _ _ _ _ _ _ us hl => match us, hl with | [_], _ => rfl)
  obtain ⟨fd2, F2, O2⟩ := ok_law_numbers (w := w) (base := base) kn
  have B3 := FunD.bindsN (ps := ["pool"]) F2 (fun _ _ _ _ _ _ us hl => match us, hl with | [_], _ => rfl)
  obtain ⟨fd4, F4, O4⟩ := ok_warm_init (w := w) (base := base) kn
  have B5 := FunD.bindsN (ps := ["self", "grow", "top", "fall"]) F4 (fun _ _ _ _ _ _ us hl => match us, hl with | [_, _, _, _], _ => rfl)
  obtain ⟨fd6, F6, O6⟩ := ok_meter_init (w := w) (base := base) kn
  have B7 := FunD.bindsN (ps := ["self", "warm"]) F6 (fun _ _ _ _ _ _ us hl => match us, hl with | [_, _], _ => rfl)
  obtain ⟨fd8, F8, O8⟩ := ok_law_wide (w := w) (base := base) kn
  have B9 := FunD.bindsN (ps := ["pool"]) F8 (fun _ _ _ _ _ _ us hl => match us, hl with | [_], _ => rfl)
  obtain ⟨fd10, F10, O10⟩ := ok_law_draw (w := w) (base := base) kn
  have B11 := FunD.bindsN (ps := ["pool", "many"]) F10 (fun _ _ _ _ _ _ us hl => match us, hl with | [_, _], _ => rfl)
  obtain ⟨fd12, F12, O12⟩ := ok_meter_switch (w := w) (base := base) kn
  have B13 := FunD.bindsN (ps := ["self", "minute", "lit"]) F12 (fun _ _ _ _ _ _ us hl => match us, hl with | [_, _, _], _ => rfl)
  obtain ⟨fd14, F14, O14⟩ := ok_law_at (w := w) (base := base) kn
  have B15 := FunD.bindsN (ps := ["numbers", "marks", "minute"]) F14 (fun _ _ _ _ _ _ us hl => match us, hl with | [_, _, _], _ => rfl)
  obtain ⟨fd16, F16, O16⟩ := ok_law_same (w := w) (base := base) kn 3
  have B17 := FunD.bindsN (ps := ["actual", "due"]) F16 (fun _ _ _ _ _ _ us hl => match us, hl with | [_, _], _ => rfl)
  obtain ⟨fd18, F18, O18⟩ := ok_meter_extra (w := w) (base := base) kn
  have B19 := FunD.bindsN (ps := ["self", "minute"]) F18 (fun _ _ _ _ _ _ us hl => match us, hl with | [_, _], _ => rfl)
  obtain ⟨fd20, F20, O20⟩ := ok_meter_is_lit (w := w) (base := base) kn
  have B21 := FunD.bindsN (ps := ["self", "minute"]) F20 (fun _ _ _ _ _ _ us hl => match us, hl with | [_, _], _ => rfl)
  obtain ⟨fd22, F22, O22⟩ := ok_law_pick (w := w) (base := base) kn
  have B23 := FunD.bindsN (ps := ["pool", "rows"]) F22 (fun _ _ _ _ _ _ us hl => match us, hl with | [_, _], _ => rfl)
  obtain ⟨fd24, F24, O24⟩ := ok_meter_settles (w := w) (base := base) kn
  obtain ⟨ds25, V25, B25⟩ := FunD.binds1 (ps := ["self", "minute", "least"]) F24 2 0 (by intro z; cases z) rfl (fun T kV doc pm an cdv ct us its h1 h2 => match us, its, h1, h2 with | [_, _], [_], _, _ => ⟨_, rfl, rfl⟩)
  obtain ⟨ds26, V26, B26⟩ := FunD.binds1 (ps := ["self", "minute", "least"]) F24 3 1 (by intro z; cases z) rfl (fun T kV doc pm an cdv ct us its h1 h2 => match us, its, h1, h2 with | [_, _, _], [_], _, _ => ⟨_, rfl, rfl⟩)
  obtain ⟨fd27, F27, O27⟩ := ok_law_span (w := w) (base := base) kn
  have B28 := FunD.bindsN (ps := ["numbers", "extra", "minutes", "lit"]) F27 (fun _ _ _ _ _ _ us hl => match us, hl with | [_, _, _, _], _ => rfl)
  obtain ⟨fd29, F29, O29⟩ := ok_warm_until (w := w) (base := base) kn
  have B30 := FunD.bindsN (ps := ["self", "extra", "least"]) F29 (fun _ _ _ _ _ _ us hl => match us, hl with | [_, _, _], _ => rfl)
  obtain ⟨fd31, F31, O31⟩ := ok_warm_behind (w := w) (base := base) kn
  have B32 := FunD.bindsN (ps := ["self", "extra", "minutes", "lit"]) F31 (fun _ _ _ _ _ _ us hl => match us, hl with | [_, _, _, _], _ => rfl)
  obtain ⟨fd33, F33, O33⟩ := ok_warm_want (w := w) (base := base) kn
  have B34 := FunD.bindsN (ps := ["self", "base", "extra"]) F33 (fun _ _ _ _ _ _ us hl => match us, hl with | [_, _, _], _ => rfl)
  obtain ⟨fd35, F35, O35⟩ := ok_law_refused (w := w) (base := base) kn
  have B36 := FunD.bindsN (ps := ["choice", "meter", "value"]) F35 (fun _ _ _ _ _ _ us hl => match us, hl with | [_, _, _], _ => rfl)
  obtain ⟨fd, F⟩ := kn.c.def_ 24 (d := d_law) rfl
  refine ⟨fd, F, law_def (ad := He.ga K) (k := 5) (N := ["script", "pool", "numbers", "warm", "meter", "minutes", "marks", "lit", "k", "minute", "extra", "least", "told", "many", "state", "base", "due", "choice", "bad"]) F sc_law fun cdv A outer s H E hr => ?_⟩
  delta b_law
  exact (dss_cons (ds_set (i := 1) sc_law.nd rfl (by first | exact .inl rfl | exact .inr rfl) (de_call (dds := []) O0 (hr.mono (by omega)) rfl (kn.glo 48) F0.kp B1 .nil (fun _ _ => rfl) takesF (da_cons (de_var (pv 0)) da_nil)))
    (dss_cons (ds_set (i := 2) sc_law.nd rfl (by first | exact .inl rfl | exact .inr rfl) (de_call (dds := []) O2 (hr.mono (by omega)) rfl (kn.glo 49) F2.kp B3 .nil (fun _ _ => rfl) takesF (da_cons (de_var (pv 1)) da_nil)))
    (dss_cons (ds_set (i := 3) sc_law.nd rfl (by first | exact .inl rfl | exact .inr rfl) (de_make (c := "Warm") (dds := []) (kn.mkr 44) O4 (hr.mono (by omega)) rfl (kn.glo 43) B5 .nil (fun _ _ => rfl) takesF (da_cons (de_ix (de_var (pv 2)) de_int (fun _ _ => rfl)) (da_cons (de_ix (de_var (pv 2)) de_int (fun _ _ => rfl)) (da_cons (de_ix (de_var (pv 2)) de_int (fun _ _ => rfl)) da_nil)))))
    (dss_cons (ds_set (i := 4) sc_law.nd rfl (by first | exact .inl rfl | exact .inr rfl) (de_make (c := "Meter") (dds := []) (kn.mkr 51) O6 (hr.mono (by omega)) rfl (kn.glo 50) B7 .nil (fun _ _ => rfl) takesF (da_cons (de_var (pv 3)) da_nil)))
    (dss_cons (ds_set (i := 5) sc_law.nd rfl (by first | exact .inl rfl | exact .inr rfl) (de_callB (cd_sorted false rfl) rfl (kn.free 53) (by decide +kernel) (da_cons (de_lcR1 (own := [("k", 8)]) (hm := false) rfl sc_law.nd rfl (kn.free 9) (da_cons (de_call (dds := []) O10 (hr.mono (by omega)) rfl (kn.glo 7) F10.kp B11 .nil (fun _ _ => rfl) takesF (da_cons (de_var (pv 1)) (da_cons de_int da_nil))) da_nil) blk_law_228_21 (fun s1 H1 C1 cl1 fp1 J1 hJ1 => (dg_name (i := 8) sc_law.nd rfl (by first | exact .inl rfl | exact .inr rfl) (hJ := fun σ v S h => hJ1 σ v S 8 (by simp) h))) (fun s1 H1 C1 cl1 fp1 J1 hJ1 => dts_nil) (fun s1 H1 C1 cl1 fp1 J1 hJ1 => (de_call (dds := []) O8 (hr.mono (by omega)) rfl (kn.glo 52) F8.kp B9 .nil (fun _ _ => rfl) takesF (da_cons (de_var (pv 1)) da_nil)))) da_nil)))
    (dss_cons (ds_set (i := 6) sc_law.nd rfl (by first | exact .inl rfl | exact .inr rfl) (de_lst (hm := true) da_nil))
    (dss_cons (ds_set (i := 7) sc_law.nd rfl (by first | exact .inl rfl | exact .inr rfl) (de_cmp (od_eq hr.units) (de_call (dds := []) O10 (hr.mono (by omega)) rfl (kn.glo 7) F10.kp B11 .nil (fun _ _ => rfl) takesF (da_cons (de_var (pv 1)) (da_cons de_int da_nil))) de_int (nomark _)))
    (dss_cons (ds_forR1 own_of rfl rfl (kn.free 9) (da_cons (de_callB cd_len rfl (kn.free 5) (by decide +kernel) (da_cons (de_var (pv 5)) da_nil)) da_nil) (dg_name (i := 8) sc_law.nd rfl (by first | exact .inl rfl | exact .inr rfl)) (dss_one (ds_if (PW.pt (dw_or (dt_cmp (od_eq hr.units) (de_var (pv 8)) de_int (nomark _)) (dw_or1 (dt_cmp od_gt (de_ix (de_var (pv 5)) (de_var (pv 8)) (fun _ _ => rfl)) (de_ix (de_var (pv 5)) (de_op od_sub (de_var (pv 8)) de_int) (fun _ _ => rfl)) (nomark _))))) (dss_cons (ds_expr (de_app (de_var (pv 6)) (de_tup (da_cons (de_ix (de_var (pv 5)) (de_var (pv 8)) (fun _ _ => rfl)) (da_cons (de_var (pv 7)) da_nil)))))
    (dss_cons (ds_expr (de_meth (c := "Meter") (dds := []) (de_var (pv 4)) (kn.cls 21) (kn.meth 40) O12 (hr.mono (by omega)) B13 .nil (fun _ _ => rfl) takesF (da_cons (de_ix (de_var (pv 5)) (de_var (pv 8)) (fun _ _ => rfl)) (da_cons (de_var (pv 7)) da_nil))))
    (dss_one (ds_set (i := 7) sc_law.nd rfl (by first | exact .inl rfl | exact .inr rfl) (de_not (de_var (pv 7))))))) dss_nil)))
    (dss_cons (ds_forR1 own_of rfl rfl (kn.free 9) (da_cons de_int da_nil) (dg_name (i := 8) sc_law.nd rfl (by first | exact .inl rfl | exact .inr rfl)) (dss_cons (ds_set (i := 9) sc_law.nd rfl (by first | exact .inl rfl | exact .inr rfl) (de_call (dds := []) O8 (hr.mono (by omega)) rfl (kn.glo 52) F8.kp B9 .nil (fun _ _ => rfl) takesF (da_cons (de_var (pv 1)) da_nil)))
    (dss_cons (ds_if (dt_cmp od_gt (de_var (pv 9)) de_int (nomark _)) (dss_one (ds_set (i := 9) sc_law.nd rfl (by first | exact .inl rfl | exact .inr rfl) de_int)) dss_nil)
    (dss_cons (ds_asg (de_call (dds := []) O14 (hr.mono (by omega)) rfl (kn.glo 54) F14.kp B15 .nil (fun _ _ => rfl) takesF (da_cons (de_var (pv 2)) (da_cons (de_var (pv 6)) (da_cons (de_var (pv 9)) da_nil)))) (dg_lst rfl (dgs_cons (dg_name (i := 10) sc_law.nd rfl (by first | exact .inl rfl | exact .inr rfl)) (dgs_cons (dg_name (i := 7) sc_law.nd rfl (by first | exact .inl rfl | exact .inr rfl)) dgs_nil))))
    (dss_cons (ds_if (PW.pt (dw_or (dt_not (dt_val (de_call (dds := []) O16 (hr.mono (by omega)) rfl (kn.glo 36) F16.kp B17 .nil (fun _ _ => rfl) takesF (da_cons (de_meth (c := "Meter") (dds := []) (de_var (pv 4)) (kn.cls 21) (kn.meth 33) O18 (hr.mono (by omega)) B19 .nil (fun _ _ => rfl) takesF (da_cons (de_var (pv 9)) da_nil)) (da_cons (de_var (pv 10)) da_nil))))) (dw_or1 (dt_not (dt_val (de_call (dds := []) O16 (hr.mono (by omega)) rfl (kn.glo 36) F16.kp B17 .nil (fun _ _ => rfl) takesF (da_cons (de_meth (c := "Meter") (dds := []) (de_var (pv 4)) (kn.cls 21) (kn.meth 45) O20 (hr.mono (by omega)) B21 .nil (fun _ _ => rfl) takesF (da_cons (de_var (pv 9)) da_nil)) (da_cons (de_var (pv 7)) da_nil)))))))) (dss_one (ds_ret de_bl)) dss_nil)
    (dss_cons (ds_set (i := 11) sc_law.nd rfl (by first | exact .inl rfl | exact .inr rfl) (de_call (dds := []) O22 (hr.mono (by omega)) rfl (kn.glo 8) F22.kp B23 .nil (fun _ _ => rfl) takesF (da_cons (de_var (pv 1)) (da_cons (de_lst (hm := false) (da_cons de_int (da_cons de_int (da_cons de_int (da_cons (de_call (dds := []) O10 (hr.mono (by omega)) rfl (kn.glo 7) F10.kp B11 .nil (fun _ _ => rfl) takesF (da_cons (de_var (pv 1)) (da_cons de_int da_nil))) da_nil))))) da_nil))))
    (dss_cons (ds_set (i := 12) sc_law.nd rfl (by first | exact .inl rfl | exact .inr rfl) (de_if (dt_cmp (od_eq hr.units) (de_var (pv 11)) de_int (nomark _)) (de_meth (c := "Meter") (dds := [.int 0]) (de_var (pv 4)) (kn.cls 21) (kn.meth 46) O24 (hr.mono (by omega)) B25 V25 (fun _ _ => ⟨_, _, rfl, rfl, rfl⟩) takesF (da_cons (de_var (pv 9)) da_nil)) (de_meth (c := "Meter") (dds := []) (de_var (pv 4)) (kn.cls 21) (kn.meth 46) O24 (hr.mono (by omega)) B26 V26 (fun _ _ => rfl) takesF (da_cons (de_var (pv 9)) (da_cons (de_var (pv 11)) da_nil)))))
    (dss_cons (ds_if (dt_cmp od_is (de_var (pv 12)) de_non (nomark _)) (dss_one (ds_if (PW.pt (dw_or (dt_cmp od_gt (de_ix (de_var (pv 2)) de_int (fun _ _ => rfl)) de_int (nomark _)) (dw_or1 (dt_cmp od_le (de_var (pv 10)) (de_var (pv 11)) (nomark _))))) (dss_one (ds_ret de_bl)) dss_nil)) (dss_cons (ds_if (PW.pt (dw_or (dt_not (dt_val (de_isi (T := "int") rfl (kn.free 10) (by decide +kernel) rfl (kn.free 4) (by decide +kernel) (de_var (pv 12))))) (dw_or (dt_val (de_isi (T := "bool") rfl (kn.free 10) (by decide +kernel) rfl (kn.free 11) (by decide +kernel) (de_var (pv 12)))) (dw_or1 (dt_cmp od_lt (de_var (pv 12)) (de_var (pv 9)) (nomark _)))))) (dss_one (ds_ret de_bl)) dss_nil)
    (dss_cons (ds_if (dt_cmp od_gt (de_call (dds := []) O27 (hr.mono (by omega)) rfl (kn.glo 27) F27.kp B28 .nil (fun _ _ => rfl) takesF (da_cons (de_var (pv 2)) (da_cons (de_var (pv 10)) (da_cons (de_op od_sub (de_var (pv 12)) (de_var (pv 9))) (da_cons de_bl da_nil))))) (de_var (pv 11)) (nomark _)) (dss_one (ds_ret de_bl)) dss_nil)
    (dss_cons (ds_if (PW.pt (dw_and (dt_cmp od_gt (de_var (pv 12)) (de_var (pv 9)) (nomark _)) (dw_and1 (dt_cmp od_le (de_call (dds := []) O27 (hr.mono (by omega)) rfl (kn.glo 27) F27.kp B28 .nil (fun _ _ => rfl) takesF (da_cons (de_var (pv 2)) (da_cons (de_var (pv 10)) (da_cons (de_op od_sub (de_op od_sub (de_var (pv 12)) (de_var (pv 9))) de_int) (da_cons de_bl da_nil))))) (de_var (pv 11)) (nomark _))))) (dss_one (ds_ret de_bl)) dss_nil)
    (dss_one (ds_if (dt_not (dt_val (de_call (dds := []) O16 (hr.mono (by omega)) rfl (kn.glo 36) F16.kp B17 .nil (fun _ _ => rfl) takesF (da_cons (de_meth (c := "Warm") (dds := []) (de_var (pv 3)) (kn.cls 17) (kn.meth 34) O29 (hr.mono (by omega)) B30 .nil (fun _ _ => rfl) takesF (da_cons (de_var (pv 10)) (da_cons (de_var (pv 11)) da_nil))) (da_cons (de_op od_sub (de_var (pv 12)) (de_var (pv 9))) da_nil))))) (dss_one (ds_ret de_bl)) dss_nil))))))
    (dss_cons (ds_set (i := 13) sc_law.nd rfl (by first | exact .inl rfl | exact .inr rfl) (de_call (dds := []) O8 (hr.mono (by omega)) rfl (kn.glo 52) F8.kp B9 .nil (fun _ _ => rfl) takesF (da_cons (de_var (pv 1)) da_nil)))
    (dss_cons (ds_set (i := 14) sc_law.nd rfl (by first | exact .inl rfl | exact .inr rfl) (de_cmp (od_eq hr.units) (de_call (dds := []) O10 (hr.mono (by omega)) rfl (kn.glo 7) F10.kp B11 .nil (fun _ _ => rfl) takesF (da_cons (de_var (pv 1)) (da_cons de_int da_nil))) de_int (nomark _)))
    (dss_cons (ds_if (dt_not (dt_val (de_call (dds := []) O16 (hr.mono (by omega)) rfl (kn.glo 36) F16.kp B17 .nil (fun _ _ => rfl) takesF (da_cons (de_meth (c := "Warm") (dds := []) (de_var (pv 3)) (kn.cls 17) (kn.meth 30) O31 (hr.mono (by omega)) B32 .nil (fun _ _ => rfl) takesF (da_cons (de_var (pv 10)) (da_cons (de_var (pv 13)) (da_cons (de_var (pv 14)) da_nil)))) (da_cons (de_call (dds := []) O27 (hr.mono (by omega)) rfl (kn.glo 27) F27.kp B28 .nil (fun _ _ => rfl) takesF (da_cons (de_var (pv 2)) (da_cons (de_var (pv 10)) (da_cons (de_var (pv 13)) (da_cons (de_var (pv 14)) da_nil))))) da_nil))))) (dss_one (ds_ret de_bl)) dss_nil)
    (dss_cons (ds_set (i := 15) sc_law.nd rfl (by first | exact .inl rfl | exact .inr rfl) (de_call (dds := []) O10 (hr.mono (by omega)) rfl (kn.glo 7) F10.kp B11 .nil (fun _ _ => rfl) takesF (da_cons (de_var (pv 1)) (da_cons de_int da_nil))))
    (dss_cons (ds_set (i := 16) sc_law.nd rfl (by first | exact .inl rfl | exact .inr rfl) (de_op (od_add false) (de_op (od_add false) (de_var (pv 15)) (de_op od_fdiv (de_op od_mul (de_var (pv 15)) (de_var (pv 10))) de_int)) (de_callTy cd_int rfl (kn.free 4) (by decide +kernel) (da_cons (de_cmp od_gt (de_op od_mod (de_callTy cd_int rfl (kn.free 4) (by decide +kernel) (da_cons (de_op od_mul (de_var (pv 15)) (de_var (pv 10))) da_nil)) de_int) de_int (nomark _)) da_nil))))
    (dss_one (ds_if (dt_not (dt_val (de_call (dds := []) O16 (hr.mono (by omega)) rfl (kn.glo 36) F16.kp B17 .nil (fun _ _ => rfl) takesF (da_cons (de_meth (c := "Warm") (dds := []) (de_var (pv 3)) (kn.cls 17) (kn.meth 55) O33 (hr.mono (by omega)) B34 .nil (fun _ _ => rfl) takesF (da_cons (de_var (pv 15)) (da_cons (de_var (pv 10)) da_nil))) (da_cons (de_var (pv 16)) da_nil))))) (dss_one (ds_ret de_bl)) dss_nil)))))))))))))))
    (dss_cons (ds_forR1 own_of rfl rfl (kn.free 9) (da_cons de_int da_nil) (dg_name (i := 17) sc_law.nd rfl (by first | exact .inl rfl | exact .inr rfl)) (dss_cons (ds_set (i := 18) sc_law.nd rfl (by first | exact .inl rfl | exact .inr rfl) (de_call (dds := []) O22 (hr.mono (by omega)) rfl (kn.glo 8) F22.kp B23 .nil (fun _ _ => rfl) takesF (da_cons (de_var (pv 1)) (da_cons (de_lst (hm := false) (da_cons (de_neg de_int) (da_cons (de_neg de_int) (da_cons de_int (da_cons (de_if (dt_chain od_lt od_lt de_int (de_var (pv 17)) de_int) de_int (de_neg de_int)) (da_cons (de_if (dt_chain od_lt od_lt de_int (de_var (pv 17)) de_int) de_bl (de_neg de_int)) da_nil)))))) da_nil))))
    (dss_one (ds_if (dt_not (dt_val (de_call (dds := []) O35 (hr.mono (by omega)) rfl (kn.glo 56) F35.kp B36 .nil (fun _ _ => rfl) takesF (da_cons (de_var (pv 17)) (da_cons (de_var (pv 4)) (da_cons (de_var (pv 18)) da_nil)))))) (dss_one (ds_ret de_bl)) dss_nil))))
    (dss_one (ds_ret de_bl))))))))))))
end DK.k59
end
section
set_option Elab.async false
set_option linter.all false
set_option autoImplicit false
set_option maxRecDepth 100000
set_option maxHeartbeats 0
/-! The head of darkrise_k59_meters_far_out: printed by gen.py. -/
namespace DK.k59
open PySem L2 DK
def loose0 : List PySem.Str := ["_wall", "RiseError", "InvalidNumber", "NotNow", "GREATEST", "is_number", "checked_number", "LAST", "Warm", "Meter", "_law_same", "_law_pool", "_law_draw", "_law_pick", "_law_wide", "_law_numbers", "_law_span", "_law_at", "_law_refused"]
def loose : List PySem.Str := loose0
abbrev R : PySem.W.OpenRow := PySem.W.OpenLaw.row PySem.Challenge.rw_darkrise_k59_meters_far_out
abbrev hk : PySem.W.Hook := hookI 6 fa fn fx "/claim/cut.py" ins
def ob (s : PySem.W.SharedT) : AlI := obsIG 6 fa fn fx "/claim/cut.py" ins (HandSHeadRun.getT s)
theorem ob_eq (s : PySem.W.SharedT) : ob s = hk.obs s.abs := obsIG_eq (HandSHeadRun.getT_eq s)
theorem run (w : World) : HandSHeadRun.RunEq R (PySem.W.view R.prog [23]) hk ob 20000 loose w := by
  intro os
  kernel_rfl
end DK.k59
open PySem PySem.W PySem.Calls PyProof.Rows
theorem DK.k59.core (hm : ∀ ns : List Int, ns.length ≤ 63 → ∃ O, DK.k59.f_law [.rol (ns.map DK.D.int)] [] = .ok (.bl true) O) : PySem.Challenge.rw_darkrise_k59_meters_far_out.Holds := by
  w_on; o_law
  refine HandSHeadRun.head_any (r := OpenLaw.row PySem.Challenge.rw_darkrise_k59_meters_far_out) (q := view (OpenLaw.row PySem.Challenge.rw_darkrise_k59_meters_far_out).prog [23]) (H := DK.k59.hk) (ob := DK.k59.ob) (M := 20000) (loose := DK.k59.loose) (d := HandSHeadRun.topDef (OpenLaw.row PySem.Challenge.rw_darkrise_k59_meters_far_out).prog 23) (kwd := []) DK.k59.ob_eq
    (by kernel_rfl) (fun s => by kernel_rfl) DK.k59.run (by kernel_rfl) (by kernel_rfl) (by kernel_rfl) (by rfl) (by first | assumption | decide +kernel) (by decide +kernel) ⟨rfl, rfl, rfl, rfl, rfl, by decide +kernel⟩ ?hw ?hc
  case hw => w_witness2
  case hc =>
    refine L2.walk_ofE (l := PySem.Challenge.rw_darkrise_k59_meters_far_out) (n := 63) (k := 6) (x := "script") (CX := L2.CX0) rfl (by decide) (by kernel_rfl) ⟨rfl, by decide, by decide⟩ ?F (fun _ _ _ _ z => z)
    intro w mg fa h Y G hmg0
    obtain ⟨K, KX, c⟩ := Y
    have hmg : mg ("law" : PySem.Str) = some (.ref fa) := by
      have e : (HandSHeadRun.topDef (OpenLaw.row PySem.Challenge.rw_darkrise_k59_meters_far_out).prog 23).name = ("law" : PySem.Str) := by kernel_rfl
      rw [← e]
      exact hmg0
    have kn : DK.k59.Kn K mg := ⟨⟨c.c, c.x, h, KX, G⟩, c.i⟩
    have e := hmg.symm.trans (kn.glo 0)
    cases e
    obtain ⟨fd1, F1⟩ := kn.c.def_ 24 (d := DK.k59.d_law) rfl
    obtain ⟨fd, F, _⟩ := DK.k59.ok_law (w := w) (base := h) kn
    have b := L2.FunD.bindsA (ps := ["script"]) F fun _ _ _ _ _ _ us hl => match us, hl with | [_], _ => rfl
    refine ⟨K, fd, DK.spLaw K DK.k59.f_law, KX, fun s v => b s [v] rfl, fun H a ns hl _ hS => ⟨a, ns, rfl, hS, hl, hm ns hl, fun _ => rfl⟩, fun base _ _ => ?_⟩
    obtain ⟨fd2, F2, O2⟩ := DK.k59.ok_law (w := w) (base := base) kn
    rw [DK.fd_eq F F2]
    exact O2
end
section
set_option Elab.async false
set_option linter.all false
set_option autoImplicit false
set_option maxRecDepth 100000
set_option maxHeartbeats 4000000
/-! K59Law: the plain law. -/
namespace DK.k59
open PySem L2 DK
theorem draw_is : f_law_draw = fDraw := rfl
theorem pick_is : f_law_pick = fPick := rfl
theorem num_is : f_is_number = fIsNum := rfl
theorem chk_is : f_checked_number = fChk := rfl
theorem draw1 {b : Nat} {O : Store} {R : Store → Prop} {many : Int} (k : Keep 0 R) (h : Pool b 0 O) (r : R O) (hm : 0 < many) (hm2 : many ≤ 2 ^ 64) (hb : b ≤ 2 ^ 60) :
    ∃ v O', f_law_draw [.hdl 0, .int many] O = .ok (.int v) O' ∧ 0 ≤ v ∧ v < many ∧ Pool (b + 1) 0 O' ∧ R O' := draw_R k h r hm hm2 (by omega)
theorem pick1 {b : Nat} {O : Store} {R : Store → Prop} {ds : List D} (k : Keep 0 R) (h : Pool b 0 O) (r : R O) (h0 : 0 < ds.length) (h1 : ds.length ≤ 2 ^ 64) (hb : b ≤ 2 ^ 60) :
    ∃ d O', f_law_pick [.hdl 0, .lst ds] O = .ok d O' ∧ d ∈ ds ∧ Pool (b + 1) 0 O' ∧ R O' := pick_R k h r h0 h1 (by omega)
theorem same_int (a b : Int) (O : Store) : f_law_same 3 [.int a, .int b] O = .ok (.bl (decide (a = b))) O := by
  simp [f_law_same, b_law_same, runF, sSeq, sIf, sNext, sDrop, sRet, sRetN, sAsg, ofRes, ofB, bName, bNil, bCons, bTup, bLst, bSubL, mTest, mOp, mVar, mC, mChain, mAnd, mOr, mNot, mIf, mAndV, mOrV, mNotV, mNeg, mCons, mNil, mTup, mLst, newL, mCall, mFn, arity, g1, g2, gLen, gInt, gAbs, gMax2, gMin2, gIx, seqOf, lsqOf, lstOf, Res.bind, ofO, gAdd_ok, gSub_ok, gEq_int, gNe_int, gLt_int, gLe_int, gGt_int, gGe_int, gEq_bl, gNe_bl, gEq_str, gNe_str, mIsi, mIsiT, tyD, kitL, kitTab, atI_c0, atI_c1, atI_c2, atI_c3, atI_c4, sForR1, int1, int2, mMeth, mMake, mFld, sFldM, gIs, gIsNot, isNon_t, sRaise, gList, newLO]
theorem same_bl (a b : Bool) (O : Store) : f_law_same 3 [.bl a, .bl b] O = .ok (.bl (decide (a = b))) O := by
  simp [f_law_same, b_law_same, runF, sSeq, sIf, sNext, sDrop, sRet, sRetN, sAsg, ofRes, ofB, bName, bNil, bCons, bTup, bLst, bSubL, mTest, mOp, mVar, mC, mChain, mAnd, mOr, mNot, mIf, mAndV, mOrV, mNotV, mNeg, mCons, mNil, mTup, mLst, newL, mCall, mFn, arity, g1, g2, gLen, gInt, gAbs, gMax2, gMin2, gIx, seqOf, lsqOf, lstOf, Res.bind, ofO, gAdd_ok, gSub_ok, gEq_int, gNe_int, gLt_int, gLe_int, gGt_int, gGe_int, gEq_bl, gNe_bl, gEq_str, gNe_str, mIsi, mIsiT, tyD, kitL, kitTab, atI_c0, atI_c1, atI_c2, atI_c3, atI_c4, sForR1, int1, int2, mMeth, mMake, mFld, sFldM, gIs, gIsNot, isNon_t, sRaise, gList, newLO]
theorem mulT {O : Store} {a c : Int} (h1 : a.natAbs ≤ 2 ^ 64) (h2 : c.natAbs ≤ 2 ^ 64) : gMul O (.int a) (.int c) = some (.int (a * c), O) := gMul_ok (by omega) (by omega)
theorem wide1 {b : Nat} {O : Store} {R : Store → Prop} (k : Keep 0 R) (h : Pool b 0 O) (r : R O) (hb : b ≤ 2 ^ 40) :
    ∃ v O', f_law_wide [.hdl 0] O = .ok (.int v) O' ∧ 0 ≤ v ∧ v ≤ 1000000000000 ∧ Pool (b + 4) 0 O' ∧ R O' := by
  obtain ⟨v, O1, e1, v0, v1, p1, r1⟩ := draw1 (many := 4) k h r (by omega) (by omega) (by omega)
  by_cases c0 : v = 0
  · obtain ⟨d, O2, e2, hd, p2, r2⟩ := pick1 (ds := [.int 0, .int 1, .int 1000000000000, .int 999999999999]) k p1 r1 (by decide) (by decide) (by omega)
    obtain ⟨w, rfl, w0, w1⟩ : ∃ w : Int, d = .int w ∧ 0 ≤ w ∧ w ≤ 1000000000000 := by
      simp at hd
      rcases hd with rfl | rfl | rfl | rfl <;> exact ⟨_, rfl, by decide, by decide⟩
    exact ⟨w, O2, by simp [f_law_wide, b_law_wide, runF, sSeq, sIf, sNext, sDrop, sRet, sRetN, sAsg, ofRes, ofB, bName, bNil, bCons, bTup, bLst, bSubL, mTest, mOp, mVar, mC, mChain, mAnd, mOr, mNot, mIf, mAndV, mOrV, mNotV, mNeg, mCons, mNil, mTup, mLst, newL, mCall, mFn, arity, g1, g2, gLen, gInt, gAbs, gMax2, gMin2, gIx, seqOf, lsqOf, lstOf, Res.bind, ofO, gAdd_ok, gSub_ok, gEq_int, gNe_int, gLt_int, gLe_int, gGt_int, gGe_int, gEq_bl, gNe_bl, gEq_str, gNe_str, mIsi, mIsiT, tyD, kitL, kitTab, atI_c0, atI_c1, atI_c2, atI_c3, atI_c4, sForR1, int1, int2, mMeth, mMake, mFld, sFldM, gIs, gIsNot, isNon_t, sRaise, gList, newLO, e1, e2, c0], w0, w1, pmono (by omega) p2, r2⟩
  · by_cases c1 : v = 1
    · obtain ⟨w, O2, e2, w0, w1, p2, r2⟩ := draw1 (many := 60) k p1 r1 (by omega) (by omega) (by omega)
      exact ⟨w, O2, by simp [f_law_wide, b_law_wide, runF, sSeq, sIf, sNext, sDrop, sRet, sRetN, sAsg, ofRes, ofB, bName, bNil, bCons, bTup, bLst, bSubL, mTest, mOp, mVar, mC, mChain, mAnd, mOr, mNot, mIf, mAndV, mOrV, mNotV, mNeg, mCons, mNil, mTup, mLst, newL, mCall, mFn, arity, g1, g2, gLen, gInt, gAbs, gMax2, gMin2, gIx, seqOf, lsqOf, lstOf, Res.bind, ofO, gAdd_ok, gSub_ok, gEq_int, gNe_int, gLt_int, gLe_int, gGt_int, gGe_int, gEq_bl, gNe_bl, gEq_str, gNe_str, mIsi, mIsiT, tyD, kitL, kitTab, atI_c0, atI_c1, atI_c2, atI_c3, atI_c4, sForR1, int1, int2, mMeth, mMake, mFld, sFldM, gIs, gIsNot, isNon_t, sRaise, gList, newLO, e1, e2, c0, c1], w0, by omega, pmono (by omega) p2, r2⟩
    · obtain ⟨w, O2, e2, w0, w1, p2, r2⟩ := draw1 (many := 1000000) k p1 r1 (by omega) (by omega) (by omega)
      obtain ⟨d, O3, e3, hd, p3, r3⟩ := pick1 (ds := [.int 1, .int 1000, .int 1000000]) k p2 r2 (by decide) (by decide) (by omega)
      obtain ⟨u, O4, e4, u0, u1, p4, r4⟩ := draw1 (many := 60) k p3 r3 (by omega) (by omega) (by omega)
      obtain ⟨y, rfl, y0, y1⟩ : ∃ w : Int, d = .int w ∧ (w = 1 ∨ w = 1000 ∨ w = 1000000) ∧ w.natAbs ≤ 2 ^ 64 := by
        simp at hd
        rcases hd with rfl | rfl | rfl <;> exact ⟨_, rfl, by simp, by decide⟩
      have hm := fun O => mulT (O := O) (a := w) (c := y) (by omega) y1
      refine ⟨w * y + u, O4, by simp [f_law_wide, b_law_wide, runF, sSeq, sIf, sNext, sDrop, sRet, sRetN, sAsg, ofRes, ofB, bName, bNil, bCons, bTup, bLst, bSubL, mTest, mOp, mVar, mC, mChain, mAnd, mOr, mNot, mIf, mAndV, mOrV, mNotV, mNeg, mCons, mNil, mTup, mLst, newL, mCall, mFn, arity, g1, g2, gLen, gInt, gAbs, gMax2, gMin2, gIx, seqOf, lsqOf, lstOf, Res.bind, ofO, gAdd_ok, gSub_ok, gEq_int, gNe_int, gLt_int, gLe_int, gGt_int, gGe_int, gEq_bl, gNe_bl, gEq_str, gNe_str, mIsi, mIsiT, tyD, kitL, kitTab, atI_c0, atI_c1, atI_c2, atI_c3, atI_c4, sForR1, int1, int2, mMeth, mMake, mFld, sFldM, gIs, gIsNot, isNon_t, sRaise, gList, newLO, e1, e2, e3, e4, c0, c1, hm], ?_, ?_, p4, r4⟩
      · rcases y0 with rfl | rfl | rfl <;> omega
      · rcases y0 with rfl | rfl | rfl <;> omega
abbrev NUM (g t f : Int) : D := .lst [.int g, .int t, .int f]
theorem numbers1 {b : Nat} {O : Store} (h : Pool b 0 O) (hb : b ≤ 2 ^ 40) (hl : O.length = 1) :
    ∃ g t f O', f_law_numbers [.hdl 0] O = .ok (NUM g t f) O' ∧ (0 ≤ g ∧ g ≤ 1000) ∧ (0 ≤ t ∧ t ≤ 1000) ∧ (0 ≤ f ∧ f ≤ 1000) ∧ Pool (b + 12) 0 O' ∧ O'.length = 1 := by
  have k : Keep 0 (fun O => O.length = 1) := keep_len (m := fun n => n = 1)
  obtain ⟨O', ys, e, ⟨zs, hz, hz1, hz2⟩, p, l⟩ := lcR1_keeps (I := fun i O acc => (∃ zs : List Int, acc = zs.map .int ∧ zs.length = i ∧ i ≤ 3 ∧ ∀ z ∈ zs, 0 ≤ z ∧ z ≤ 1000) ∧ Pool (b + 4 * i) 0 O ∧ O.length = 1)
    (t := mCons (mC (.int 3)) mNil) (vs := [1]) (b := bName 1) (L := [some (.hdl 0), none]) (O := O) (O1 := O) (j := 3)
    (el := (mFn (arity 2 f_law_pick) [] (mCons (mVar 0) (mCons (mLst false (mCons (mFn (arity 2 f_law_draw) [] (mCons (mVar 0) (mCons (mC (.int 12)) mNil))) (mCons (mFn (arity 2 f_law_draw) [] (mCons (mVar 0) (mCons (mC (.int 120)) mNil))) (mCons (mC (.int 0)) (mCons (mC (.int 1000)) (mCons (mFn (arity 2 f_law_draw) [] (mCons (mVar 0) (mCons (mC (.int 1001)) mNil))) mNil)))))) mNil))))
    rfl (by decide) (by decide) ⟨⟨[], rfl, rfl, by omega, by simp⟩, h, hl⟩ (fun i O acc ⟨⟨zs, h1, h2, h3, _⟩, _⟩ => by rw [h1, List.length_map]; omega)
    fun i O acc hi ⟨⟨zs, h1, h2, h3, h4⟩, p, l⟩ => by
      obtain ⟨v1, O1, e1, v10, v11, p1, r1⟩ := draw1 (many := 12) k p l (by omega) (by omega) (by omega)
      obtain ⟨v2, O2, e2, v20, v21, p2, r2⟩ := draw1 (many := 120) k p1 r1 (by omega) (by omega) (by omega)
      obtain ⟨v3, O3, e3, v30, v31, p3, r3⟩ := draw1 (many := 1001) k p2 r2 (by omega) (by omega) (by omega)
      obtain ⟨d, O4, e4, hd, p4, r4⟩ := pick1 (ds := [.int v1, .int v2, .int 0, .int 1000, .int v3]) k p3 r3 (by simp) (by simp) (by omega)
      obtain ⟨w, rfl, w0, w1⟩ : ∃ w : Int, d = .int w ∧ 0 ≤ w ∧ w ≤ 1000 := by
        simp at hd
        rcases hd with rfl | rfl | rfl | rfl | rfl <;> exact ⟨_, rfl, by omega, by omega⟩
      refine ⟨[some (.hdl 0), some (.int (0 + (i : Int)))], .int w, O4, rfl, by simp [runF, sSeq, sIf, sNext, sDrop, sRet, sRetN, sAsg, ofRes, ofB, bName, bNil, bCons, bTup, bLst, bSubL, mTest, mOp, mVar, mC, mChain, mAnd, mOr, mNot, mIf, mAndV, mOrV, mNotV, mNeg, mCons, mNil, mTup, mLst, newL, mCall, mFn, arity, g1, g2, gLen, gInt, gAbs, gMax2, gMin2, gIx, seqOf, lsqOf, lstOf, Res.bind, ofO, gAdd_ok, gSub_ok, gEq_int, gNe_int, gLt_int, gLe_int, gGt_int, gGe_int, gEq_bl, gNe_bl, gEq_str, gNe_str, mIsi, mIsiT, tyD, kitL, kitTab, atI_c0, atI_c1, atI_c2, atI_c3, atI_c4, sForR1, int1, int2, mMeth, mMake, mFld, sFldM, gIs, gIsNot, isNon_t, sRaise, gList, newLO, e1, e2, e3, e4], ⟨zs ++ [w], by rw [h1, List.map_append]; rfl, by rw [List.length_append, h2]; rfl, by omega, fun z hz => ?_⟩, p4, r4⟩
      rcases List.mem_append.mp hz with hz | hz
      · exact h4 z hz
      · rw [List.mem_singleton.mp hz]; exact ⟨w0, w1⟩
  subst hz
  match zs, hz1, hz2 with
  | [g, t, f], _, hz2 =>
    refine ⟨g, t, f, O', ?_, hz2.2 g (by simp), hz2.2 t (by simp), hz2.2 f (by simp), p, l⟩
    simp [f_law_numbers, b_law_numbers, runF, sRet, ofRes, e]
/-! ### the warm -/
abbrev warmO (g t f : Int) : Ob := .ins "Warm" [("grow", .int g), ("top", .int t), ("fall", .int f)]
abbrev meterO (a c : Nat) : Ob := .ins "Meter" [("_warm", .hdl 1), ("_marks", .hdl a), ("_extras", .hdl c)]
theorem lwg {f r c : D} : List.lookup ("grow" : Str) [(("grow" : Str), f), (("top" : Str), r), (("fall" : Str), c)] = some f := rfl
theorem lwt {f r c : D} : List.lookup ("top" : Str) [(("grow" : Str), f), (("top" : Str), r), (("fall" : Str), c)] = some r := rfl
theorem lwf {f r c : D} : List.lookup ("fall" : Str) [(("grow" : Str), f), (("top" : Str), r), (("fall" : Str), c)] = some c := rfl
theorem lwb {f r c : D} : List.lookup ("behind" : Str) [(("grow" : Str), f), (("top" : Str), r), (("fall" : Str), c)] = none := rfl
theorem lww {f r c : D} : List.lookup ("want" : Str) [(("grow" : Str), f), (("top" : Str), r), (("fall" : Str), c)] = none := rfl
theorem lwu {f r c : D} : List.lookup ("until" : Str) [(("grow" : Str), f), (("top" : Str), r), (("fall" : Str), c)] = none := rfl
theorem lmw {f r c : D} : List.lookup ("_warm" : Str) [(("_warm" : Str), f), (("_marks" : Str), r), (("_extras" : Str), c)] = some f := rfl
theorem lmm {f r c : D} : List.lookup ("_marks" : Str) [(("_warm" : Str), f), (("_marks" : Str), r), (("_extras" : Str), c)] = some r := rfl
theorem lme {f r c : D} : List.lookup ("_extras" : Str) [(("_warm" : Str), f), (("_marks" : Str), r), (("_extras" : Str), c)] = some c := rfl
theorem lm1 {f r c : D} : List.lookup ("_place" : Str) [(("_warm" : Str), f), (("_marks" : Str), r), (("_extras" : Str), c)] = none := rfl
theorem lm2 {f r c : D} : List.lookup ("extra" : Str) [(("_warm" : Str), f), (("_marks" : Str), r), (("_extras" : Str), c)] = none := rfl
theorem lm3 {f r c : D} : List.lookup ("last" : Str) [(("_warm" : Str), f), (("_marks" : Str), r), (("_extras" : Str), c)] = none := rfl
theorem lm4 {f r c : D} : List.lookup ("switch" : Str) [(("_warm" : Str), f), (("_marks" : Str), r), (("_extras" : Str), c)] = none := rfl
theorem lm5 {f r c : D} : List.lookup ("is_lit" : Str) [(("_warm" : Str), f), (("_marks" : Str), r), (("_extras" : Str), c)] = none := rfl
theorem lm6 {f r c : D} : List.lookup ("settles" : Str) [(("_warm" : Str), f), (("_marks" : Str), r), (("_extras" : Str), c)] = none := rfl
theorem lm7 {f r c : D} : List.lookup ("peak" : Str) [(("_warm" : Str), f), (("_marks" : Str), r), (("_extras" : Str), c)] = none := rfl
theorem lm8 {f r c : D} : List.lookup ("dark_minutes" : Str) [(("_warm" : Str), f), (("_marks" : Str), r), (("_extras" : Str), c)] = none := rfl
structure Gtf (g t f : Int) : Prop where
  g : 0 ≤ g ∧ g ≤ 1000
  t : 0 ≤ t ∧ t ≤ 1000
  f : 0 ≤ f ∧ f ≤ 1000
/-- the extra after n minutes -/
def sp (g t f e n : Int) (l : Bool) : Int := if l = true then max 0 (e - n * f) else max e (min t (e + n * g))
theorem span_is {g t f e n : Int} {l : Bool} {O : Store} (k : Gtf g t f) (h0 : 0 ≤ n) (h1 : n ≤ 2 ^ 60) : f_law_span [NUM g t f, .int e, .int n, .bl l] O = .ok (.int (sp g t f e n l)) O := by
  have x1 := fun O => mulT (O := O) (a := n) (c := f) (by omega) (by have := k.f; omega)
  have x2 := fun O => mulT (O := O) (a := n) (c := g) (by omega) (by have := k.g; omega)
  have ng : 0 ≤ n * g := Int.mul_nonneg h0 k.g.1
  cases l
  · by_cases c : t ≤ e
    · simp [f_law_span, b_law_span, mTru, truD, runF, sSeq, sIf, sNext, sDrop, sRet, sRetN, sAsg, ofRes, ofB, bName, bNil, bCons, bTup, bLst, bSubL, mTest, mOp, mVar, mC, mChain, mAnd, mOr, mNot, mIf, mAndV, mOrV, mNotV, mNeg, mCons, mNil, mTup, mLst, newL, mCall, mFn, arity, g1, g2, gLen, gInt, gAbs, gMax2, gMin2, gIx, seqOf, lsqOf, lstOf, Res.bind, ofO, gAdd_ok, gSub_ok, gEq_int, gNe_int, gLt_int, gLe_int, gGt_int, gGe_int, gEq_bl, gNe_bl, gEq_str, gNe_str, mIsi, mIsiT, tyD, kitL, kitTab, atI_c0, atI_c1, atI_c2, atI_c3, atI_c4, sForR1, int1, int2, mMeth, mMake, mFld, sFldM, gIs, gIsNot, isNon_t, sRaise, gList, newLO, x1, x2, c, sp]
      omega
    · simp [f_law_span, b_law_span, mTru, truD, runF, sSeq, sIf, sNext, sDrop, sRet, sRetN, sAsg, ofRes, ofB, bName, bNil, bCons, bTup, bLst, bSubL, mTest, mOp, mVar, mC, mChain, mAnd, mOr, mNot, mIf, mAndV, mOrV, mNotV, mNeg, mCons, mNil, mTup, mLst, newL, mCall, mFn, arity, g1, g2, gLen, gInt, gAbs, gMax2, gMin2, gIx, seqOf, lsqOf, lstOf, Res.bind, ofO, gAdd_ok, gSub_ok, gEq_int, gNe_int, gLt_int, gLe_int, gGt_int, gGe_int, gEq_bl, gNe_bl, gEq_str, gNe_str, mIsi, mIsiT, tyD, kitL, kitTab, atI_c0, atI_c1, atI_c2, atI_c3, atI_c4, sForR1, int1, int2, mMeth, mMake, mFld, sFldM, gIs, gIsNot, isNon_t, sRaise, gList, newLO, x1, x2, c, sp]
      generalize n * g = y at *
      split <;> omega
  · simp [f_law_span, b_law_span, mTru, truD, runF, sSeq, sIf, sNext, sDrop, sRet, sRetN, sAsg, ofRes, ofB, bName, bNil, bCons, bTup, bLst, bSubL, mTest, mOp, mVar, mC, mChain, mAnd, mOr, mNot, mIf, mAndV, mOrV, mNotV, mNeg, mCons, mNil, mTup, mLst, newL, mCall, mFn, arity, g1, g2, gLen, gInt, gAbs, gMax2, gMin2, gIx, seqOf, lsqOf, lstOf, Res.bind, ofO, gAdd_ok, gSub_ok, gEq_int, gNe_int, gLt_int, gLe_int, gGt_int, gGe_int, gEq_bl, gNe_bl, gEq_str, gNe_str, mIsi, mIsiT, tyD, kitL, kitTab, atI_c0, atI_c1, atI_c2, atI_c3, atI_c4, sForR1, int1, int2, mMeth, mMake, mFld, sFldM, gIs, gIsNot, isNon_t, sRaise, gList, newLO, x1, x2, sp]
    generalize n * f = y at *
    split <;> omega
theorem behind_is {g t f e n : Int} {l : Bool} {O : Store} (k : Gtf g t f) (h0 : 0 ≤ n) (h1 : n ≤ 2 ^ 60) (h : O[1]? = some (warmO g t f)) : f_warm_behind [.hdl 1, .int e, .int n, .bl l] O = .ok (.int (sp g t f e n l)) O := by
  have x1 := fun O => mulT (O := O) (a := n) (c := f) (by omega) (by have := k.f; omega)
  have x2 := fun O => mulT (O := O) (a := n) (c := g) (by omega) (by have := k.g; omega)
  cases l
  · simp [f_warm_behind, b_warm_behind, mTru, truD, runF, sSeq, sIf, sNext, sDrop, sRet, sRetN, sAsg, ofRes, ofB, bName, bNil, bCons, bTup, bLst, bSubL, mTest, mOp, mVar, mC, mChain, mAnd, mOr, mNot, mIf, mAndV, mOrV, mNotV, mNeg, mCons, mNil, mTup, mLst, newL, mCall, mFn, arity, g1, g2, gLen, gInt, gAbs, gMax2, gMin2, gIx, seqOf, lsqOf, lstOf, Res.bind, ofO, gAdd_ok, gSub_ok, gEq_int, gNe_int, gLt_int, gLe_int, gGt_int, gGe_int, gEq_bl, gNe_bl, gEq_str, gNe_str, mIsi, mIsiT, tyD, kitL, kitTab, atI_c0, atI_c1, atI_c2, atI_c3, atI_c4, sForR1, int1, int2, mMeth, mMake, mFld, sFldM, gIs, gIsNot, isNon_t, sRaise, gList, newLO, h, lwg, lwt, lwf, x1, x2, sp]
    generalize n * g = y at *
    split <;> split <;> omega
  · simp [f_warm_behind, b_warm_behind, mTru, truD, runF, sSeq, sIf, sNext, sDrop, sRet, sRetN, sAsg, ofRes, ofB, bName, bNil, bCons, bTup, bLst, bSubL, mTest, mOp, mVar, mC, mChain, mAnd, mOr, mNot, mIf, mAndV, mOrV, mNotV, mNeg, mCons, mNil, mTup, mLst, newL, mCall, mFn, arity, g1, g2, gLen, gInt, gAbs, gMax2, gMin2, gIx, seqOf, lsqOf, lstOf, Res.bind, ofO, gAdd_ok, gSub_ok, gEq_int, gNe_int, gLt_int, gLe_int, gGt_int, gGe_int, gEq_bl, gNe_bl, gEq_str, gNe_str, mIsi, mIsiT, tyD, kitL, kitTab, atI_c0, atI_c1, atI_c2, atI_c3, atI_c4, sForR1, int1, int2, mMeth, mMake, mFld, sFldM, gIs, gIsNot, isNon_t, sRaise, gList, newLO, h, lwg, lwt, lwf, x1, x2, sp]
    generalize n * f = y at *
    split <;> omega
theorem want_is {g t f e n : Int} {O : Store} (he : e.natAbs ≤ 2 ^ 60) (hn : n.natAbs ≤ 2 ^ 60) (h : O[1]? = some (warmO g t f)) : f_warm_want [.hdl 1, .int n, .int e] O = .ok (.int (n + (n * e + 99) / 100)) O := by
  have x1 := fun O => mulT (O := O) (a := n) (c := e) (by omega) (by omega)
  have x2 : ∀ (O : Store) (i : Int), gFdiv O (.int i) (.int 100) = some (.int (i / 100), O) := fun O i => gFdiv_ok (by decide) (by decide)
  simp [f_warm_want, b_warm_want, runF, sSeq, sIf, sNext, sDrop, sRet, sRetN, sAsg, ofRes, ofB, bName, bNil, bCons, bTup, bLst, bSubL, mTest, mOp, mVar, mC, mChain, mAnd, mOr, mNot, mIf, mAndV, mOrV, mNotV, mNeg, mCons, mNil, mTup, mLst, newL, mCall, mFn, arity, g1, g2, gLen, gInt, gAbs, gMax2, gMin2, gIx, seqOf, lsqOf, lstOf, Res.bind, ofO, gAdd_ok, gSub_ok, gEq_int, gNe_int, gLt_int, gLe_int, gGt_int, gGe_int, gEq_bl, gNe_bl, gEq_str, gNe_str, mIsi, mIsiT, tyD, kitL, kitTab, atI_c0, atI_c1, atI_c2, atI_c3, atI_c4, sForR1, int1, int2, mMeth, mMake, mFld, sFldM, gIs, gIsNot, isNon_t, sRaise, gList, newLO, x1, x2]
theorem until_is {g t f e n : Int} {O : Store} (k : Gtf g t f) (h : O[1]? = some (warmO g t f)) : f_warm_until [.hdl 1, .int e, .int n] O = .ok (if e ≤ n then .int 0 else if f = 0 then .non else .int ((e - n + f - 1) / f)) O := by
  by_cases c : e ≤ n
  · simp [f_warm_until, b_warm_until, runF, sSeq, sIf, sNext, sDrop, sRet, sRetN, sAsg, ofRes, ofB, bName, bNil, bCons, bTup, bLst, bSubL, mTest, mOp, mVar, mC, mChain, mAnd, mOr, mNot, mIf, mAndV, mOrV, mNotV, mNeg, mCons, mNil, mTup, mLst, newL, mCall, mFn, arity, g1, g2, gLen, gInt, gAbs, gMax2, gMin2, gIx, seqOf, lsqOf, lstOf, Res.bind, ofO, gAdd_ok, gSub_ok, gEq_int, gNe_int, gLt_int, gLe_int, gGt_int, gGe_int, gEq_bl, gNe_bl, gEq_str, gNe_str, mIsi, mIsiT, tyD, kitL, kitTab, atI_c0, atI_c1, atI_c2, atI_c3, atI_c4, sForR1, int1, int2, mMeth, mMake, mFld, sFldM, gIs, gIsNot, isNon_t, sRaise, gList, newLO, h, lwf, c]
  · by_cases c2 : f = 0
    · simp [f_warm_until, b_warm_until, runF, sSeq, sIf, sNext, sDrop, sRet, sRetN, sAsg, ofRes, ofB, bName, bNil, bCons, bTup, bLst, bSubL, mTest, mOp, mVar, mC, mChain, mAnd, mOr, mNot, mIf, mAndV, mOrV, mNotV, mNeg, mCons, mNil, mTup, mLst, newL, mCall, mFn, arity, g1, g2, gLen, gInt, gAbs, gMax2, gMin2, gIx, seqOf, lsqOf, lstOf, Res.bind, ofO, gAdd_ok, gSub_ok, gEq_int, gNe_int, gLt_int, gLe_int, gGt_int, gGe_int, gEq_bl, gNe_bl, gEq_str, gNe_str, mIsi, mIsiT, tyD, kitL, kitTab, atI_c0, atI_c1, atI_c2, atI_c3, atI_c4, sForR1, int1, int2, mMeth, mMake, mFld, sFldM, gIs, gIsNot, isNon_t, sRaise, gList, newLO, h, lwf, c, c2]
    · have x2 : ∀ (O : Store) (i : Int), gFdiv O (.int i) (.int f) = some (.int (i / f), O) := fun O i => gFdiv_ok (by have := k.f; omega) (by have := k.f; omega)
      simp [f_warm_until, b_warm_until, runF, sSeq, sIf, sNext, sDrop, sRet, sRetN, sAsg, ofRes, ofB, bName, bNil, bCons, bTup, bLst, bSubL, mTest, mOp, mVar, mC, mChain, mAnd, mOr, mNot, mIf, mAndV, mOrV, mNotV, mNeg, mCons, mNil, mTup, mLst, newL, mCall, mFn, arity, g1, g2, gLen, gInt, gAbs, gMax2, gMin2, gIx, seqOf, lsqOf, lstOf, Res.bind, ofO, gAdd_ok, gSub_ok, gEq_int, gNe_int, gLt_int, gLe_int, gGt_int, gGe_int, gEq_bl, gNe_bl, gEq_str, gNe_str, mIsi, mIsiT, tyD, kitL, kitTab, atI_c0, atI_c1, atI_c2, atI_c3, atI_c4, sForR1, int1, int2, mMeth, mMake, mFld, sFldM, gIs, gIsNot, isNon_t, sRaise, gList, newLO, h, lwf, c, c2, x2]
theorem winit_is {O : Store} {g t f : Int} (k : Gtf g t f) : f_warm_init [.hdl O.length, .int g, .int t, .int f] (O ++ [.ins "Warm" []]) = .ok .non (O ++ [warmO g t f]) := by
  have l2 : ∀ p : Ob, (O ++ [p])[O.length]? = some p := fun p => by simp
  have hset2 : ∀ p q : Ob, ((O ++ [q]).set O.length p) = O ++ [p] := fun p q => by simp
  have y1 : ∀ O, f_checked_number [.int g, .int 0, .int 1000] O = .ok (.int g) O := fun O => chk_yes k.g.1 k.g.2
  have y2 : ∀ O, f_checked_number [.int t, .int 0, .int 1000] O = .ok (.int t) O := fun O => chk_yes k.t.1 k.t.2
  have y3 : ∀ O, f_checked_number [.int f, .int 0, .int 1000] O = .ok (.int f) O := fun O => chk_yes k.f.1 k.f.2
  have put1 : ∀ d : D, putD "grow" d [] = [(("grow" : Str), d)] := fun d => rfl
  have put2 : ∀ d x : D, putD "top" d [(("grow" : Str), x)] = [(("grow" : Str), x), (("top" : Str), d)] := fun d x => rfl
  have put3 : ∀ d x y : D, putD "fall" d [(("grow" : Str), x), (("top" : Str), y)] = [(("grow" : Str), x), (("top" : Str), y), (("fall" : Str), d)] := fun d x y => rfl
  simp [f_warm_init, b_warm_init, runF, sSeq, sIf, sNext, sDrop, sRet, sRetN, sAsg, ofRes, ofB, bName, bNil, bCons, bTup, bLst, bSubL, mTest, mOp, mVar, mC, mChain, mAnd, mOr, mNot, mIf, mAndV, mOrV, mNotV, mNeg, mCons, mNil, mTup, mLst, newL, mCall, mFn, arity, g1, g2, gLen, gInt, gAbs, gMax2, gMin2, gIx, seqOf, lsqOf, lstOf, Res.bind, ofO, gAdd_ok, gSub_ok, gEq_int, gNe_int, gLt_int, gLe_int, gGt_int, gGe_int, gEq_bl, gNe_bl, gEq_str, gNe_str, mIsi, mIsiT, tyD, kitL, kitTab, atI_c0, atI_c1, atI_c2, atI_c3, atI_c4, sForR1, int1, int2, mMeth, mMake, mFld, sFldM, gIs, gIsNot, isNon_t, sRaise, gList, newLO, l2, hset2, y1, y2, y3, put1, put2, put3]
/-! ### the marks -/
abbrev Ent := Int × Bool × Int
abbrev mkM (w : Ent) : D := .tup [.int w.1, .bl w.2.1]
abbrev mkE (w : Ent) : D := .int w.2.2
structure Mtr (g t f : Int) (ws : List Ent) (a c : Nat) (O : Store) : Prop where
  w : O[1]? = some (warmO g t f)
  m : O[2]? = some (meterO a c)
  a : O[a]? = some (.lst (ws.map mkM))
  c : O[c]? = some (.lst (ws.map mkE))
structure Wok (ws : List Ent) : Prop where
  ne : 0 < ws.length
  few : ws.length ≤ 50
  fst : ∀ w, ws[0]? = some w → w.1 = 0
  up : ws.Pairwise fun x y => x.1 < y.1
  bd : ∀ w ∈ ws, 0 ≤ w.1 ∧ w.1 ≤ 1000000000000 ∧ 0 ≤ w.2.2 ∧ w.2.2 ≤ 1000
def Seen (ws : List Ent) (x : Int) (idx : Nat) (w : Ent) : Prop := ws[idx]? = some w ∧ w.1 ≤ x ∧ ∀ j u, idx < j → ws[j]? = some u → x < u.1
def pb : SM := (sSeq (sAsg (mOp gFdiv (mOp (gAdd false) (mVar 2) (mVar 3)) (mC (.int 2))) (bName 4))
    (sIf (mTest (mOp gLe (mOp gIx (mOp gIx (mFld "Meter" "_marks" (mVar 0)) (mVar 4)) (mC (.int 0))) (mVar 1))) (sAsg (mVar 4) (bName 2)) (sAsg (mVar 4) (bName 3))))
theorem place_loop {g t f x : Int} {ws : List Ent} {a c : Nat} {O : Store} (m : Mtr g t f ws a c O) : ∀ (n low high : Nat) (y : Option D), low < high → high ≤ ws.length → high - low ≤ n → (∃ w, ws[low]? = some w ∧ w.1 ≤ x) → (high = ws.length ∨ ∃ u, ws[high]? = some u ∧ x < u.1) →
    ∃ (lo : Nat) (hd yd : Option D), loopW (mTest (mOp gGt (mOp gSub (mVar 3) (mVar 2)) (mC (.int 1)))) pb n [some (.hdl 2), some (.int x), some (.int low), some (.int high), y] O = .next [some (.hdl 2), some (.int x), some (.int lo), hd, yd] O ∧ (∃ w, ws[lo]? = some w ∧ w.1 ≤ x) ∧ (lo + 1 = ws.length ∨ ∃ u, ws[lo + 1]? = some u ∧ x < u.1)
  | 0, low, high, y, h1, h2, h3, _, _ => by omega
  | n + 1, low, high, y, h1, h2, h3, h4, h5 => by
    rw [loopW_succ]
    by_cases c1 : high - low = 1
    · refine ⟨low, some (.int high), y, ?_, h4, by rw [show low + 1 = high by omega]; exact h5⟩
      have : ¬ (1 : Int) < (high : Int) - low := by clear h4 h5; omega
      simp [runF, sSeq, sIf, sNext, sDrop, sRet, sRetN, sAsg, ofRes, ofB, bName, bNil, bCons, bTup, bLst, bSubL, mTest, mOp, mVar, mC, mChain, mAnd, mOr, mNot, mIf, mAndV, mOrV, mNotV, mNeg, mCons, mNil, mTup, mLst, newL, mCall, mFn, arity, g1, g2, gLen, gInt, gAbs, gMax2, gMin2, gIx, seqOf, lsqOf, lstOf, Res.bind, ofO, gAdd_ok, gSub_ok, gEq_int, gNe_int, gLt_int, gLe_int, gGt_int, gGe_int, gEq_bl, gNe_bl, gEq_str, gNe_str, mIsi, mIsiT, tyD, kitL, kitTab, atI_c0, atI_c1, atI_c2, atI_c3, atI_c4, sForR1, int1, int2, mMeth, mMake, mFld, sFldM, gIs, gIsNot, isNon_t, sRaise, gList, newLO, this]
    · have c2 : (1 : Int) < (high : Int) - low := by clear h4 h5; omega
      have hd : ∀ (O : Store) (i : Int), gFdiv O (.int i) (.int 2) = some (.int (i / 2), O) := fun O i => gFdiv_ok (by decide) (by decide)
      have em : ((low : Int) + high) / 2 = (((low + high) / 2 : Nat) : Int) := by omega
      obtain ⟨mid, hmid⟩ : ∃ mid, (low + high) / 2 = mid := ⟨_, rfl⟩
      rw [hmid] at em
      have m1 : low < mid := by omega
      have m2 : mid < high := by omega
      have n1 : high - mid ≤ n := by clear h4 h5; omega
      have n2 : mid - low ≤ n := by clear h4 h5; omega
      have n3 : mid ≤ ws.length := by clear h4 h5; omega
      obtain ⟨u, hu⟩ : ∃ u, ws[mid]? = some u := ⟨ws[mid]'(by omega), List.getElem?_eq_getElem _⟩
      have hx : atI (ws.map mkM) (mid : Int) = some (mkM u) := atI_nat (by omega) (by rw [List.getElem?_map, show ((mid : Int)).toNat = mid by omega, hu]; rfl)
      by_cases c3 : u.1 ≤ x
      · obtain ⟨lo, hd1, yd, e, q1, q2⟩ := place_loop m n mid high (some (.int mid)) m2 h2 n1 ⟨u, hu, c3⟩ h5
        refine ⟨lo, hd1, yd, ?_, q1, q2⟩
        have e1 : pb [some (.hdl 2), some (.int x), some (.int low), some (.int high), y] O = .next [some (.hdl 2), some (.int x), some (.int mid), some (.int high), some (.int mid)] O := by
          simp [pb, runF, sSeq, sIf, sNext, sDrop, sRet, sRetN, sAsg, ofRes, ofB, bName, bNil, bCons, bTup, bLst, bSubL, mTest, mOp, mVar, mC, mChain, mAnd, mOr, mNot, mIf, mAndV, mOrV, mNotV, mNeg, mCons, mNil, mTup, mLst, newL, mCall, mFn, arity, g1, g2, gLen, gInt, gAbs, gMax2, gMin2, gIx, seqOf, lsqOf, lstOf, Res.bind, ofO, gAdd_ok, gSub_ok, gEq_int, gNe_int, gLt_int, gLe_int, gGt_int, gGe_int, gEq_bl, gNe_bl, gEq_str, gNe_str, mIsi, mIsiT, tyD, kitL, kitTab, atI_c0, atI_c1, atI_c2, atI_c3, atI_c4, sForR1, int1, int2, mMeth, mMake, mFld, sFldM, gIs, gIsNot, isNon_t, sRaise, gList, newLO, m.m, m.a, lmm, hd, em, hx, c3]
        simp only [mTest, mOp, mVar, mC, Res.bind, ofO, ofRes, gSub_ok, gGt_int, List.getElem?_cons_succ, List.getElem?_cons_zero, c2, decide_true, if_true, afterT, e1]
        exact e
      · obtain ⟨lo, hd1, yd, e, q1, q2⟩ := place_loop m n low mid (some (.int mid)) m1 n3 n2 h4 (.inr ⟨u, hu, Int.lt_of_not_ge c3⟩)
        refine ⟨lo, hd1, yd, ?_, q1, q2⟩
        have e1 : pb [some (.hdl 2), some (.int x), some (.int low), some (.int high), y] O = .next [some (.hdl 2), some (.int x), some (.int low), some (.int mid), some (.int mid)] O := by
          simp [pb, runF, sSeq, sIf, sNext, sDrop, sRet, sRetN, sAsg, ofRes, ofB, bName, bNil, bCons, bTup, bLst, bSubL, mTest, mOp, mVar, mC, mChain, mAnd, mOr, mNot, mIf, mAndV, mOrV, mNotV, mNeg, mCons, mNil, mTup, mLst, newL, mCall, mFn, arity, g1, g2, gLen, gInt, gAbs, gMax2, gMin2, gIx, seqOf, lsqOf, lstOf, Res.bind, ofO, gAdd_ok, gSub_ok, gEq_int, gNe_int, gLt_int, gLe_int, gGt_int, gGe_int, gEq_bl, gNe_bl, gEq_str, gNe_str, mIsi, mIsiT, tyD, kitL, kitTab, atI_c0, atI_c1, atI_c2, atI_c3, atI_c4, sForR1, int1, int2, mMeth, mMake, mFld, sFldM, gIs, gIsNot, isNon_t, sRaise, gList, newLO, m.m, m.a, lmm, hd, em, hx, c3]
        simp only [mTest, mOp, mVar, mC, Res.bind, ofO, ofRes, gSub_ok, gGt_int, List.getElem?_cons_succ, List.getElem?_cons_zero, c2, decide_true, if_true, afterT, e1]
        exact e
theorem up_lt {ws : List Ent} (h : ws.Pairwise fun x y => x.1 < y.1) {i j : Nat} {u v : Ent} (hu : ws[i]? = some u) (hv : ws[j]? = some v) (hij : i < j) : u.1 < v.1 := by
  obtain ⟨h1, rfl⟩ := List.getElem?_eq_some_iff.mp hu
  obtain ⟨h2, rfl⟩ := List.getElem?_eq_some_iff.mp hv
  exact List.pairwise_iff_getElem.mp h i j h1 h2 hij
theorem place_is {g t f x : Int} {ws : List Ent} {a c : Nat} {O : Store} (m : Mtr g t f ws a c O) (k : Wok ws) (h0 : 0 ≤ x) : ∃ (idx : Nat) (w : Ent), f_meter_place [.hdl 2, .int x] O = .ok (.int idx) O ∧ Seen ws x idx w := by
  obtain ⟨w0, hw0⟩ : ∃ u, ws[0]? = some u := ⟨ws[0]'k.ne, List.getElem?_eq_getElem _⟩
  have hf := k.few
  obtain ⟨lo, hd, yd, e, ⟨w, hw, hwx⟩, h2⟩ := place_loop m 100 0 ws.length none k.ne (Nat.le_refl _) (by omega) ⟨w0, hw0, by rw [k.fst _ hw0]; exact h0⟩ (.inl rfl)
  refine ⟨lo, w, ?_, hw, hwx, fun j u hj hu => ?_⟩
  · have : b_meter_place = (sSeq (sAsg (mC (.int 0)) (bName 2)) (sSeq (sAsg (mCall (g1 gLen) (mCons (mFld "Meter" "_marks" (mVar 0)) mNil)) (bName 3)) (sSeq (sWhile 100 (mTest (mOp gGt (mOp gSub (mVar 3) (mVar 2)) (mC (.int 1)))) pb) (sRet (mVar 2))))) := rfl
    have e2 : sWhile 100 (mTest (mOp gGt (mOp gSub (mVar 3) (mVar 2)) (mC (.int 1)))) pb [some (.hdl 2), some (.int x), some (.int 0), some (.int ws.length), none] O = .next [some (.hdl 2), some (.int x), some (.int lo), hd, yd] O := e
    simp only [f_meter_place, this]
    generalize (sWhile 100 (mTest (mOp gGt (mOp gSub (mVar 3) (mVar 2)) (mC (.int 1)))) pb) = wl at e2 ⊢
    simp [runF, sSeq, sIf, sNext, sDrop, sRet, sRetN, sAsg, ofRes, ofB, bName, bNil, bCons, bTup, bLst, bSubL, mTest, mOp, mVar, mC, mChain, mAnd, mOr, mNot, mIf, mAndV, mOrV, mNotV, mNeg, mCons, mNil, mTup, mLst, newL, mCall, mFn, arity, g1, g2, gLen, gInt, gAbs, gMax2, gMin2, gIx, seqOf, lsqOf, lstOf, Res.bind, ofO, gAdd_ok, gSub_ok, gEq_int, gNe_int, gLt_int, gLe_int, gGt_int, gGe_int, gEq_bl, gNe_bl, gEq_str, gNe_str, mIsi, mIsiT, tyD, kitL, kitTab, atI_c0, atI_c1, atI_c2, atI_c3, atI_c4, sForR1, int1, int2, mMeth, mMake, mFld, sFldM, gIs, gIsNot, isNon_t, sRaise, gList, newLO, m.m, m.a, lmm, e2]
  · have hjl := (List.getElem?_eq_some_iff.mp hu).1
    rcases h2 with h2 | ⟨v, hv, hxv⟩
    · omega
    · rcases Nat.lt_or_eq_of_le (show lo + 1 ≤ j by omega) with h3 | h3
      · have := up_lt k.up hv hu h3
        omega
      · subst h3
        rw [hv] at hu
        cases hu
        exact hxv
theorem msgL : MsgOk 0 1000000000000 := ⟨_, fun d O => rfl⟩
theorem extra_is {g t f x : Int} {ws : List Ent} {a c : Nat} {O : Store} (q : Gtf g t f) (m : Mtr g t f ws a c O) (k : Wok ws) (h0 : 0 ≤ x) (h1 : x ≤ 1000000000000) :
    ∃ (idx : Nat) (w : Ent), Seen ws x idx w ∧ f_meter_extra [.hdl 2, .int x] O = .ok (.int (sp g t f w.2.2 (x - w.1) w.2.1)) O ∧ f_meter_is_lit [.hdl 2, .int x] O = .ok (.bl w.2.1) O := by
  obtain ⟨idx, w, e, hs⟩ := place_is m k h0
  have hm : atI (ws.map mkM) (idx : Int) = some (mkM w) := atI_nat (by omega) (by rw [List.getElem?_map, show ((idx : Int)).toNat = idx by omega, hs.1]; rfl)
  have he : atI (ws.map mkE) (idx : Int) = some (mkE w) := atI_nat (by omega) (by rw [List.getElem?_map, show ((idx : Int)).toNat = idx by omega, hs.1]; rfl)
  have y1 : ∀ O, f_checked_number [.int x, .int 0, .int 1000000000000] O = .ok (.int x) O := fun O => chk_yes h0 h1
  have hb := behind_is (g := g) (t := t) (f := f) (e := w.2.2) (n := x - w.1) (l := w.2.1) (O := O) q (by have := hs.2.1; omega) (by have := (k.bd w (List.mem_of_getElem? hs.1)).1; omega) m.w
  refine ⟨idx, w, hs, ?_, ?_⟩
  · simp [f_meter_extra, b_meter_extra, runF, sSeq, sIf, sNext, sDrop, sRet, sRetN, sAsg, ofRes, ofB, bName, bNil, bCons, bTup, bLst, bSubL, mTest, mOp, mVar, mC, mChain, mAnd, mOr, mNot, mIf, mAndV, mOrV, mNotV, mNeg, mCons, mNil, mTup, mLst, newL, mCall, mFn, arity, g1, g2, gLen, gInt, gAbs, gMax2, gMin2, gIx, seqOf, lsqOf, lstOf, Res.bind, ofO, gAdd_ok, gSub_ok, gEq_int, gNe_int, gLt_int, gLe_int, gGt_int, gGe_int, gEq_bl, gNe_bl, gEq_str, gNe_str, mIsi, mIsiT, tyD, kitL, kitTab, atI_c0, atI_c1, atI_c2, atI_c3, atI_c4, sForR1, int1, int2, mMeth, mMake, mFld, sFldM, gIs, gIsNot, isNon_t, sRaise, gList, newLO, m.m, m.a, m.c, m.w, lmm, lme, lmw, lm1, lwb, e, hm, he, y1, hb]
  · simp [f_meter_is_lit, b_meter_is_lit, runF, sSeq, sIf, sNext, sDrop, sRet, sRetN, sAsg, ofRes, ofB, bName, bNil, bCons, bTup, bLst, bSubL, mTest, mOp, mVar, mC, mChain, mAnd, mOr, mNot, mIf, mAndV, mOrV, mNotV, mNeg, mCons, mNil, mTup, mLst, newL, mCall, mFn, arity, g1, g2, gLen, gInt, gAbs, gMax2, gMin2, gIx, seqOf, lsqOf, lstOf, Res.bind, ofO, gAdd_ok, gSub_ok, gEq_int, gNe_int, gLt_int, gLe_int, gGt_int, gGe_int, gEq_bl, gNe_bl, gEq_str, gNe_str, mIsi, mIsiT, tyD, kitL, kitTab, atI_c0, atI_c1, atI_c2, atI_c3, atI_c4, sForR1, int1, int2, mMeth, mMake, mFld, sFldM, gIs, gIsNot, isNon_t, sRaise, gList, newLO, m.m, m.a, lmm, lm1, e, hm, y1]
/-! ### the law's own marks -/
abbrev Mk := Int × Bool
abbrev mkL (w : Mk) : D := .tup [.int w.1, .bl w.2]
def stepM (g t f x : Int) (s : Int × Int × Bool) (m : Mk) : Int × Int × Bool := if m.1 ≤ x then (sp g t f s.1 (m.1 - s.2.1) s.2.2, m.1, m.2) else s
def foldM (g t f x : Int) (lm : List Mk) : Int × Int × Bool := lm.foldl (stepM g t f x) (0, 0, false)
def atL (g t f : Int) (lm : List Mk) (x : Int) : Int × Bool := (sp g t f (foldM g t f x lm).1 (x - (foldM g t f x lm).2.1) (foldM g t f x lm).2.2, (foldM g t f x lm).2.2)
def atb : SM := (sIf (mTest (mOp gLe (mOp gIx (mVar 6) (mC (.int 0))) (mVar 2))) (sSeq (sAsg (mFn (arity 4 f_law_span) [] (mCons (mVar 0) (mCons (mVar 3) (mCons (mOp gSub (mOp gIx (mVar 6) (mC (.int 0))) (mVar 4)) (mCons (mVar 5) mNil))))) (bName 3))
    (sSeq (sAsg (mOp gIx (mVar 6) (mC (.int 0))) (bName 4))
    (sAsg (mOp gIx (mVar 6) (mC (.int 1))) (bName 5)))) sNext)
theorem at_is {g t f x : Int} {lm : List Mk} {O : Store} (q : Gtf g t f) (h : O[5]? = some (.lst (lm.map mkL))) (up : lm.Pairwise fun a b => a.1 < b.1) (bd : ∀ m ∈ lm, 0 ≤ m.1 ∧ m.1 ≤ 1000000000000) (h0 : 0 ≤ x) (h1 : x ≤ 1000000000000) :
    f_law_at [NUM g t f, .hdl 5, .int x] O = .ok (.lst [.int (atL g t f lm x).1, .bl (atL g t f lm x).2]) O := by
  obtain ⟨L1, O1, e, rfl, s, y, rfl, hs, s0, s1, _⟩ := loopH_keeps (turn := turnOf (bName 6) atb) (n := 5) (xs := lm.map mkL)
    (I := fun i L O' => O' = O ∧ ∃ (s : Int × Int × Bool) (y : Option D), L = [some (NUM g t f), some (.hdl 5), some (.int x), some (.int s.1), some (.int s.2.1), some (.bl s.2.2), y] ∧ s = (lm.take i).foldl (stepM g t f x) (0, 0, false) ∧ 0 ≤ s.2.1 ∧ s.2.1 ≤ x ∧ ∀ m ∈ lm.drop i, s.2.1 ≤ m.1)
    (fun j L O' z => by rw [z.1]; exact h) (lm.map mkL).length 0 [some (NUM g t f), some (.hdl 5), some (.int x), some (.int 0), some (.int 0), some (.bl false), none] O (by omega)
    ⟨rfl, (0, 0, false), none, rfl, rfl, by simp, by simpa using h0, fun m hm => (bd m (by simpa using hm)).1⟩ fun j d L O' hd ⟨hO, s, y, hL, hs, s0, s1, s2⟩ => by
      subst hO hL
      rw [List.getElem?_map] at hd
      obtain ⟨m, hm, rfl⟩ := Option.map_eq_some_iff.mp hd
      have hj := (List.getElem?_eq_some_iff.mp hm).1
      have hdr : lm.drop j = m :: lm.drop (j + 1) := by
        rw [List.drop_eq_getElem_cons hj]
        rw [(List.getElem?_eq_some_iff.mp hm).2]
      have htk : lm.take (j + 1) = lm.take j ++ [m] := by
        rw [List.take_succ, hm]
        rfl
      have hms : s.2.1 ≤ m.1 := s2 m (by rw [hdr]; simp)
      have hmb := bd m (List.mem_of_getElem? hm)
      have hup : ∀ u ∈ lm.drop (j + 1), m.1 < u.1 := fun u hu => by
        have := up.drop (i := j)
        rw [hdr] at this
        exact (List.pairwise_cons.mp this).1 u hu
      have hsp := fun O => span_is (O := O) (g := g) (t := t) (f := f) (e := s.1) (n := m.1 - s.2.1) (l := s.2.2) q (by omega) (by omega)
      by_cases c : m.1 ≤ x
      · refine ⟨_, O', ?_, rfl, (sp g t f s.1 (m.1 - s.2.1) s.2.2, m.1, m.2), some (mkL m), rfl, ?_, hmb.1, c, fun u hu => Int.le_of_lt (hup u hu)⟩
        · simp [turnOf, atb, runF, sSeq, sIf, sNext, sDrop, sRet, sRetN, sAsg, ofRes, ofB, bName, bNil, bCons, bTup, bLst, bSubL, mTest, mOp, mVar, mC, mChain, mAnd, mOr, mNot, mIf, mAndV, mOrV, mNotV, mNeg, mCons, mNil, mTup, mLst, newL, mCall, mFn, arity, g1, g2, gLen, gInt, gAbs, gMax2, gMin2, gIx, seqOf, lsqOf, lstOf, Res.bind, ofO, gAdd_ok, gSub_ok, gEq_int, gNe_int, gLt_int, gLe_int, gGt_int, gGe_int, gEq_bl, gNe_bl, gEq_str, gNe_str, mIsi, mIsiT, tyD, kitL, kitTab, atI_c0, atI_c1, atI_c2, atI_c3, atI_c4, sForR1, int1, int2, mMeth, mMake, mFld, sFldM, gIs, gIsNot, isNon_t, sRaise, gList, newLO, c, hsp]
        · rw [htk, List.foldl_append, ← hs]
          show _ = stepM g t f x s m
          unfold stepM
          rw [if_pos c]
      · refine ⟨_, O', ?_, rfl, s, some (mkL m), rfl, ?_, s0, s1, fun u hu => s2 u (by rw [hdr]; exact List.mem_cons_of_mem _ hu)⟩
        · simp [turnOf, atb, runF, sSeq, sIf, sNext, sDrop, sRet, sRetN, sAsg, ofRes, ofB, bName, bNil, bCons, bTup, bLst, bSubL, mTest, mOp, mVar, mC, mChain, mAnd, mOr, mNot, mIf, mAndV, mOrV, mNotV, mNeg, mCons, mNil, mTup, mLst, newL, mCall, mFn, arity, g1, g2, gLen, gInt, gAbs, gMax2, gMin2, gIx, seqOf, lsqOf, lstOf, Res.bind, ofO, gAdd_ok, gSub_ok, gEq_int, gNe_int, gLt_int, gLe_int, gGt_int, gGe_int, gEq_bl, gNe_bl, gEq_str, gNe_str, mIsi, mIsiT, tyD, kitL, kitTab, atI_c0, atI_c1, atI_c2, atI_c3, atI_c4, sForR1, int1, int2, mMeth, mMake, mFld, sFldM, gIs, gIsNot, isNon_t, sRaise, gList, newLO, c]
        · rw [htk, List.foldl_append, ← hs]
          show _ = stepM g t f x s m
          unfold stepM
          rw [if_neg c]
  rw [List.length_map, List.take_length] at hs
  have hb : b_law_at = (sSeq (sAsg (mC (.int 0)) (bName 3)) (sSeq (sAsg (mC (.int 0)) (bName 4)) (sSeq (sAsg (mC (.bl false)) (bName 5)) (sSeq (sForL (mVar 1) (bName 6) atb)
    (sRet (mLst false (mCons (mFn (arity 4 f_law_span) [] (mCons (mVar 0) (mCons (mVar 3) (mCons (mOp gSub (mVar 2) (mVar 4)) (mCons (mVar 5) mNil))))) (mCons (mVar 5) mNil)))))))) := rfl
  have hsp := fun O => span_is (O := O) (g := g) (t := t) (f := f) (e := s.1) (n := x - s.2.1) (l := s.2.2) q (by omega) (by omega)
  have e2 : sForL (mVar 1) (bName 6) atb [some (NUM g t f), some (.hdl 5), some (.int x), some (.int 0), some (.int 0), some (.bl false), none] O1 = .next [some (NUM g t f), some (.hdl 5), some (.int x), some (.int s.1), some (.int s.2.1), some (.bl s.2.2), y] O1 := by
    show (match O1[5]? with | some (.lst xs) => loopH (turnOf (bName 6) atb) 5 xs.length 0 _ O1 | _ => SR.bad) = _
    rw [h]
    exact e
  simp only [f_law_at, hb]
  generalize sForL (mVar 1) (bName 6) atb = wl at e2 ⊢
  simp [runF, sSeq, sIf, sNext, sDrop, sRet, sRetN, sAsg, ofRes, ofB, bName, bNil, bCons, bTup, bLst, bSubL, mTest, mOp, mVar, mC, mChain, mAnd, mOr, mNot, mIf, mAndV, mOrV, mNotV, mNeg, mCons, mNil, mTup, mLst, newL, mCall, mFn, arity, g1, g2, gLen, gInt, gAbs, gMax2, gMin2, gIx, seqOf, lsqOf, lstOf, Res.bind, ofO, gAdd_ok, gSub_ok, gEq_int, gNe_int, gLt_int, gLe_int, gGt_int, gGe_int, gEq_bl, gNe_bl, gEq_str, gNe_str, mIsi, mIsiT, tyD, kitL, kitTab, atI_c0, atI_c1, atI_c2, atI_c3, atI_c4, sForR1, int1, int2, mMeth, mMake, mFld, sFldM, gIs, gIsNot, isNon_t, sRaise, gList, newLO, e2, hsp]
  have : foldM g t f x lm = s := hs.symm
  simp [atL, this]
theorem fold_all {g t f x y : Int} : ∀ (lm : List Mk) (s : Int × Int × Bool), (∀ m ∈ lm, m.1 ≤ x) → (∀ m ∈ lm, m.1 ≤ y) → lm.foldl (stepM g t f x) s = lm.foldl (stepM g t f y) s
  | [], s, _, _ => rfl
  | m :: lm, s, h1, h2 => by
    have e : stepM g t f x s m = stepM g t f y s m := by
      unfold stepM
      rw [if_pos (h1 m (by simp)), if_pos (h2 m (by simp))]
    rw [List.foldl_cons, List.foldl_cons, e]
    exact fold_all lm _ (fun m h => h1 m (List.mem_cons_of_mem _ h)) (fun m h => h2 m (List.mem_cons_of_mem _ h))
theorem at_append {g t f x : Int} {lm : List Mk} {m : Mk} (h : ∀ u ∈ lm, u.1 < m.1) : atL g t f (lm ++ [m]) x = if m.1 ≤ x then (sp g t f (atL g t f lm m.1).1 (x - m.1) m.2, m.2) else atL g t f lm x := by
  have e : foldM g t f x (lm ++ [m]) = stepM g t f x (foldM g t f x lm) m := by
    unfold foldM
    rw [List.foldl_append]
    rfl
  by_cases c : m.1 ≤ x
  · rw [if_pos c]
    have e2 : foldM g t f x lm = foldM g t f m.1 lm := fold_all lm _ (fun u hu => by have := h u hu; omega) (fun u hu => Int.le_of_lt (h u hu))
    unfold stepM at e
    rw [if_pos c, e2] at e
    unfold atL
    rw [e]
  · rw [if_neg c]
    unfold stepM at e
    rw [if_neg c] at e
    unfold atL
    rw [e]
theorem sp_add {g t f e a b : Int} {l : Bool} (q : Gtf g t f) (ha : 0 ≤ a) (hb : 0 ≤ b) : sp g t f (sp g t f e a l) b l = sp g t f e (a + b) l := by
  have h1 := Int.mul_nonneg ha q.g.1
  have h2 := Int.mul_nonneg hb q.g.1
  have h3 := Int.mul_nonneg ha q.f.1
  have h4 := Int.mul_nonneg hb q.f.1
  have ht := q.t
  cases l
  · simp only [sp, Int.add_mul]
    simp
    generalize a * g = y at *
    generalize b * g = z at *
    omega
  · simp only [sp, Int.add_mul]
    simp
    generalize a * f = y at *
    generalize b * f = z at *
    omega
theorem sp_bd {g t f e a : Int} {l : Bool} (q : Gtf g t f) (ha : 0 ≤ a) (he : 0 ≤ e ∧ e ≤ 1000) : 0 ≤ sp g t f e a l ∧ sp g t f e a l ≤ 1000 := by
  have h1 := Int.mul_nonneg ha q.g.1
  have h3 := Int.mul_nonneg ha q.f.1
  have ht := q.t
  cases l
  · simp only [sp]
    simp
    generalize a * g = y at *
    omega
  · simp only [sp]
    simp
    generalize a * f = y at *
    omega
/-- the meter tells what the marks tell -/
def Rel (g t f : Int) (ws : List Ent) (lm : List Mk) : Prop := ∀ (x : Int) (idx : Nat) (w : Ent), 0 ≤ x → Seen ws x idx w → (sp g t f w.2.2 (x - w.1) w.2.1, w.2.1) = atL g t f lm x
theorem rel_nil {g t f : Int} : Rel g t f [(0, false, 0)] [] := fun x idx w h0 hs => by
  have hl := (List.getElem?_eq_some_iff.mp hs.1).1
  obtain rfl : idx = 0 := by simpa using hl
  obtain rfl : (0, false, 0) = w := by simpa using hs.1
  rfl
theorem rel_zero {g t f : Int} {l : Bool} (q : Gtf g t f) : Rel g t f [(0, l, 0)] [(0, l)] := fun x idx w h0 hs => by
  have hl := (List.getElem?_eq_some_iff.mp hs.1).1
  obtain rfl : idx = 0 := by simpa using hl
  obtain rfl : (0, l, 0) = w := by simpa using hs.1
  have e := at_append (g := g) (t := t) (f := f) (x := x) (lm := []) (m := (0, l)) (by simp)
  rw [if_pos h0] at e
  rw [show ([(0, l)] : List Mk) = [] ++ [(0, l)] from rfl, e]
  have : (atL g t f [] 0).1 = 0 := by
    have ht := q.t
    simp [atL, foldM, sp]
    omega
  rw [this]
theorem rel_app {g t f : Int} {ws : List Ent} {lm : List Mk} {m : Mk} (h : Rel g t f ws lm) (hm : ∀ u ∈ lm, u.1 < m.1) : Rel g t f (ws ++ [(m.1, m.2, (atL g t f lm m.1).1)]) (lm ++ [m]) := fun x idx w h0 hs => by
  rw [at_append hm]
  obtain ⟨h1, h2, h3⟩ := hs
  have hl := (List.getElem?_eq_some_iff.mp h1).1
  rw [List.length_append, List.length_singleton] at hl
  rcases Nat.lt_or_ge idx ws.length with c | c
  · have hx := h3 ws.length (m.1, m.2, (atL g t f lm m.1).1) c (by rw [List.getElem?_append_right (Nat.le_refl _)]; simp)
    have hx : x < m.1 := hx
    rw [if_neg (by omega)]
    rw [List.getElem?_append_left c] at h1
    refine h x idx w h0 ⟨h1, h2, fun j u hj hu => h3 j u hj ?_⟩
    rw [List.getElem?_append_left (List.getElem?_eq_some_iff.mp hu).1]
    exact hu
  · obtain rfl : idx = ws.length := by omega
    rw [List.getElem?_append_right (Nat.le_refl _)] at h1
    obtain rfl : (m.1, m.2, (atL g t f lm m.1).1) = w := by simpa using h1
    have h2 : m.1 ≤ x := h2
    rw [if_pos h2]
theorem rel_same {g t f : Int} {ws : List Ent} {lm : List Mk} {m : Mk} {v : Ent} (q : Gtf g t f) (h : Rel g t f ws lm) (hm : ∀ u ∈ lm, u.1 < m.1) (h0m : 0 ≤ m.1) (hw : ∀ u ∈ ws, u.1 ≤ m.1) (hv : ws[ws.length - 1]? = some v) (hl : v.2.1 = m.2) : Rel g t f ws (lm ++ [m]) := fun x idx w h0 hs => by
  rw [at_append hm]
  by_cases c : m.1 ≤ x
  · rw [if_pos c]
    have hi := (List.getElem?_eq_some_iff.mp hs.1).1
    have : idx = ws.length - 1 := by
      rcases Nat.lt_or_ge idx (ws.length - 1) with z | z
      · have h3 := hs.2.2 _ v z hv
        have h4 := hw v (List.mem_of_getElem? hv)
        omega
      · omega
    subst this
    have h1 := hs.1
    rw [hv] at h1
    cases h1
    have hvm := hw v (List.mem_of_getElem? hv)
    have e := h m.1 (ws.length - 1) v h0m ⟨hv, hvm, fun j u hj hu => by have := (List.getElem?_eq_some_iff.mp hu).1; omega⟩
    rw [← e]
    have e2 := sp_add (e := v.2.2) (l := v.2.1) q (show 0 ≤ m.1 - v.1 by omega) (show 0 ≤ x - m.1 by omega)
    rw [show m.1 - v.1 + (x - m.1) = x - v.1 by omega] at e2
    show _ = (sp g t f (sp g t f v.2.2 (m.1 - v.1) v.2.1) (x - m.1) m.2, m.2)
    rw [← hl, e2]
  · rw [if_neg c]
    exact h x idx w h0 hs
/-! ### switches -/
theorem atI_last {α : Type} {xs : List α} {y : α} (h : xs[xs.length - 1]? = some y) : atI xs (-1) = some y := by
  have hl := (List.getElem?_eq_some_iff.mp h).1
  unfold atI ixN
  rw [if_neg (by decide), if_pos (by omega)]
  rw [show (-1 + (xs.length : Int)).toNat = xs.length - 1 by omega]
  exact h
theorem last_is {g t f : Int} {ws : List Ent} {a c : Nat} {v : Ent} {O : Store} (m : Mtr g t f ws a c O) (hv : ws[ws.length - 1]? = some v) : f_meter_last [.hdl 2] O = .ok (.int v.1) O := by
  have hx : atI (ws.map mkM) (-1) = some (mkM v) := atI_last (by rw [List.length_map, List.getElem?_map, hv]; rfl)
  simp [f_meter_last, b_meter_last, runF, sSeq, sIf, sNext, sDrop, sRet, sRetN, sAsg, ofRes, ofB, bName, bNil, bCons, bTup, bLst, bSubL, mTest, mOp, mVar, mC, mChain, mAnd, mOr, mNot, mIf, mAndV, mOrV, mNotV, mNeg, mCons, mNil, mTup, mLst, newL, mCall, mFn, arity, g1, g2, gLen, gInt, gAbs, gMax2, gMin2, gIx, seqOf, lsqOf, lstOf, Res.bind, ofO, gAdd_ok, gSub_ok, gEq_int, gNe_int, gLt_int, gLe_int, gGt_int, gGe_int, gEq_bl, gNe_bl, gEq_str, gNe_str, mIsi, mIsiT, tyD, kitL, kitTab, atI_c0, atI_c1, atI_c2, atI_c3, atI_c4, sForR1, int1, int2, mMeth, mMake, mFld, sFldM, gIs, gIsNot, isNon_t, sRaise, gList, newLO, m.m, m.a, lmm, hx]
theorem switch_is {g t f x : Int} {l : Bool} {ws : List Ent} {a c : Nat} {v : Ent} {O : Store} (q : Gtf g t f) (m : Mtr g t f ws a c O) (k : Wok ws) (hv : ws[ws.length - 1]? = some v) (h0 : 0 ≤ x) (h1 : x ≤ 1000000000000) (hvx : v.1 ≤ x)
    (hz : v.1 = x → x = 0) (hz2 : x = 0 → ws.length = 1) (hac : a ≠ c) (ha : a ≠ 1 ∧ a ≠ 2) (hc : c ≠ 1 ∧ c ≠ 2) (hO : 6 ≤ O.length) :
    ∃ (e : Int) (idx : Nat) (w : Ent) (O' : Store) (ws' : List Ent) (a' c' : Nat), Seen ws x idx w ∧ e = sp g t f w.2.2 (x - w.1) w.2.1 ∧ f_meter_switch [.hdl 2, .int x, .bl l] O = .ok .non O' ∧ Mtr g t f ws' a' c' O' ∧ O.length ≤ O'.length ∧
      (∀ i, i < O.length → i ≠ 2 → i ≠ a → i ≠ c → O'[i]? = O[i]?) ∧ ((a' = a ∧ c' = c) ∨ (a' = O.length ∧ c' = O.length + 1)) ∧
      ((x = 0 ∧ ws' = [(0, l, 0)]) ∨ (x ≠ 0 ∧ v.2.1 = l ∧ ws' = ws) ∨ (x ≠ 0 ∧ v.2.1 ≠ l ∧ ws' = ws ++ [(x, l, e)])) := by
  obtain ⟨idx, w, hs, he, _⟩ := extra_is q m k h0 h1
  have hl := last_is m hv
  have y1 : ∀ O, f_checked_number [.int x, .int 0, .int 1000000000000] O = .ok (.int x) O := fun O => chk_yes h0 h1
  have n1 : ¬ x < v.1 := by omega
  have hx : atI (ws.map mkM) (-1) = some (mkM v) := atI_last (by rw [List.length_map, List.getElem?_map, hv]; rfl)
  have hal := (List.getElem?_eq_some_iff.mp m.a).1
  have hcl := (List.getElem?_eq_some_iff.mp m.c).1
  have put2 : ∀ d x y z : D, putD "_marks" d [(("_warm" : Str), x), (("_marks" : Str), y), (("_extras" : Str), z)] = [(("_warm" : Str), x), (("_marks" : Str), d), (("_extras" : Str), z)] := fun d x y z => rfl
  have put3 : ∀ d x y z : D, putD "_extras" d [(("_warm" : Str), x), (("_marks" : Str), y), (("_extras" : Str), z)] = [(("_warm" : Str), x), (("_marks" : Str), y), (("_extras" : Str), d)] := fun d x y z => rfl
  by_cases c0 : x = 0
  · subst c0
    have s2 : ∀ p : Ob, (O ++ [p])[2]? = some (meterO a c) := fun p => by rw [List.getElem?_append_left (by omega)]; exact m.m
    have s3 : ∀ p r : Ob, (((O ++ [p]).set 2 r) ++ [Ob.lst [D.int 0]])[2]? = some r := fun p r => by
      rw [List.getElem?_append_left (by rw [List.length_set, List.length_append]; omega)]
      exact List.getElem?_set_self (by rw [List.length_append]; omega)
    refine ⟨_, idx, w, (((O ++ [Ob.lst [.tup [.int 0, .bl l]]]).set 2 (meterO O.length c)) ++ [Ob.lst [D.int 0]]).set 2 (meterO O.length (O.length + 1)), [(0, l, 0)], O.length, O.length + 1, hs, rfl, ?_, ⟨?_, ?_, ?_, ?_⟩, by simp; omega, fun i hi i2 ia ic => ?_, .inr ⟨rfl, rfl⟩, .inl ⟨rfl, rfl⟩⟩
    · simp [f_meter_switch, b_meter_switch, runF, sSeq, sIf, sNext, sDrop, sRet, sRetN, sAsg, ofRes, ofB, bName, bNil, bCons, bTup, bLst, bSubL, mTest, mOp, mVar, mC, mChain, mAnd, mOr, mNot, mIf, mAndV, mOrV, mNotV, mNeg, mCons, mNil, mTup, mLst, newL, mCall, mFn, arity, g1, g2, gLen, gInt, gAbs, gMax2, gMin2, gIx, seqOf, lsqOf, lstOf, Res.bind, ofO, gAdd_ok, gSub_ok, gEq_int, gNe_int, gLt_int, gLe_int, gGt_int, gGe_int, gEq_bl, gNe_bl, gEq_str, gNe_str, mIsi, mIsiT, tyD, kitL, kitTab, atI_c0, atI_c1, atI_c2, atI_c3, atI_c4, sForR1, int1, int2, mMeth, mMake, mFld, sFldM, gIs, gIsNot, isNon_t, sRaise, gList, newLO, m.m, m.a, lm2, lm3, hl, he, y1, n1, s2, s3, put2, put3]
    · rw [List.getElem?_set_ne (by decide), List.getElem?_append_left (by simp; omega), List.getElem?_set_ne (by decide), List.getElem?_append_left (by omega)]
      exact m.w
    · exact List.getElem?_set_self (by simp; omega)
    · rw [List.getElem?_set_ne (by omega), List.getElem?_append_left (by simp), List.getElem?_set_ne (by omega), List.getElem?_append_right (Nat.le_refl _)]
      simp
    · rw [List.getElem?_set_ne (by omega), List.getElem?_append_right (by simp)]
      simp
    · rw [List.getElem?_set_ne (by omega), List.getElem?_append_left (by simp; omega), List.getElem?_set_ne (by omega), List.getElem?_append_left (by omega)]
  · have n2 : ¬ x = v.1 := fun z => c0 (hz z.symm)
    by_cases c1 : v.2.1 = l
    · refine ⟨_, idx, w, O, ws, a, c, hs, rfl, ?_, m, Nat.le_refl _, fun i hi i2 ia ic => rfl, .inl ⟨rfl, rfl⟩, .inr (.inl ⟨c0, c1, rfl⟩)⟩
      simp [f_meter_switch, b_meter_switch, runF, sSeq, sIf, sNext, sDrop, sRet, sRetN, sAsg, ofRes, ofB, bName, bNil, bCons, bTup, bLst, bSubL, mTest, mOp, mVar, mC, mChain, mAnd, mOr, mNot, mIf, mAndV, mOrV, mNotV, mNeg, mCons, mNil, mTup, mLst, newL, mCall, mFn, arity, g1, g2, gLen, gInt, gAbs, gMax2, gMin2, gIx, seqOf, lsqOf, lstOf, Res.bind, ofO, gAdd_ok, gSub_ok, gEq_int, gNe_int, gLt_int, gLe_int, gGt_int, gGe_int, gEq_bl, gNe_bl, gEq_str, gNe_str, mIsi, mIsiT, tyD, kitL, kitTab, atI_c0, atI_c1, atI_c2, atI_c3, atI_c4, sForR1, int1, int2, mMeth, mMake, mFld, sFldM, gIs, gIsNot, isNon_t, sRaise, gList, newLO, m.m, m.a, lm2, lm3, lmm, hl, he, y1, n1, n2, c0, hx, c1]
    · have kf := k.few
      refine ⟨_, idx, w, (O.set a (.lst (ws.map mkM ++ [.tup [.int x, .bl l]]))).set c (.lst (ws.map mkE ++ [.int (sp g t f w.2.2 (x - w.1) w.2.1)])), ws ++ [(x, l, sp g t f w.2.2 (x - w.1) w.2.1)], a, c, hs, rfl, ?_, ⟨?_, ?_, ?_, ?_⟩, by simp, fun i hi i2 ia ic => ?_, .inl ⟨rfl, rfl⟩, .inr (.inr ⟨c0, c1, rfl⟩)⟩
      · have s2 : ∀ p : Ob, (O.set a p)[2]? = some (meterO a c) := fun p => by rw [List.getElem?_set_ne ha.2]; exact m.m
        have s3 : ∀ p : Ob, (O.set a p)[c]? = some (.lst (ws.map mkE)) := fun p => by rw [List.getElem?_set_ne hac]; exact m.c
        have lw : ws.length ≤ 1000000 := by omega
        simp [f_meter_switch, b_meter_switch, mApp, runF, sSeq, sIf, sNext, sDrop, sRet, sRetN, sAsg, ofRes, ofB, bName, bNil, bCons, bTup, bLst, bSubL, mTest, mOp, mVar, mC, mChain, mAnd, mOr, mNot, mIf, mAndV, mOrV, mNotV, mNeg, mCons, mNil, mTup, mLst, newL, mCall, mFn, arity, g1, g2, gLen, gInt, gAbs, gMax2, gMin2, gIx, seqOf, lsqOf, lstOf, Res.bind, ofO, gAdd_ok, gSub_ok, gEq_int, gNe_int, gLt_int, gLe_int, gGt_int, gGe_int, gEq_bl, gNe_bl, gEq_str, gNe_str, mIsi, mIsiT, tyD, kitL, kitTab, atI_c0, atI_c1, atI_c2, atI_c3, atI_c4, sForR1, int1, int2, mMeth, mMake, mFld, sFldM, gIs, gIsNot, isNon_t, sRaise, gList, newLO, m.m, m.a, lm2, lm3, lmm, lme, hl, he, y1, n1, n2, c0, hx, c1, s2, s3, lw]
      · rw [List.getElem?_set_ne hc.1, List.getElem?_set_ne ha.1]
        exact m.w
      · rw [List.getElem?_set_ne hc.2, List.getElem?_set_ne ha.2]
        exact m.m
      · rw [List.getElem?_set_ne (fun z => hac z.symm), List.getElem?_set_self hal, List.map_append]
        rfl
      · rw [List.getElem?_set_self (by rw [List.length_set]; exact hcl), List.map_append]
        rfl
      · rw [List.getElem?_set_ne (fun z => ic z.symm), List.getElem?_set_ne (fun z => ia z.symm)]
/-! ### the state of the law -/
structure Full (g t f : Int) (lm : List Mk) (ws : List Ent) (a c : Nat) (O : Store) : Prop where
  m : Mtr g t f ws a c O
  k : Wok ws
  r : Rel g t f ws lm
  l : O[5]? = some (.lst (lm.map mkL))
  len : 6 ≤ O.length
  ac : a ≠ c
  pl : (a = 3 ∧ c = 4) ∨ (6 ≤ a ∧ 6 ≤ c)
  up : lm.Pairwise fun x y => x.1 < y.1
  bd : ∀ m ∈ lm, 0 ≤ m.1 ∧ m.1 ≤ 1000000000000
  few : ws.length ≤ lm.length + 1
  last : ∀ u ∈ ws, u.1 = 0 ∨ ∃ m ∈ lm, u.1 ≤ m.1
  nil : lm = [] → ws = [(0, false, 0)]
theorem full_of {g t f : Int} {lm : List Mk} {ws : List Ent} {a c : Nat} {O O' : Store} (h : Full g t f lm ws a c O) (hl : O.length ≤ O'.length) (e : ∀ i, i < O.length → i ≠ 0 → O'[i]? = O[i]?) : Full g t f lm ws a c O' where
  m := ⟨by rw [e 1 (by have := h.len; omega) (by decide)]; exact h.m.w, by rw [e 2 (by have := h.len; omega) (by decide)]; exact h.m.m,
    by rw [e a (List.getElem?_eq_some_iff.mp h.m.a).1 (by have := h.pl; omega)]; exact h.m.a, by rw [e c (List.getElem?_eq_some_iff.mp h.m.c).1 (by have := h.pl; omega)]; exact h.m.c⟩
  k := h.k
  r := h.r
  l := by rw [e 5 (by have := h.len; omega) (by decide)]; exact h.l
  len := Nat.le_trans h.len hl
  ac := h.ac
  pl := h.pl
  up := h.up
  bd := h.bd
  few := h.few
  last := h.last
  nil := h.nil
theorem full_keep {g t f : Int} {lm : List Mk} {ws : List Ent} {a c : Nat} : Keep 0 (Full g t f lm ws a c) := fun O P h => full_of h (by rw [List.length_set]; exact Nat.le_refl _) fun i hi h0 => List.getElem?_set_ne (fun z => h0 z.symm)
theorem full_app {g t f : Int} {lm : List Mk} {ws : List Ent} {a c : Nat} {O : Store} {p : Ob} (h : Full g t f lm ws a c O) : Full g t f lm ws a c (O ++ [p]) := full_of h (by simp) fun i hi h0 => List.getElem?_append_left hi
theorem pool_at {b : Nat} {O O' : Store} (e : O'[0]? = O[0]?) (h : Pool b 0 O) : Pool b 0 O' := by
  obtain ⟨ns, z, la, li, k, h, r⟩ := h
  exact ⟨ns, z, la, li, k, by rw [e]; exact h, r⟩
theorem pool_app {b : Nat} {O : Store} {p : Ob} (h : Pool b 0 O) : Pool b 0 (O ++ [p]) := by
  refine pool_at ?_ h
  obtain ⟨ns, z, la, li, k, h, r⟩ := h
  exact List.getElem?_append_left (List.getElem?_eq_some_iff.mp h).1
/-- a mark put down and switched -/
theorem full_switch {b : Nat} {g t f : Int} {lm : List Mk} {ws : List Ent} {a c : Nat} {m : Mk} {O : Store} (q : Gtf g t f) (h : Full g t f lm ws a c O) (p : Pool b 0 O) (h0 : 0 ≤ m.1) (h1 : m.1 ≤ 1000000000000) (hm : ∀ u ∈ lm, u.1 < m.1) (hlm : lm.length ≤ 20) :
    ∃ (O' : Store) (ws' : List Ent) (a' c' : Nat), f_meter_switch [.hdl 2, .int m.1, .bl m.2] (O.set 5 (.lst (lm.map mkL ++ [mkL m]))) = .ok .non O' ∧ Full g t f (lm ++ [m]) ws' a' c' O' ∧ Pool b 0 O' := by
  have hpl := h.pl
  have hac := h.ac
  have hlen := h.len
  have hne := h.k.ne
  have ga := (List.getElem?_eq_some_iff.mp h.m.a).1
  have gc := (List.getElem?_eq_some_iff.mp h.m.c).1
  obtain ⟨O5, hO5⟩ : ∃ O5, O.set 5 (.lst (lm.map mkL ++ [mkL m])) = O5 := ⟨_, rfl⟩
  have l5 : O5.length = O.length := by rw [← hO5, List.length_set]
  have e5 : ∀ i, i ≠ 5 → O5[i]? = O[i]? := fun i hi => by rw [← hO5]; exact List.getElem?_set_ne (fun z => hi z.symm)
  have f5 : O5[5]? = some (.lst ((lm ++ [m]).map mkL)) := by rw [← hO5, List.getElem?_set_self (by omega), List.map_append]; rfl
  have m5 : Mtr g t f ws a c O5 := ⟨by rw [e5 1 (by decide)]; exact h.m.w, by rw [e5 2 (by decide)]; exact h.m.m, by rw [e5 a (by omega)]; exact h.m.a, by rw [e5 c (by omega)]; exact h.m.c⟩
  have hub : ∀ u ∈ ws, u.1 ≤ m.1 ∧ (u.1 = m.1 → m.1 = 0) := fun u hu => by
    rcases h.last u hu with z | ⟨v, hv, hvu⟩
    · exact ⟨by omega, fun y => by omega⟩
    · have := hm v hv
      exact ⟨by omega, fun y => by omega⟩
  have hnil : m.1 = 0 → lm = [] := fun z => by
    cases lm with
    | nil => rfl
    | cons u r =>
      have h1 := hm u (by simp)
      have h2 := (h.bd u (by simp)).1
      omega
  obtain ⟨v, hv⟩ : ∃ v, ws[ws.length - 1]? = some v := ⟨ws[ws.length - 1]'(by omega), List.getElem?_eq_getElem _⟩
  have hvm := hub v (List.mem_of_getElem? hv)
  obtain ⟨e, idx, w, O', ws', a', c', hs, he, ev, m', hl', eq', hac', cs⟩ := switch_is (l := m.2) q m5 h.k hv h0 h1 hvm.1 hvm.2 (fun z => by rw [h.nil (hnil z)]; rfl) hac (by omega) (by omega) (by omega)
  rw [hO5]
  refine ⟨O', ws', a', c', ev, ?_, pool_at ((eq' 0 (by omega) (by decide) (by omega) (by omega)).trans (e5 0 (by decide))) p⟩
  have he2 : e = (atL g t f lm m.1).1 := by
    rw [← h.r m.1 idx w h0 hs, he]
  have hwb := h.k.bd w (List.mem_of_getElem? hs.1)
  have heb := sp_bd (e := w.2.2) (l := w.2.1) q (show 0 ≤ m.1 - w.1 by have := hs.2.1; omega) ⟨hwb.2.2.1, hwb.2.2.2⟩
  rw [← he] at heb
  refine ⟨m', ?_, ?_, ?_, by omega, by omega, by omega, ?_, ?_, ?_, ?_, fun z => by simp at z⟩
  · rcases cs with ⟨_, rfl⟩ | ⟨_, _, rfl⟩ | ⟨x0, _, rfl⟩
    · exact ⟨by simp, by simp, fun w hw => by
        obtain rfl : (0, m.2, 0) = w := by simpa using hw
        rfl, by simp, fun w hw => by
        obtain rfl : w = (0, m.2, 0) := by simpa using hw
        simp⟩
    · exact h.k
    · refine ⟨by simp, by have := h.few; rw [List.length_append, List.length_singleton]; omega, fun w hw => h.k.fst w (by rw [List.getElem?_append_left hne] at hw; exact hw), ?_, fun u hu => ?_⟩
      · refine List.pairwise_append.mpr ⟨h.k.up, by simp, fun u hu y hy => ?_⟩
        obtain rfl : y = (m.1, m.2, e) := by simpa using hy
        have := hub u hu
        show u.1 < m.1
        rcases Int.lt_or_eq_of_le this.1 with z | z
        · exact z
        · exact absurd (this.2 z) x0
      · rcases List.mem_append.mp hu with hu | hu
        · exact h.k.bd u hu
        · obtain rfl : u = (m.1, m.2, e) := by simpa using hu
          exact ⟨h0, h1, heb.1, heb.2⟩
  · rcases cs with ⟨x0, rfl⟩ | ⟨_, hvl, rfl⟩ | ⟨x0, _, rfl⟩
    · rw [hnil x0, show m = (0, m.2) by rw [← x0]]
      exact rel_zero q
    · exact rel_same q h.r hm h0 (fun u hu => (hub u hu).1) hv hvl
    · rw [he2]
      exact rel_app h.r hm
  · rw [eq' 5 (by omega) (by decide) (by omega) (by omega)]
    exact f5
  · refine List.pairwise_append.mpr ⟨h.up, by simp, fun u hu y hy => ?_⟩
    rw [List.mem_singleton.mp hy]
    exact hm u hu
  · intro u hu
    rcases List.mem_append.mp hu with hu | hu
    · exact h.bd u hu
    · rw [List.mem_singleton.mp hu]
      exact ⟨h0, h1⟩
  · have := h.few
    rw [List.length_append, List.length_singleton]
    rcases cs with ⟨_, rfl⟩ | ⟨_, _, rfl⟩ | ⟨x0, _, rfl⟩
    · simp
    · omega
    · rw [List.length_append, List.length_singleton]
      omega
  · rcases cs with ⟨_, rfl⟩ | ⟨_, _, rfl⟩ | ⟨x0, _, rfl⟩
    · intro u hu
      obtain rfl : u = (0, m.2, 0) := by simpa using hu
      exact .inl rfl
    · intro u hu
      exact .inr ⟨m, by simp, (hub u hu).1⟩
    · intro u hu
      rcases List.mem_append.mp hu with hu | hu
      · exact .inr ⟨m, by simp, (hub u hu).1⟩
      · obtain rfl : u = (m.1, m.2, e) := by simpa using hu
        exact .inr ⟨m, by simp, Int.le_refl _⟩
/-! ### settles -/
theorem settles_is {g t f x n : Int} {lm : List Mk} {ws : List Ent} {a c : Nat} {O : Store} (q : Gtf g t f) (h : Full g t f lm ws a c O) (h0 : 0 ≤ x) (h1 : x ≤ 1000000000000) :
    f_meter_extra [.hdl 2, .int x] O = .ok (.int (atL g t f lm x).1) O ∧ f_meter_is_lit [.hdl 2, .int x] O = .ok (.bl (atL g t f lm x).2) O ∧
    f_meter_settles [.hdl 2, .int x, .int n] O = .ok (if (atL g t f lm x).1 ≤ n then .int (x + 0) else if f = 0 then .non else .int (x + ((atL g t f lm x).1 - n + f - 1) / f)) O := by
  obtain ⟨idx, w, hs, he, hl⟩ := extra_is q h.m h.k h0 h1
  have e := h.r x idx w h0 hs
  have e1 := congrArg Prod.fst e
  have e2 := congrArg Prod.snd e
  simp only at e1 e2
  rw [e1] at he
  rw [e2] at hl
  refine ⟨he, hl, ?_⟩
  have hu := until_is (g := g) (t := t) (e := (atL g t f lm x).1) (n := n) q h.m.w
  by_cases c1 : (atL g t f lm x).1 ≤ n
  · rw [if_pos c1] at hu
    simp [f_meter_settles, b_meter_settles, runF, sSeq, sIf, sNext, sDrop, sRet, sRetN, sAsg, ofRes, ofB, bName, bNil, bCons, bTup, bLst, bSubL, mTest, mOp, mVar, mC, mChain, mAnd, mOr, mNot, mIf, mAndV, mOrV, mNotV, mNeg, mCons, mNil, mTup, mLst, newL, mCall, mFn, arity, g1, g2, gLen, gInt, gAbs, gMax2, gMin2, gIx, seqOf, lsqOf, lstOf, Res.bind, ofO, gAdd_ok, gSub_ok, gEq_int, gNe_int, gLt_int, gLe_int, gGt_int, gGe_int, gEq_bl, gNe_bl, gEq_str, gNe_str, mIsi, mIsiT, tyD, kitL, kitTab, atI_c0, atI_c1, atI_c2, atI_c3, atI_c4, sForR1, int1, int2, mMeth, mMake, mFld, sFldM, gIs, gIsNot, isNon_t, sRaise, gList, newLO, h.m.m, h.m.w, lm2, lmw, lwu, he, hu, c1]
  · rw [if_neg c1] at hu
    by_cases c2 : f = 0
    · rw [if_pos c2] at hu
      subst c2
      simp [f_meter_settles, b_meter_settles, runF, sSeq, sIf, sNext, sDrop, sRet, sRetN, sAsg, ofRes, ofB, bName, bNil, bCons, bTup, bLst, bSubL, mTest, mOp, mVar, mC, mChain, mAnd, mOr, mNot, mIf, mAndV, mOrV, mNotV, mNeg, mCons, mNil, mTup, mLst, newL, mCall, mFn, arity, g1, g2, gLen, gInt, gAbs, gMax2, gMin2, gIx, seqOf, lsqOf, lstOf, Res.bind, ofO, gAdd_ok, gSub_ok, gEq_int, gNe_int, gLt_int, gLe_int, gGt_int, gGe_int, gEq_bl, gNe_bl, gEq_str, gNe_str, mIsi, mIsiT, tyD, kitL, kitTab, atI_c0, atI_c1, atI_c2, atI_c3, atI_c4, sForR1, int1, int2, mMeth, mMake, mFld, sFldM, gIs, gIsNot, isNon_t, sRaise, gList, newLO, h.m.m, h.m.w, lm2, lmw, lwu, he, hu, c1]
    · rw [if_neg c2] at hu
      simp [f_meter_settles, b_meter_settles, runF, sSeq, sIf, sNext, sDrop, sRet, sRetN, sAsg, ofRes, ofB, bName, bNil, bCons, bTup, bLst, bSubL, mTest, mOp, mVar, mC, mChain, mAnd, mOr, mNot, mIf, mAndV, mOrV, mNotV, mNeg, mCons, mNil, mTup, mLst, newL, mCall, mFn, arity, g1, g2, gLen, gInt, gAbs, gMax2, gMin2, gIx, seqOf, lsqOf, lstOf, Res.bind, ofO, gAdd_ok, gSub_ok, gEq_int, gNe_int, gLt_int, gLe_int, gGt_int, gGe_int, gEq_bl, gNe_bl, gEq_str, gNe_str, mIsi, mIsiT, tyD, kitL, kitTab, atI_c0, atI_c1, atI_c2, atI_c3, atI_c4, sForR1, int1, int2, mMeth, mMake, mFld, sFldM, gIs, gIsNot, isNon_t, sRaise, gList, newLO, h.m.m, h.m.w, lm2, lmw, lwu, he, hu, c1, c2]
theorem at_bd {g t f x : Int} {lm : List Mk} {ws : List Ent} {a c : Nat} {O : Store} (q : Gtf g t f) (h : Full g t f lm ws a c O) (h0 : 0 ≤ x) (h1 : x ≤ 1000000000000) : 0 ≤ (atL g t f lm x).1 ∧ (atL g t f lm x).1 ≤ 1000 := by
  obtain ⟨idx, w, hs, he, hl⟩ := extra_is q h.m h.k h0 h1
  have e1 := congrArg Prod.fst (h.r x idx w h0 hs)
  simp only at e1
  rw [← e1]
  have hwb := h.k.bd w (List.mem_of_getElem? hs.1)
  exact sp_bd q (by have := hs.2.1; omega) ⟨hwb.2.2.1, hwb.2.2.2⟩
end DK.k59
end
section
set_option Elab.async false
set_option linter.all false
set_option autoImplicit false
set_option maxRecDepth 100000
set_option maxHeartbeats 4000000
namespace DK.k59
open PySem L2 DK
/-! ### what is refused -/
theorem msg9 : MsgOk 10 1000000000000 := ⟨_, fun d O => rfl⟩
theorem nine (O : Store) : f_checked_number [.int 9, .int 10, .int 1000000000000] O = .exc ⟨"InvalidNumber", none⟩ O := chk_no msg9 (isnum_out (by decide))
theorem refuse0 {i : Int} {d : D} {g t f : Int} {lm : List Mk} {ws : List Ent} {a c : Nat} {O : Store} {b : Nat} (h : Full g t f lm ws a c O) (p : Pool b 0 O) (hi : i = 0)
    (n1 : (i < 4 ∨ 6 < i) → ∀ O, f_checked_number [d, .int 0, .int 1000000000000] O = .exc ⟨"InvalidNumber", none⟩ O) (n2 : (4 ≤ i ∧ i ≤ 6) → ∀ O, f_checked_number [d, .int 0, .int 1000] O = .exc ⟨"InvalidNumber", none⟩ O) :
    ∃ O', f_law_refused [.int i, .hdl 2, d] O = .ok (.bl true) O' ∧ Full g t f lm ws a c O' ∧ Pool b 0 O' := by
  have sb : sub_law_refused_199 "InvalidNumber" = some true := rfl
  have ok : okX ⟨"InvalidNumber", none⟩ = true := rfl
  have y5 : ∀ O, f_checked_number [.int 5, .int 0, .int 1000] O = .ok (.int 5) O := fun O => chk_yes (by decide) (by decide)
  have z5 : ∀ O, f_checked_number [.int 5, .int 0, .int 1000000000000] O = .ok (.int 5) O := fun O => chk_yes (by decide) (by decide)
  have z10 : ∀ O, f_checked_number [.int 10, .int 0, .int 1000000000000] O = .ok (.int 10) O := fun O => chk_yes (by decide) (by decide)
  have z9 := fun O => nine O
  have l1 : (O ++ [Ob.ins "Warm" []])[O.length]? = some (Ob.ins "Warm" []) := by simp
  have hset : ∀ p : Ob, ((O ++ [Ob.ins "Warm" []]).set O.length p) = O ++ [p] := fun p => by simp
  have l2 : ∀ p : Ob, (O ++ [p])[O.length]? = some p := fun p => by simp
  have hset2 : ∀ p q : Ob, ((O ++ [q]).set O.length p) = O ++ [p] := fun p q => by simp
  have put1 : ∀ d : D, putD "grow" d [] = [(("grow" : Str), d)] := fun d => rfl
  have put2 : ∀ d x : D, putD "top" d [(("grow" : Str), x)] = [(("grow" : Str), x), (("top" : Str), d)] := fun d x => rfl
  subst hi
  have n1 := n1 (by decide)
  exact ⟨O, by simp [f_law_refused, b_law_refused, f_meter_extra, b_meter_extra, sTryE, sb, ok, runF, sSeq, sIf, sNext, sDrop, sRet, sRetN, sAsg, ofRes, ofB, bName, bNil, bCons, bTup, bLst, bSubL, mTest, mOp, mVar, mC, mChain, mAnd, mOr, mNot, mIf, mAndV, mOrV, mNotV, mNeg, mCons, mNil, mTup, mLst, newL, mCall, mFn, arity, g1, g2, gLen, gInt, gAbs, gMax2, gMin2, gIx, seqOf, lsqOf, lstOf, Res.bind, ofO, gAdd_ok, gSub_ok, gEq_int, gNe_int, gLt_int, gLe_int, gGt_int, gGe_int, gEq_bl, gNe_bl, gEq_str, gNe_str, mIsi, mIsiT, tyD, kitL, kitTab, atI_c0, atI_c1, atI_c2, atI_c3, atI_c4, sForR1, int1, int2, mMeth, mMake, mFld, sFldM, gIs, gIsNot, isNon_t, sRaise, gList, newLO, h.m.m, lm2, n1], h, p⟩
theorem refuse1 {i : Int} {d : D} {g t f : Int} {lm : List Mk} {ws : List Ent} {a c : Nat} {O : Store} {b : Nat} (h : Full g t f lm ws a c O) (p : Pool b 0 O) (hi : i = 1)
    (n1 : (i < 4 ∨ 6 < i) → ∀ O, f_checked_number [d, .int 0, .int 1000000000000] O = .exc ⟨"InvalidNumber", none⟩ O) (n2 : (4 ≤ i ∧ i ≤ 6) → ∀ O, f_checked_number [d, .int 0, .int 1000] O = .exc ⟨"InvalidNumber", none⟩ O) :
    ∃ O', f_law_refused [.int i, .hdl 2, d] O = .ok (.bl true) O' ∧ Full g t f lm ws a c O' ∧ Pool b 0 O' := by
  have sb : sub_law_refused_199 "InvalidNumber" = some true := rfl
  have ok : okX ⟨"InvalidNumber", none⟩ = true := rfl
  have y5 : ∀ O, f_checked_number [.int 5, .int 0, .int 1000] O = .ok (.int 5) O := fun O => chk_yes (by decide) (by decide)
  have z5 : ∀ O, f_checked_number [.int 5, .int 0, .int 1000000000000] O = .ok (.int 5) O := fun O => chk_yes (by decide) (by decide)
  have z10 : ∀ O, f_checked_number [.int 10, .int 0, .int 1000000000000] O = .ok (.int 10) O := fun O => chk_yes (by decide) (by decide)
  have z9 := fun O => nine O
  have l1 : (O ++ [Ob.ins "Warm" []])[O.length]? = some (Ob.ins "Warm" []) := by simp
  have hset : ∀ p : Ob, ((O ++ [Ob.ins "Warm" []]).set O.length p) = O ++ [p] := fun p => by simp
  have l2 : ∀ p : Ob, (O ++ [p])[O.length]? = some p := fun p => by simp
  have hset2 : ∀ p q : Ob, ((O ++ [q]).set O.length p) = O ++ [p] := fun p q => by simp
  have put1 : ∀ d : D, putD "grow" d [] = [(("grow" : Str), d)] := fun d => rfl
  have put2 : ∀ d x : D, putD "top" d [(("grow" : Str), x)] = [(("grow" : Str), x), (("top" : Str), d)] := fun d x => rfl
  subst hi
  have n1 := n1 (by decide)
  exact ⟨O, by simp [f_law_refused, b_law_refused, f_meter_switch, b_meter_switch, sTryE, sb, ok, runF, sSeq, sIf, sNext, sDrop, sRet, sRetN, sAsg, ofRes, ofB, bName, bNil, bCons, bTup, bLst, bSubL, mTest, mOp, mVar, mC, mChain, mAnd, mOr, mNot, mIf, mAndV, mOrV, mNotV, mNeg, mCons, mNil, mTup, mLst, newL, mCall, mFn, arity, g1, g2, gLen, gInt, gAbs, gMax2, gMin2, gIx, seqOf, lsqOf, lstOf, Res.bind, ofO, gAdd_ok, gSub_ok, gEq_int, gNe_int, gLt_int, gLe_int, gGt_int, gGe_int, gEq_bl, gNe_bl, gEq_str, gNe_str, mIsi, mIsiT, tyD, kitL, kitTab, atI_c0, atI_c1, atI_c2, atI_c3, atI_c4, sForR1, int1, int2, mMeth, mMake, mFld, sFldM, gIs, gIsNot, isNon_t, sRaise, gList, newLO, h.m.m, lm4, n1], h, p⟩
theorem refuse2 {i : Int} {d : D} {g t f : Int} {lm : List Mk} {ws : List Ent} {a c : Nat} {O : Store} {b : Nat} (h : Full g t f lm ws a c O) (p : Pool b 0 O) (hi : i = 2)
    (n1 : (i < 4 ∨ 6 < i) → ∀ O, f_checked_number [d, .int 0, .int 1000000000000] O = .exc ⟨"InvalidNumber", none⟩ O) (n2 : (4 ≤ i ∧ i ≤ 6) → ∀ O, f_checked_number [d, .int 0, .int 1000] O = .exc ⟨"InvalidNumber", none⟩ O) :
    ∃ O', f_law_refused [.int i, .hdl 2, d] O = .ok (.bl true) O' ∧ Full g t f lm ws a c O' ∧ Pool b 0 O' := by
  have sb : sub_law_refused_199 "InvalidNumber" = some true := rfl
  have ok : okX ⟨"InvalidNumber", none⟩ = true := rfl
  have y5 : ∀ O, f_checked_number [.int 5, .int 0, .int 1000] O = .ok (.int 5) O := fun O => chk_yes (by decide) (by decide)
  have z5 : ∀ O, f_checked_number [.int 5, .int 0, .int 1000000000000] O = .ok (.int 5) O := fun O => chk_yes (by decide) (by decide)
  have z10 : ∀ O, f_checked_number [.int 10, .int 0, .int 1000000000000] O = .ok (.int 10) O := fun O => chk_yes (by decide) (by decide)
  have z9 := fun O => nine O
  have l1 : (O ++ [Ob.ins "Warm" []])[O.length]? = some (Ob.ins "Warm" []) := by simp
  have hset : ∀ p : Ob, ((O ++ [Ob.ins "Warm" []]).set O.length p) = O ++ [p] := fun p => by simp
  have l2 : ∀ p : Ob, (O ++ [p])[O.length]? = some p := fun p => by simp
  have hset2 : ∀ p q : Ob, ((O ++ [q]).set O.length p) = O ++ [p] := fun p q => by simp
  have put1 : ∀ d : D, putD "grow" d [] = [(("grow" : Str), d)] := fun d => rfl
  have put2 : ∀ d x : D, putD "top" d [(("grow" : Str), x)] = [(("grow" : Str), x), (("top" : Str), d)] := fun d x => rfl
  subst hi
  have n1 := n1 (by decide)
  exact ⟨O, by simp [f_law_refused, b_law_refused, f_meter_peak, b_meter_peak, sTryE, sb, ok, runF, sSeq, sIf, sNext, sDrop, sRet, sRetN, sAsg, ofRes, ofB, bName, bNil, bCons, bTup, bLst, bSubL, mTest, mOp, mVar, mC, mChain, mAnd, mOr, mNot, mIf, mAndV, mOrV, mNotV, mNeg, mCons, mNil, mTup, mLst, newL, mCall, mFn, arity, g1, g2, gLen, gInt, gAbs, gMax2, gMin2, gIx, seqOf, lsqOf, lstOf, Res.bind, ofO, gAdd_ok, gSub_ok, gEq_int, gNe_int, gLt_int, gLe_int, gGt_int, gGe_int, gEq_bl, gNe_bl, gEq_str, gNe_str, mIsi, mIsiT, tyD, kitL, kitTab, atI_c0, atI_c1, atI_c2, atI_c3, atI_c4, sForR1, int1, int2, mMeth, mMake, mFld, sFldM, gIs, gIsNot, isNon_t, sRaise, gList, newLO, h.m.m, lm7, n1], h, p⟩
theorem refuse3 {i : Int} {d : D} {g t f : Int} {lm : List Mk} {ws : List Ent} {a c : Nat} {O : Store} {b : Nat} (h : Full g t f lm ws a c O) (p : Pool b 0 O) (hi : i = 3)
    (n1 : (i < 4 ∨ 6 < i) → ∀ O, f_checked_number [d, .int 0, .int 1000000000000] O = .exc ⟨"InvalidNumber", none⟩ O) (n2 : (4 ≤ i ∧ i ≤ 6) → ∀ O, f_checked_number [d, .int 0, .int 1000] O = .exc ⟨"InvalidNumber", none⟩ O) :
    ∃ O', f_law_refused [.int i, .hdl 2, d] O = .ok (.bl true) O' ∧ Full g t f lm ws a c O' ∧ Pool b 0 O' := by
  have sb : sub_law_refused_199 "InvalidNumber" = some true := rfl
  have ok : okX ⟨"InvalidNumber", none⟩ = true := rfl
  have y5 : ∀ O, f_checked_number [.int 5, .int 0, .int 1000] O = .ok (.int 5) O := fun O => chk_yes (by decide) (by decide)
  have z5 : ∀ O, f_checked_number [.int 5, .int 0, .int 1000000000000] O = .ok (.int 5) O := fun O => chk_yes (by decide) (by decide)
  have z10 : ∀ O, f_checked_number [.int 10, .int 0, .int 1000000000000] O = .ok (.int 10) O := fun O => chk_yes (by decide) (by decide)
  have z9 := fun O => nine O
  have l1 : (O ++ [Ob.ins "Warm" []])[O.length]? = some (Ob.ins "Warm" []) := by simp
  have hset : ∀ p : Ob, ((O ++ [Ob.ins "Warm" []]).set O.length p) = O ++ [p] := fun p => by simp
  have l2 : ∀ p : Ob, (O ++ [p])[O.length]? = some p := fun p => by simp
  have hset2 : ∀ p q : Ob, ((O ++ [q]).set O.length p) = O ++ [p] := fun p q => by simp
  have put1 : ∀ d : D, putD "grow" d [] = [(("grow" : Str), d)] := fun d => rfl
  have put2 : ∀ d x : D, putD "top" d [(("grow" : Str), x)] = [(("grow" : Str), x), (("top" : Str), d)] := fun d x => rfl
  subst hi
  have n1 := n1 (by decide)
  exact ⟨O, by simp [f_law_refused, b_law_refused, f_meter_dark_minutes, b_meter_dark_minutes, sTryE, sb, ok, runF, sSeq, sIf, sNext, sDrop, sRet, sRetN, sAsg, ofRes, ofB, bName, bNil, bCons, bTup, bLst, bSubL, mTest, mOp, mVar, mC, mChain, mAnd, mOr, mNot, mIf, mAndV, mOrV, mNotV, mNeg, mCons, mNil, mTup, mLst, newL, mCall, mFn, arity, g1, g2, gLen, gInt, gAbs, gMax2, gMin2, gIx, seqOf, lsqOf, lstOf, Res.bind, ofO, gAdd_ok, gSub_ok, gEq_int, gNe_int, gLt_int, gLe_int, gGt_int, gGe_int, gEq_bl, gNe_bl, gEq_str, gNe_str, mIsi, mIsiT, tyD, kitL, kitTab, atI_c0, atI_c1, atI_c2, atI_c3, atI_c4, sForR1, int1, int2, mMeth, mMake, mFld, sFldM, gIs, gIsNot, isNon_t, sRaise, gList, newLO, h.m.m, lm8, n1, z5], h, p⟩
theorem refuse4 {i : Int} {d : D} {g t f : Int} {lm : List Mk} {ws : List Ent} {a c : Nat} {O : Store} {b : Nat} (h : Full g t f lm ws a c O) (p : Pool b 0 O) (hi : i = 4)
    (n1 : (i < 4 ∨ 6 < i) → ∀ O, f_checked_number [d, .int 0, .int 1000000000000] O = .exc ⟨"InvalidNumber", none⟩ O) (n2 : (4 ≤ i ∧ i ≤ 6) → ∀ O, f_checked_number [d, .int 0, .int 1000] O = .exc ⟨"InvalidNumber", none⟩ O) :
    ∃ O', f_law_refused [.int i, .hdl 2, d] O = .ok (.bl true) O' ∧ Full g t f lm ws a c O' ∧ Pool b 0 O' := by
  have sb : sub_law_refused_199 "InvalidNumber" = some true := rfl
  have ok : okX ⟨"InvalidNumber", none⟩ = true := rfl
  have y5 : ∀ O, f_checked_number [.int 5, .int 0, .int 1000] O = .ok (.int 5) O := fun O => chk_yes (by decide) (by decide)
  have z5 : ∀ O, f_checked_number [.int 5, .int 0, .int 1000000000000] O = .ok (.int 5) O := fun O => chk_yes (by decide) (by decide)
  have z10 : ∀ O, f_checked_number [.int 10, .int 0, .int 1000000000000] O = .ok (.int 10) O := fun O => chk_yes (by decide) (by decide)
  have z9 := fun O => nine O
  have l1 : (O ++ [Ob.ins "Warm" []])[O.length]? = some (Ob.ins "Warm" []) := by simp
  have hset : ∀ p : Ob, ((O ++ [Ob.ins "Warm" []]).set O.length p) = O ++ [p] := fun p => by simp
  have l2 : ∀ p : Ob, (O ++ [p])[O.length]? = some p := fun p => by simp
  have hset2 : ∀ p q : Ob, ((O ++ [q]).set O.length p) = O ++ [p] := fun p q => by simp
  have put1 : ∀ d : D, putD "grow" d [] = [(("grow" : Str), d)] := fun d => rfl
  have put2 : ∀ d x : D, putD "top" d [(("grow" : Str), x)] = [(("grow" : Str), x), (("top" : Str), d)] := fun d x => rfl
  subst hi
  have n2 := n2 (by decide)
  exact ⟨O ++ [Ob.ins "Warm" []], by simp [f_law_refused, b_law_refused, f_warm_init, b_warm_init, sTryE, sb, ok, runF, sSeq, sIf, sNext, sDrop, sRet, sRetN, sAsg, ofRes, ofB, bName, bNil, bCons, bTup, bLst, bSubL, mTest, mOp, mVar, mC, mChain, mAnd, mOr, mNot, mIf, mAndV, mOrV, mNotV, mNeg, mCons, mNil, mTup, mLst, newL, mCall, mFn, arity, g1, g2, gLen, gInt, gAbs, gMax2, gMin2, gIx, seqOf, lsqOf, lstOf, Res.bind, ofO, gAdd_ok, gSub_ok, gEq_int, gNe_int, gLt_int, gLe_int, gGt_int, gGe_int, gEq_bl, gNe_bl, gEq_str, gNe_str, mIsi, mIsiT, tyD, kitL, kitTab, atI_c0, atI_c1, atI_c2, atI_c3, atI_c4, sForR1, int1, int2, mMeth, mMake, mFld, sFldM, gIs, gIsNot, isNon_t, sRaise, gList, newLO, h.m.m, n2, y5, l1, l2, hset, hset2, put1, put2], full_app h, pool_app p⟩
theorem refuse5 {i : Int} {d : D} {g t f : Int} {lm : List Mk} {ws : List Ent} {a c : Nat} {O : Store} {b : Nat} (h : Full g t f lm ws a c O) (p : Pool b 0 O) (hi : i = 5)
    (n1 : (i < 4 ∨ 6 < i) → ∀ O, f_checked_number [d, .int 0, .int 1000000000000] O = .exc ⟨"InvalidNumber", none⟩ O) (n2 : (4 ≤ i ∧ i ≤ 6) → ∀ O, f_checked_number [d, .int 0, .int 1000] O = .exc ⟨"InvalidNumber", none⟩ O) :
    ∃ O', f_law_refused [.int i, .hdl 2, d] O = .ok (.bl true) O' ∧ Full g t f lm ws a c O' ∧ Pool b 0 O' := by
  have sb : sub_law_refused_199 "InvalidNumber" = some true := rfl
  have ok : okX ⟨"InvalidNumber", none⟩ = true := rfl
  have y5 : ∀ O, f_checked_number [.int 5, .int 0, .int 1000] O = .ok (.int 5) O := fun O => chk_yes (by decide) (by decide)
  have z5 : ∀ O, f_checked_number [.int 5, .int 0, .int 1000000000000] O = .ok (.int 5) O := fun O => chk_yes (by decide) (by decide)
  have z10 : ∀ O, f_checked_number [.int 10, .int 0, .int 1000000000000] O = .ok (.int 10) O := fun O => chk_yes (by decide) (by decide)
  have z9 := fun O => nine O
  have l1 : (O ++ [Ob.ins "Warm" []])[O.length]? = some (Ob.ins "Warm" []) := by simp
  have hset : ∀ p : Ob, ((O ++ [Ob.ins "Warm" []]).set O.length p) = O ++ [p] := fun p => by simp
  have l2 : ∀ p : Ob, (O ++ [p])[O.length]? = some p := fun p => by simp
  have hset2 : ∀ p q : Ob, ((O ++ [q]).set O.length p) = O ++ [p] := fun p q => by simp
  have put1 : ∀ d : D, putD "grow" d [] = [(("grow" : Str), d)] := fun d => rfl
  have put2 : ∀ d x : D, putD "top" d [(("grow" : Str), x)] = [(("grow" : Str), x), (("top" : Str), d)] := fun d x => rfl
  subst hi
  have n2 := n2 (by decide)
  exact ⟨O ++ [Ob.ins "Warm" [("grow", .int 5)]], by simp [f_law_refused, b_law_refused, f_warm_init, b_warm_init, sTryE, sb, ok, runF, sSeq, sIf, sNext, sDrop, sRet, sRetN, sAsg, ofRes, ofB, bName, bNil, bCons, bTup, bLst, bSubL, mTest, mOp, mVar, mC, mChain, mAnd, mOr, mNot, mIf, mAndV, mOrV, mNotV, mNeg, mCons, mNil, mTup, mLst, newL, mCall, mFn, arity, g1, g2, gLen, gInt, gAbs, gMax2, gMin2, gIx, seqOf, lsqOf, lstOf, Res.bind, ofO, gAdd_ok, gSub_ok, gEq_int, gNe_int, gLt_int, gLe_int, gGt_int, gGe_int, gEq_bl, gNe_bl, gEq_str, gNe_str, mIsi, mIsiT, tyD, kitL, kitTab, atI_c0, atI_c1, atI_c2, atI_c3, atI_c4, sForR1, int1, int2, mMeth, mMake, mFld, sFldM, gIs, gIsNot, isNon_t, sRaise, gList, newLO, h.m.m, n2, y5, l1, l2, hset, hset2, put1, put2], full_app h, pool_app p⟩
theorem refuse6 {i : Int} {d : D} {g t f : Int} {lm : List Mk} {ws : List Ent} {a c : Nat} {O : Store} {b : Nat} (h : Full g t f lm ws a c O) (p : Pool b 0 O) (hi : i = 6)
    (n1 : (i < 4 ∨ 6 < i) → ∀ O, f_checked_number [d, .int 0, .int 1000000000000] O = .exc ⟨"InvalidNumber", none⟩ O) (n2 : (4 ≤ i ∧ i ≤ 6) → ∀ O, f_checked_number [d, .int 0, .int 1000] O = .exc ⟨"InvalidNumber", none⟩ O) :
    ∃ O', f_law_refused [.int i, .hdl 2, d] O = .ok (.bl true) O' ∧ Full g t f lm ws a c O' ∧ Pool b 0 O' := by
  have sb : sub_law_refused_199 "InvalidNumber" = some true := rfl
  have ok : okX ⟨"InvalidNumber", none⟩ = true := rfl
  have y5 : ∀ O, f_checked_number [.int 5, .int 0, .int 1000] O = .ok (.int 5) O := fun O => chk_yes (by decide) (by decide)
  have z5 : ∀ O, f_checked_number [.int 5, .int 0, .int 1000000000000] O = .ok (.int 5) O := fun O => chk_yes (by decide) (by decide)
  have z10 : ∀ O, f_checked_number [.int 10, .int 0, .int 1000000000000] O = .ok (.int 10) O := fun O => chk_yes (by decide) (by decide)
  have z9 := fun O => nine O
  have l1 : (O ++ [Ob.ins "Warm" []])[O.length]? = some (Ob.ins "Warm" []) := by simp
  have hset : ∀ p : Ob, ((O ++ [Ob.ins "Warm" []]).set O.length p) = O ++ [p] := fun p => by simp
  have l2 : ∀ p : Ob, (O ++ [p])[O.length]? = some p := fun p => by simp
  have hset2 : ∀ p q : Ob, ((O ++ [q]).set O.length p) = O ++ [p] := fun p q => by simp
  have put1 : ∀ d : D, putD "grow" d [] = [(("grow" : Str), d)] := fun d => rfl
  have put2 : ∀ d x : D, putD "top" d [(("grow" : Str), x)] = [(("grow" : Str), x), (("top" : Str), d)] := fun d x => rfl
  subst hi
  have n2 := n2 (by decide)
  exact ⟨O ++ [Ob.ins "Warm" [("grow", .int 5), ("top", .int 5)]], by simp [f_law_refused, b_law_refused, f_warm_init, b_warm_init, sTryE, sb, ok, runF, sSeq, sIf, sNext, sDrop, sRet, sRetN, sAsg, ofRes, ofB, bName, bNil, bCons, bTup, bLst, bSubL, mTest, mOp, mVar, mC, mChain, mAnd, mOr, mNot, mIf, mAndV, mOrV, mNotV, mNeg, mCons, mNil, mTup, mLst, newL, mCall, mFn, arity, g1, g2, gLen, gInt, gAbs, gMax2, gMin2, gIx, seqOf, lsqOf, lstOf, Res.bind, ofO, gAdd_ok, gSub_ok, gEq_int, gNe_int, gLt_int, gLe_int, gGt_int, gGe_int, gEq_bl, gNe_bl, gEq_str, gNe_str, mIsi, mIsiT, tyD, kitL, kitTab, atI_c0, atI_c1, atI_c2, atI_c3, atI_c4, sForR1, int1, int2, mMeth, mMake, mFld, sFldM, gIs, gIsNot, isNon_t, sRaise, gList, newLO, h.m.m, n2, y5, l1, l2, hset, hset2, put1, put2], full_app h, pool_app p⟩
theorem refuse7 {i : Int} {d : D} {g t f : Int} {lm : List Mk} {ws : List Ent} {a c : Nat} {O : Store} {b : Nat} (h : Full g t f lm ws a c O) (p : Pool b 0 O) (hi : i = 7)
    (n1 : (i < 4 ∨ 6 < i) → ∀ O, f_checked_number [d, .int 0, .int 1000000000000] O = .exc ⟨"InvalidNumber", none⟩ O) (n2 : (4 ≤ i ∧ i ≤ 6) → ∀ O, f_checked_number [d, .int 0, .int 1000] O = .exc ⟨"InvalidNumber", none⟩ O) :
    ∃ O', f_law_refused [.int i, .hdl 2, d] O = .ok (.bl true) O' ∧ Full g t f lm ws a c O' ∧ Pool b 0 O' := by
  have sb : sub_law_refused_199 "InvalidNumber" = some true := rfl
  have ok : okX ⟨"InvalidNumber", none⟩ = true := rfl
  have y5 : ∀ O, f_checked_number [.int 5, .int 0, .int 1000] O = .ok (.int 5) O := fun O => chk_yes (by decide) (by decide)
  have z5 : ∀ O, f_checked_number [.int 5, .int 0, .int 1000000000000] O = .ok (.int 5) O := fun O => chk_yes (by decide) (by decide)
  have z10 : ∀ O, f_checked_number [.int 10, .int 0, .int 1000000000000] O = .ok (.int 10) O := fun O => chk_yes (by decide) (by decide)
  have z9 := fun O => nine O
  have l1 : (O ++ [Ob.ins "Warm" []])[O.length]? = some (Ob.ins "Warm" []) := by simp
  have hset : ∀ p : Ob, ((O ++ [Ob.ins "Warm" []]).set O.length p) = O ++ [p] := fun p => by simp
  have l2 : ∀ p : Ob, (O ++ [p])[O.length]? = some p := fun p => by simp
  have hset2 : ∀ p q : Ob, ((O ++ [q]).set O.length p) = O ++ [p] := fun p q => by simp
  have put1 : ∀ d : D, putD "grow" d [] = [(("grow" : Str), d)] := fun d => rfl
  have put2 : ∀ d x : D, putD "top" d [(("grow" : Str), x)] = [(("grow" : Str), x), (("top" : Str), d)] := fun d x => rfl
  subst hi
  have n1 := n1 (by decide)
  exact ⟨O, by simp [f_law_refused, b_law_refused, f_meter_is_lit, b_meter_is_lit, sTryE, sb, ok, runF, sSeq, sIf, sNext, sDrop, sRet, sRetN, sAsg, ofRes, ofB, bName, bNil, bCons, bTup, bLst, bSubL, mTest, mOp, mVar, mC, mChain, mAnd, mOr, mNot, mIf, mAndV, mOrV, mNotV, mNeg, mCons, mNil, mTup, mLst, newL, mCall, mFn, arity, g1, g2, gLen, gInt, gAbs, gMax2, gMin2, gIx, seqOf, lsqOf, lstOf, Res.bind, ofO, gAdd_ok, gSub_ok, gEq_int, gNe_int, gLt_int, gLe_int, gGt_int, gGe_int, gEq_bl, gNe_bl, gEq_str, gNe_str, mIsi, mIsiT, tyD, kitL, kitTab, atI_c0, atI_c1, atI_c2, atI_c3, atI_c4, sForR1, int1, int2, mMeth, mMake, mFld, sFldM, gIs, gIsNot, isNon_t, sRaise, gList, newLO, h.m.m, lm5, n1], h, p⟩
theorem refuse8 {i : Int} {d : D} {g t f : Int} {lm : List Mk} {ws : List Ent} {a c : Nat} {O : Store} {b : Nat} (h : Full g t f lm ws a c O) (p : Pool b 0 O) (hi : i = 8)
    (n1 : (i < 4 ∨ 6 < i) → ∀ O, f_checked_number [d, .int 0, .int 1000000000000] O = .exc ⟨"InvalidNumber", none⟩ O) (n2 : (4 ≤ i ∧ i ≤ 6) → ∀ O, f_checked_number [d, .int 0, .int 1000] O = .exc ⟨"InvalidNumber", none⟩ O) :
    ∃ O', f_law_refused [.int i, .hdl 2, d] O = .ok (.bl true) O' ∧ Full g t f lm ws a c O' ∧ Pool b 0 O' := by
  have sb : sub_law_refused_199 "InvalidNumber" = some true := rfl
  have ok : okX ⟨"InvalidNumber", none⟩ = true := rfl
  have y5 : ∀ O, f_checked_number [.int 5, .int 0, .int 1000] O = .ok (.int 5) O := fun O => chk_yes (by decide) (by decide)
  have z5 : ∀ O, f_checked_number [.int 5, .int 0, .int 1000000000000] O = .ok (.int 5) O := fun O => chk_yes (by decide) (by decide)
  have z10 : ∀ O, f_checked_number [.int 10, .int 0, .int 1000000000000] O = .ok (.int 10) O := fun O => chk_yes (by decide) (by decide)
  have z9 := fun O => nine O
  have l1 : (O ++ [Ob.ins "Warm" []])[O.length]? = some (Ob.ins "Warm" []) := by simp
  have hset : ∀ p : Ob, ((O ++ [Ob.ins "Warm" []]).set O.length p) = O ++ [p] := fun p => by simp
  have l2 : ∀ p : Ob, (O ++ [p])[O.length]? = some p := fun p => by simp
  have hset2 : ∀ p q : Ob, ((O ++ [q]).set O.length p) = O ++ [p] := fun p q => by simp
  have put1 : ∀ d : D, putD "grow" d [] = [(("grow" : Str), d)] := fun d => rfl
  have put2 : ∀ d x : D, putD "top" d [(("grow" : Str), x)] = [(("grow" : Str), x), (("top" : Str), d)] := fun d x => rfl
  subst hi
  have n1 := n1 (by decide)
  exact ⟨O, by simp [f_law_refused, b_law_refused, f_meter_settles, b_meter_settles, f_meter_extra, b_meter_extra, sTryE, sb, ok, runF, sSeq, sIf, sNext, sDrop, sRet, sRetN, sAsg, ofRes, ofB, bName, bNil, bCons, bTup, bLst, bSubL, mTest, mOp, mVar, mC, mChain, mAnd, mOr, mNot, mIf, mAndV, mOrV, mNotV, mNeg, mCons, mNil, mTup, mLst, newL, mCall, mFn, arity, g1, g2, gLen, gInt, gAbs, gMax2, gMin2, gIx, seqOf, lsqOf, lstOf, Res.bind, ofO, gAdd_ok, gSub_ok, gEq_int, gNe_int, gLt_int, gLe_int, gGt_int, gGe_int, gEq_bl, gNe_bl, gEq_str, gNe_str, mIsi, mIsiT, tyD, kitL, kitTab, atI_c0, atI_c1, atI_c2, atI_c3, atI_c4, sForR1, int1, int2, mMeth, mMake, mFld, sFldM, gIs, gIsNot, isNon_t, sRaise, gList, newLO, h.m.m, lmw, h.m.w, lwu, lm6, lm2, n1], h, p⟩
theorem refuse9 {i : Int} {d : D} {g t f : Int} {lm : List Mk} {ws : List Ent} {a c : Nat} {O : Store} {b : Nat} (h : Full g t f lm ws a c O) (p : Pool b 0 O) (hi : i = 9)
    (n1 : (i < 4 ∨ 6 < i) → ∀ O, f_checked_number [d, .int 0, .int 1000000000000] O = .exc ⟨"InvalidNumber", none⟩ O) (n2 : (4 ≤ i ∧ i ≤ 6) → ∀ O, f_checked_number [d, .int 0, .int 1000] O = .exc ⟨"InvalidNumber", none⟩ O) :
    ∃ O', f_law_refused [.int i, .hdl 2, d] O = .ok (.bl true) O' ∧ Full g t f lm ws a c O' ∧ Pool b 0 O' := by
  have sb : sub_law_refused_199 "InvalidNumber" = some true := rfl
  have ok : okX ⟨"InvalidNumber", none⟩ = true := rfl
  have y5 : ∀ O, f_checked_number [.int 5, .int 0, .int 1000] O = .ok (.int 5) O := fun O => chk_yes (by decide) (by decide)
  have z5 : ∀ O, f_checked_number [.int 5, .int 0, .int 1000000000000] O = .ok (.int 5) O := fun O => chk_yes (by decide) (by decide)
  have z10 : ∀ O, f_checked_number [.int 10, .int 0, .int 1000000000000] O = .ok (.int 10) O := fun O => chk_yes (by decide) (by decide)
  have z9 := fun O => nine O
  have l1 : (O ++ [Ob.ins "Warm" []])[O.length]? = some (Ob.ins "Warm" []) := by simp
  have hset : ∀ p : Ob, ((O ++ [Ob.ins "Warm" []]).set O.length p) = O ++ [p] := fun p => by simp
  have l2 : ∀ p : Ob, (O ++ [p])[O.length]? = some p := fun p => by simp
  have hset2 : ∀ p q : Ob, ((O ++ [q]).set O.length p) = O ++ [p] := fun p q => by simp
  have put1 : ∀ d : D, putD "grow" d [] = [(("grow" : Str), d)] := fun d => rfl
  have put2 : ∀ d x : D, putD "top" d [(("grow" : Str), x)] = [(("grow" : Str), x), (("top" : Str), d)] := fun d x => rfl
  subst hi
  exact ⟨O, by simp [f_law_refused, b_law_refused, f_meter_peak, b_meter_peak, sTryE, sb, ok, runF, sSeq, sIf, sNext, sDrop, sRet, sRetN, sAsg, ofRes, ofB, bName, bNil, bCons, bTup, bLst, bSubL, mTest, mOp, mVar, mC, mChain, mAnd, mOr, mNot, mIf, mAndV, mOrV, mNotV, mNeg, mCons, mNil, mTup, mLst, newL, mCall, mFn, arity, g1, g2, gLen, gInt, gAbs, gMax2, gMin2, gIx, seqOf, lsqOf, lstOf, Res.bind, ofO, gAdd_ok, gSub_ok, gEq_int, gNe_int, gLt_int, gLe_int, gGt_int, gGe_int, gEq_bl, gNe_bl, gEq_str, gNe_str, mIsi, mIsiT, tyD, kitL, kitTab, atI_c0, atI_c1, atI_c2, atI_c3, atI_c4, sForR1, int1, int2, mMeth, mMake, mFld, sFldM, gIs, gIsNot, isNon_t, sRaise, gList, newLO, h.m.m, lm7, z10, z9], h, p⟩
theorem refuse {i : Int} {d : D} {g t f : Int} {lm : List Mk} {ws : List Ent} {a c : Nat} {O : Store} {b : Nat} (h : Full g t f lm ws a c O) (p : Pool b 0 O) (h0 : 0 ≤ i) (h1 : i < 10)
    (n1 : (i < 4 ∨ 6 < i) → ∀ O, f_checked_number [d, .int 0, .int 1000000000000] O = .exc ⟨"InvalidNumber", none⟩ O) (n2 : (4 ≤ i ∧ i ≤ 6) → ∀ O, f_checked_number [d, .int 0, .int 1000] O = .exc ⟨"InvalidNumber", none⟩ O) :
    ∃ O', f_law_refused [.int i, .hdl 2, d] O = .ok (.bl true) O' ∧ Full g t f lm ws a c O' ∧ Pool b 0 O' := by
  obtain hi | hi | hi | hi | hi | hi | hi | hi | hi | hi : i = 0 ∨ i = 1 ∨ i = 2 ∨ i = 3 ∨ i = 4 ∨ i = 5 ∨ i = 6 ∨ i = 7 ∨ i = 8 ∨ i = 9 := by omega
  · exact refuse0 h p hi n1 n2
  · exact refuse1 h p hi n1 n2
  · exact refuse2 h p hi n1 n2
  · exact refuse3 h p hi n1 n2
  · exact refuse4 h p hi n1 n2
  · exact refuse5 h p hi n1 n2
  · exact refuse6 h p hi n1 n2
  · exact refuse7 h p hi n1 n2
  · exact refuse8 h p hi n1 n2
  · exact refuse9 h p hi n1 n2
end DK.k59
end
section
set_option Elab.async false
set_option linter.all false
set_option autoImplicit false
set_option maxRecDepth 100000
set_option maxHeartbeats 4000000
namespace DK.k59
open PySem L2 DK
/-! ### the turns -/
theorem sorted_is {zs : List Int} {O : Store} (hl : zs.length ≤ 1000) : gSorted false O (.lst (zs.map .int)) = some (.lst ((sortI zs).map .int), O) := by
  have h1 : ∀ zs : List Int, intsOf (zs.map D.int) = some zs := fun zs => by
    induction zs with
    | nil => rfl
    | cons z zs ih =>
      show (intsOf (zs.map D.int)).map (z :: ·) = _
      rw [ih]
      rfl
  have h2 : (sortI zs).length = zs.length := (List.mergeSort_perm zs _).length_eq
  have h3 : zs.length ≤ 1000000 := by omega
  simp [gSorted, dctOf, lsqOf, h1, newLO, h2, h3]
abbrev Lw (s : D) (g t f : Int) (zs : List Int) (x : List (Option D)) : Loc := some s :: some (.hdl 0) :: some (NUM g t f) :: some (.hdl 1) :: some (.hdl 2) :: some (.lst (zs.map .int)) :: some (.hdl 5) :: x
def t1 : SM := (sIf (mOr (mTest (mOp gEq (mVar 8) (mC (.int 0)))) (mTest (mOp gGt (mOp gIx (mVar 5) (mVar 8)) (mOp gIx (mVar 5) (mOp gSub (mVar 8) (mC (.int 1))))))) (sSeq (sDrop (mApp (mVar 6) (mTup (mCons (mOp gIx (mVar 5) (mVar 8)) (mCons (mVar 7) mNil)))))
    (sSeq (sDrop (mMeth "Meter" "switch" (arity 3 f_meter_switch) [] (mVar 4) (mCons (mOp gIx (mVar 5) (mVar 8)) (mCons (mVar 7) mNil))))
    (sAsg (mNotV (mVar 7)) (bName 7)))) sNext)
def t2 : SM := (sSeq (sAsg (mFn (arity 1 f_law_wide) [] (mCons (mVar 1) mNil)) (bName 9))
    (sSeq (sIf (mTest (mOp gGt (mVar 9) (mC (.int 1000000000000)))) (sAsg (mC (.int 1000000000000)) (bName 9)) sNext)
    (sSeq (sAsg (mFn (arity 3 f_law_at) [] (mCons (mVar 2) (mCons (mVar 6) (mCons (mVar 9) mNil)))) (bLst 2 (bCons (bName 10) (bCons (bName 7) bNil))))
    (sSeq (sIf (mOr (mNot (mTest (mFn (arity 2 (f_law_same 3)) [] (mCons (mMeth "Meter" "extra" (arity 2 f_meter_extra) [] (mVar 4) (mCons (mVar 9) mNil)) (mCons (mVar 10) mNil))))) (mNot (mTest (mFn (arity 2 (f_law_same 3)) [] (mCons (mMeth "Meter" "is_lit" (arity 2 f_meter_is_lit) [] (mVar 4) (mCons (mVar 9) mNil)) (mCons (mVar 7) mNil)))))) (sRet (mC (.bl false))) sNext)
    (sSeq (sAsg (mFn (arity 2 f_law_pick) [] (mCons (mVar 1) (mCons (mLst false (mCons (mC (.int 0)) (mCons (mC (.int 0)) (mCons (mC (.int 1)) (mCons (mFn (arity 2 f_law_draw) [] (mCons (mVar 1) (mCons (mC (.int 1001)) mNil))) mNil))))) mNil))) (bName 11))
    (sSeq (sAsg (mIf (mTest (mOp gEq (mVar 11) (mC (.int 0)))) (mMeth "Meter" "settles" (arity 3 f_meter_settles) [.int 0] (mVar 4) (mCons (mVar 9) mNil)) (mMeth "Meter" "settles" (arity 3 f_meter_settles) [] (mVar 4) (mCons (mVar 9) (mCons (mVar 11) mNil)))) (bName 12))
    (sSeq (sIf (mTest (mOp gIs (mVar 12) (mC .non))) (sIf (mOr (mTest (mOp gGt (mOp gIx (mVar 2) (mC (.int 2))) (mC (.int 0)))) (mTest (mOp gLe (mVar 10) (mVar 11)))) (sRet (mC (.bl false))) sNext) (sSeq (sIf (mOr (mNot (mTest (mIsi "int" (mVar 12)))) (mOr (mTest (mIsi "bool" (mVar 12))) (mTest (mOp gLt (mVar 12) (mVar 9))))) (sRet (mC (.bl false))) sNext)
    (sSeq (sIf (mTest (mOp gGt (mFn (arity 4 f_law_span) [] (mCons (mVar 2) (mCons (mVar 10) (mCons (mOp gSub (mVar 12) (mVar 9)) (mCons (mC (.bl true)) mNil))))) (mVar 11))) (sRet (mC (.bl false))) sNext)
    (sSeq (sIf (mAnd (mTest (mOp gGt (mVar 12) (mVar 9))) (mTest (mOp gLe (mFn (arity 4 f_law_span) [] (mCons (mVar 2) (mCons (mVar 10) (mCons (mOp gSub (mOp gSub (mVar 12) (mVar 9)) (mC (.int 1))) (mCons (mC (.bl true)) mNil))))) (mVar 11)))) (sRet (mC (.bl false))) sNext)
    (sIf (mNot (mTest (mFn (arity 2 (f_law_same 3)) [] (mCons (mMeth "Warm" "until" (arity 3 f_warm_until) [] (mVar 3) (mCons (mVar 10) (mCons (mVar 11) mNil))) (mCons (mOp gSub (mVar 12) (mVar 9)) mNil))))) (sRet (mC (.bl false))) sNext)))))
    (sSeq (sAsg (mFn (arity 1 f_law_wide) [] (mCons (mVar 1) mNil)) (bName 13))
    (sSeq (sAsg (mOp gEq (mFn (arity 2 f_law_draw) [] (mCons (mVar 1) (mCons (mC (.int 2)) mNil))) (mC (.int 0))) (bName 14))
    (sSeq (sIf (mNot (mTest (mFn (arity 2 (f_law_same 3)) [] (mCons (mMeth "Warm" "behind" (arity 4 f_warm_behind) [] (mVar 3) (mCons (mVar 10) (mCons (mVar 13) (mCons (mVar 14) mNil)))) (mCons (mFn (arity 4 f_law_span) [] (mCons (mVar 2) (mCons (mVar 10) (mCons (mVar 13) (mCons (mVar 14) mNil))))) mNil))))) (sRet (mC (.bl false))) sNext)
    (sSeq (sAsg (mFn (arity 2 f_law_draw) [] (mCons (mVar 1) (mCons (mC (.int 1000001)) mNil))) (bName 15))
    (sSeq (sAsg (mOp (gAdd false) (mOp (gAdd false) (mVar 15) (mOp gFdiv (mOp gMul (mVar 15) (mVar 10)) (mC (.int 100)))) (mCall (g1 gInt) (mCons (mOp gGt (mOp gMod (mCall (g1 gInt) (mCons (mOp gMul (mVar 15) (mVar 10)) mNil)) (mC (.int 100))) (mC (.int 0))) mNil))) (bName 16))
    (sIf (mNot (mTest (mFn (arity 2 (f_law_same 3)) [] (mCons (mMeth "Warm" "want" (arity 3 f_warm_want) [] (mVar 3) (mCons (mVar 15) (mCons (mVar 10) mNil))) (mCons (mVar 16) mNil))))) (sRet (mC (.bl false))) sNext)))))))))))))
def t3 : SM := (sSeq (sAsg (mFn (arity 2 f_law_pick) [] (mCons (mVar 1) (mCons (mLst false (mCons (mNeg (mC (.int 1))) (mCons (mNeg (mC (.int 5))) (mCons (mC (.int 1000000000001)) (mCons (mIf (mTest (mChain gLt gLt (mC (.int 3)) (mVar 17) (mC (.int 7)))) (mC (.int 1001)) (mNeg (mC (.int 2)))) (mCons (mIf (mTest (mChain gLt gLt (mC (.int 3)) (mVar 17) (mC (.int 7)))) (mC (.bl true)) (mNeg (mC (.int 3)))) mNil)))))) mNil))) (bName 18))
    (sIf (mNot (mTest (mFn (arity 3 f_law_refused) [] (mCons (mVar 17) (mCons (mVar 4) (mCons (mVar 18) mNil)))))) (sRet (mC (.bl false))) sNext))
abbrev nn : List (Option D) := [none, none, none, none, none, none, none, none, none, none]
def S1 (s : D) (g t f : Int) (zs : List Int) (b : Nat) (i : Nat) (L : Loc) (O : Store) : Prop := ∃ lit x lm ws a c, L = Lw s g t f zs (some (.bl lit) :: x :: nn) ∧ Full g t f lm ws a c O ∧ Pool b 0 O ∧ lm.length ≤ i ∧ ∀ m ∈ lm, ∃ z, zs[i - 1]? = some z ∧ 0 < i ∧ m.1 ≤ z
theorem turn1 {s : D} {g t f : Int} {zs : List Int} {b i : Nat} {L : Loc} {O : Store} (q : Gtf g t f) (hz : ∀ z ∈ zs, 0 ≤ z ∧ z ≤ 1000000000000) (up : zs.Pairwise (· ≤ ·)) (hi : i < zs.length) (hi2 : zs.length ≤ 5) (h : S1 s g t f zs b i L O) :
    ∃ L' O', turnOf (bName 8) t1 (.int (0 + (i : Int))) L O = .next L' O' ∧ S1 s g t f zs b (i + 1) L' O' := by
  obtain ⟨lit, x, lm, ws, a, c, rfl, hf, hp, hlm, hm⟩ := h
  obtain ⟨z, hzi⟩ : ∃ z, zs[i]? = some z := ⟨zs[i]'hi, List.getElem?_eq_getElem _⟩
  have zb := hz z (List.mem_of_getElem? hzi)
  have hx : atI (zs.map D.int) (i : Int) = some (.int z) := atI_nat (by omega) (by rw [List.getElem?_map, show ((i : Int)).toNat = i by omega, hzi]; rfl)
  have stepB : ((i : Int) = 0 ∨ ∃ y, zs[i - 1]? = some y ∧ y < z) → (∃ L' O', turnOf (bName 8) t1 (.int (0 + (i : Int))) (Lw s g t f zs (some (.bl lit) :: x :: nn)) O = .next L' O' ∧ S1 s g t f zs b (i + 1) L' O') := fun hc => by
    have hlt : ∀ u ∈ lm, u.1 < z := fun u hu => by
      obtain ⟨y, hy, hi0, hyu⟩ := hm u hu
      rcases hc with hc | ⟨y2, hy2, hc⟩
      · omega
      · rw [hy] at hy2
        cases hy2
        omega
    obtain ⟨O', ws', a', c', e, hf', hp'⟩ := full_switch (m := (z, lit)) q hf hp zb.1 zb.2 hlt (by omega)
    have e : f_meter_switch [.hdl 2, .int z, .bl lit] (O.set 5 (.lst (lm.map mkL ++ [.tup [.int z, .bl lit]]))) = .ok .non O' := e
    have w2 : ∀ p : Ob, (O.set 5 p)[2]? = some (meterO a c) := fun p => by rw [List.getElem?_set_ne (by decide)]; exact hf.m.m
    have hl : lm.length ≤ 1000000 := by omega
    refine ⟨Lw s g t f zs (some (.bl (!lit)) :: some (.int i) :: nn), O', ?_, !lit, some (.int i), lm ++ [(z, lit)], ws', a', c', rfl, hf', hp', by rw [List.length_append, List.length_singleton]; omega, fun m hmm => ⟨z, by simpa using hzi, by omega, ?_⟩⟩
    · rcases hc with hc | ⟨y, hy, hc⟩
      · rw [hc] at hx
        simp [turnOf, t1, mApp, runF, sSeq, sIf, sNext, sDrop, sRet, sRetN, sAsg, ofRes, ofB, bName, bNil, bCons, bTup, bLst, bSubL, mTest, mOp, mVar, mC, mChain, mAnd, mOr, mNot, mIf, mAndV, mOrV, mNotV, mNeg, mCons, mNil, mTup, mLst, newL, mCall, mFn, arity, g1, g2, gLen, gInt, gAbs, gMax2, gMin2, gIx, seqOf, lsqOf, lstOf, Res.bind, ofO, gAdd_ok, gSub_ok, gEq_int, gNe_int, gLt_int, gLe_int, gGt_int, gGe_int, gEq_bl, gNe_bl, gEq_str, gNe_str, mIsi, mIsiT, tyD, kitL, kitTab, atI_c0, atI_c1, atI_c2, atI_c3, atI_c4, sForR1, int1, int2, mMeth, mMake, mFld, sFldM, gIs, gIsNot, isNon_t, sRaise, gList, newLO, hc, hx, hf.l, hl, w2, lm4, e]
      · by_cases c0 : (i : Int) = 0
        · rw [c0] at hx
          simp [turnOf, t1, mApp, runF, sSeq, sIf, sNext, sDrop, sRet, sRetN, sAsg, ofRes, ofB, bName, bNil, bCons, bTup, bLst, bSubL, mTest, mOp, mVar, mC, mChain, mAnd, mOr, mNot, mIf, mAndV, mOrV, mNotV, mNeg, mCons, mNil, mTup, mLst, newL, mCall, mFn, arity, g1, g2, gLen, gInt, gAbs, gMax2, gMin2, gIx, seqOf, lsqOf, lstOf, Res.bind, ofO, gAdd_ok, gSub_ok, gEq_int, gNe_int, gLt_int, gLe_int, gGt_int, gGe_int, gEq_bl, gNe_bl, gEq_str, gNe_str, mIsi, mIsiT, tyD, kitL, kitTab, atI_c0, atI_c1, atI_c2, atI_c3, atI_c4, sForR1, int1, int2, mMeth, mMake, mFld, sFldM, gIs, gIsNot, isNon_t, sRaise, gList, newLO, c0, hx, hf.l, hl, w2, lm4, e]
        · have hx2 : atI (zs.map D.int) ((i : Int) - 1) = some (.int y) := atI_nat (by omega) (by rw [List.getElem?_map, show ((i : Int) - 1).toNat = i - 1 by omega, hy]; rfl)
          have c1 : ¬ i = 0 := by omega
          simp [turnOf, t1, mApp, runF, sSeq, sIf, sNext, sDrop, sRet, sRetN, sAsg, ofRes, ofB, bName, bNil, bCons, bTup, bLst, bSubL, mTest, mOp, mVar, mC, mChain, mAnd, mOr, mNot, mIf, mAndV, mOrV, mNotV, mNeg, mCons, mNil, mTup, mLst, newL, mCall, mFn, arity, g1, g2, gLen, gInt, gAbs, gMax2, gMin2, gIx, seqOf, lsqOf, lstOf, Res.bind, ofO, gAdd_ok, gSub_ok, gEq_int, gNe_int, gLt_int, gLe_int, gGt_int, gGe_int, gEq_bl, gNe_bl, gEq_str, gNe_str, mIsi, mIsiT, tyD, kitL, kitTab, atI_c0, atI_c1, atI_c2, atI_c3, atI_c4, sForR1, int1, int2, mMeth, mMake, mFld, sFldM, gIs, gIsNot, isNon_t, sRaise, gList, newLO, c1, hx, hx2, hc, hf.l, hl, w2, lm4, e]
    · rcases List.mem_append.mp hmm with hmm | hmm
      · exact Int.le_of_lt (hlt m hmm)
      · rw [List.mem_singleton.mp hmm]
        exact Int.le_refl _
  by_cases c0 : (i : Int) = 0
  · exact stepB (.inl c0)
  · obtain ⟨y, hy⟩ : ∃ y, zs[i - 1]? = some y := ⟨zs[i - 1]'(by omega), List.getElem?_eq_getElem _⟩
    by_cases c1 : y < z
    · exact stepB (.inr ⟨y, hy, c1⟩)
    · have hx2 : atI (zs.map D.int) ((i : Int) - 1) = some (.int y) := atI_nat (by omega) (by rw [List.getElem?_map, show ((i : Int) - 1).toNat = i - 1 by omega, hy]; rfl)
      have c2 : ¬ i = 0 := by omega
      refine ⟨Lw s g t f zs (some (.bl lit) :: some (.int i) :: nn), O, ?_, lit, some (.int i), lm, ws, a, c, rfl, hf, hp, by omega, fun m hmm => ⟨z, by simpa using hzi, by omega, ?_⟩⟩
      · simp [turnOf, t1, runF, sSeq, sIf, sNext, sDrop, sRet, sRetN, sAsg, ofRes, ofB, bName, bNil, bCons, bTup, bLst, bSubL, mTest, mOp, mVar, mC, mChain, mAnd, mOr, mNot, mIf, mAndV, mOrV, mNotV, mNeg, mCons, mNil, mTup, mLst, newL, mCall, mFn, arity, g1, g2, gLen, gInt, gAbs, gMax2, gMin2, gIx, seqOf, lsqOf, lstOf, Res.bind, ofO, gAdd_ok, gSub_ok, gEq_int, gNe_int, gLt_int, gLe_int, gGt_int, gGe_int, gEq_bl, gNe_bl, gEq_str, gNe_str, mIsi, mIsiT, tyD, kitL, kitTab, atI_c0, atI_c1, atI_c2, atI_c3, atI_c4, sForR1, int1, int2, mMeth, mMake, mFld, sFldM, gIs, gIsNot, isNon_t, sRaise, gList, newLO, c2, hx, hx2, c1]
      · obtain ⟨y2, hy2, _, hyu⟩ := hm m hmm
        rw [hy] at hy2
        cases hy2
        have : y ≤ z := by
          obtain ⟨b1, rfl⟩ := List.getElem?_eq_some_iff.mp hy
          obtain ⟨b2, rfl⟩ := List.getElem?_eq_some_iff.mp hzi
          exact List.pairwise_iff_getElem.mp up (i - 1) i b1 b2 (by omega)
        omega
/-- the rounds of questions -/
abbrev L2w (s : D) (g t f : Int) (zs : List Int) (y : List (Option D)) : Loc := Lw s g t f zs y
def S2 (s : D) (g t f : Int) (zs : List Int) (lm : List Mk) (ws : List Ent) (a c : Nat) (i : Nat) (L : Loc) (O : Store) : Prop := ∃ x7 x8 x9 x10 x11 x12 x13 x14 x15 x16 x17 x18, L = Lw s g t f zs [x7, x8, x9, x10, x11, x12, x13, x14, x15, x16, x17, x18] ∧ Full g t f lm ws a c O ∧ Pool (1000 + 100 * i) 0 O
theorem due_is (b e : Int) : b + b * e / 100 + (if 0 < b * e % 100 then 1 else 0) = b + (b * e + 99) / 100 := by
  generalize b * e = y
  split <;> omega
theorem turn2 {s d0 : D} {g t f : Int} {zs : List Int} {lm : List Mk} {ws : List Ent} {a c i : Nat} {L : Loc} {O : Store} (q : Gtf g t f) (hi : i ≤ 10) (h : S2 s g t f zs lm ws a c i L O) :
    ∃ L' O', turnOf (bName 8) t2 d0 L O = .next L' O' ∧ S2 s g t f zs lm ws a c (i + 1) L' O' := by
  obtain ⟨x7, x8, x9, x10, x11, x12, x13, x14, x15, x16, x17, x18, rfl, hf, hp⟩ := h
  obtain ⟨x, O1, e1, v0, v1, p1, r1⟩ := wide1 full_keep hp hf (by omega)
  obtain ⟨v, O2, e2, v20, v21, p2, r2⟩ := draw1 (many := 1001) full_keep p1 r1 (by omega) (by omega) (by omega)
  obtain ⟨d, O3, e3, hd, p3, r3⟩ := pick1 (ds := [.int 0, .int 0, .int 1, .int v]) full_keep p2 r2 (by simp) (by simp) (by omega)
  obtain ⟨n, rfl, n0, n1⟩ : ∃ w : Int, d = .int w ∧ 0 ≤ w ∧ w ≤ 1000 := by
    simp at hd
    rcases hd with rfl | rfl | rfl <;> exact ⟨_, rfl, by omega, by omega⟩
  obtain ⟨mn, O4, e4, mn0, mn1, p4, r4⟩ := wide1 full_keep p3 r3 (by omega)
  obtain ⟨st, O5, e5, st0, st1, p5, r5⟩ := draw1 (many := 2) full_keep p4 r4 (by omega) (by omega) (by omega)
  obtain ⟨bs, O6, e6, bs0, bs1, p6, r6⟩ := draw1 (many := 1000001) full_keep p5 r5 (by omega) (by omega) (by omega)
  have ha := at_is (x := x) (O := O1) q r1.l r1.up r1.bd v0 v1
  obtain ⟨he, hl, _⟩ := settles_is (n := n) q r1 v0 v1
  obtain ⟨_, _, hs⟩ := settles_is (n := n) q r3 v0 v1
  have hb := at_bd q r1 v0 v1
  have hm3 := r3.m.m
  generalize hE : (atL g t f lm x).1 = E at *
  generalize hB : (atL g t f lm x).2 = B at *
  have nx : ¬ 1000000000000 < x := by omega
  have hu := until_is (e := E) (n := n) q r3.m.w
  have hbh := behind_is (e := E) (n := mn) (l := decide (st = 0)) q mn0 (by omega) r5.m.w
  have hsp := span_is (e := E) (n := mn) (l := decide (st = 0)) (O := O5) q mn0 (by omega)
  have hw := want_is (e := E) (n := bs) (by omega) (by omega) r6.m.w
  have hmul := fun O => mulT (O := O) (a := bs) (c := E) (by omega) (by omega)
  have hd1 : ∀ (O : Store) (i : Int), gFdiv O (.int i) (.int 100) = some (.int (i / 100), O) := fun O i => gFdiv_ok (by decide) (by decide)
  have hd2 : ∀ (O : Store) (i : Int), gMod O (.int i) (.int 100) = some (.int (i % 100), O) := fun O i => gMod_ok (by decide)
  have hdue := due_is bs E
  have m1 := r1.m.m
  have m3 := r3.m.m
  have m5 := r5.m.w
  have m6 := r6.m.w
  have mw3 := r3.m.w
  have hif : ∀ (L : Loc), L[11]? = some (some (.int n)) → L[4]? = some (some (.hdl 2)) → L[9]? = some (some (.int x)) → mIf (mTest (mOp gEq (mVar 11) (mC (.int 0)))) (mMeth "Meter" "settles" (arity 3 f_meter_settles) [.int 0] (mVar 4) (mCons (mVar 9) mNil)) (mMeth "Meter" "settles" (arity 3 f_meter_settles) [] (mVar 4) (mCons (mVar 9) (mCons (mVar 11) mNil))) L O3 = f_meter_settles [.hdl 2, .int x, .int n] O3 := fun L h11 h4 h9 => by
    by_cases z : n = 0
    · subst z
      simp [runF, sSeq, sIf, sNext, sDrop, sRet, sRetN, sAsg, ofRes, ofB, bName, bNil, bCons, bTup, bLst, bSubL, mTest, mOp, mVar, mC, mChain, mAnd, mOr, mNot, mIf, mAndV, mOrV, mNotV, mNeg, mCons, mNil, mTup, mLst, newL, mCall, mFn, arity, g1, g2, gLen, gInt, gAbs, gMax2, gMin2, gIx, seqOf, lsqOf, lstOf, Res.bind, ofO, gAdd_ok, gSub_ok, gEq_int, gNe_int, gLt_int, gLe_int, gGt_int, gGe_int, gEq_bl, gNe_bl, gEq_str, gNe_str, mIsi, mIsiT, tyD, kitL, kitTab, atI_c0, atI_c1, atI_c2, atI_c3, atI_c4, sForR1, int1, int2, mMeth, mMake, mFld, sFldM, gIs, gIsNot, isNon_t, sRaise, gList, newLO, h11, h4, h9, m3, lm6]
    · simp [runF, sSeq, sIf, sNext, sDrop, sRet, sRetN, sAsg, ofRes, ofB, bName, bNil, bCons, bTup, bLst, bSubL, mTest, mOp, mVar, mC, mChain, mAnd, mOr, mNot, mIf, mAndV, mOrV, mNotV, mNeg, mCons, mNil, mTup, mLst, newL, mCall, mFn, arity, g1, g2, gLen, gInt, gAbs, gMax2, gMin2, gIx, seqOf, lsqOf, lstOf, Res.bind, ofO, gAdd_ok, gSub_ok, gEq_int, gNe_int, gLt_int, gLe_int, gGt_int, gGe_int, gEq_bl, gNe_bl, gEq_str, gNe_str, mIsi, mIsiT, tyD, kitL, kitTab, atI_c0, atI_c1, atI_c2, atI_c3, atI_c4, sForR1, int1, int2, mMeth, mMake, mFld, sFldM, gIs, gIsNot, isNon_t, sRaise, gList, newLO, h11, h4, h9, m3, lm6, z]
  suffices ev : ∃ told, turnOf (bName 8) t2 d0 (Lw s g t f zs [x7, x8, x9, x10, x11, x12, x13, x14, x15, x16, x17, x18]) O = .next (Lw s g t f zs [some (.bl B), some d0, some (.int x), some (.int E), some (.int n), told, some (.int mn), some (.bl (decide (st = 0))), some (.int bs), some (.int (bs + (bs * E + 99) / 100)), x17, x18]) O6 by
    obtain ⟨told, ev⟩ := ev
    exact ⟨_, _, ev, _, _, _, _, _, _, _, _, _, _, _, _, rfl, r6, pmono (by omega) p6⟩
  have hg : ∀ (O : Store) (b : Bool), gInt O (.bl b) = some (.int (if b = true then 1 else 0), O) := fun O b => by cases b <;> rfl
  have hf0 := q.f
  by_cases cA : E ≤ n
  · rw [if_pos cA] at hs hu
    have hsA := span_is (e := E) (n := 0) (l := true) (O := O3) q (by omega) (by omega)
    have hsp0 : ¬ n < sp g t f E 0 true := by simp [sp]; omega
    refine ⟨some (.int (x + 0)), ?_⟩
    simp [turnOf, t2, runF, sSeq, sIf, sNext, sDrop, sRet, sRetN, sAsg, ofRes, ofB, bName, bNil, bCons, bTup, bLst, bSubL, mTest, mOp, mVar, mC, mChain, mAnd, mOr, mNot, mAndV, mOrV, mNotV, mNeg, mCons, mNil, mTup, mLst, newL, mCall, mFn, arity, g1, g2, gLen, gInt, gAbs, gMax2, gMin2, gIx, seqOf, lsqOf, lstOf, Res.bind, ofO, gAdd_ok, gSub_ok, gEq_int, gNe_int, gLt_int, gLe_int, gGt_int, gGe_int, gEq_bl, gNe_bl, gEq_str, gNe_str, mIsi, mIsiT, tyD, kitL, kitTab, atI_c0, atI_c1, atI_c2, atI_c3, atI_c4, sForR1, int1, int2, mMeth, mMake, mFld, sFldM, gIs, gIsNot, isNon_t, sRaise, gList, newLO, e1, e2, e3, e4, e5, e6, nx, ha, he, hl, m1, m3, m5, m6, mw3, lm2, lm5, lwb, lww, lwu, same_int, same_bl, hif, hs, hu, hsA, hsp0, hbh, hsp, hw, hmul, hd1, hd2, hg, hdue]
  · rw [if_neg cA] at hs hu
    by_cases cB : f = 0
    · rw [if_pos cB] at hs hu
      have nf : ¬ 0 < f := by omega
      refine ⟨some .non, ?_⟩
      simp [turnOf, t2, runF, sSeq, sIf, sNext, sDrop, sRet, sRetN, sAsg, ofRes, ofB, bName, bNil, bCons, bTup, bLst, bSubL, mTest, mOp, mVar, mC, mChain, mAnd, mOr, mNot, mAndV, mOrV, mNotV, mNeg, mCons, mNil, mTup, mLst, newL, mCall, mFn, arity, g1, g2, gLen, gInt, gAbs, gMax2, gMin2, gIx, seqOf, lsqOf, lstOf, Res.bind, ofO, gAdd_ok, gSub_ok, gEq_int, gNe_int, gLt_int, gLe_int, gGt_int, gGe_int, gEq_bl, gNe_bl, gEq_str, gNe_str, mIsi, mIsiT, tyD, kitL, kitTab, atI_c0, atI_c1, atI_c2, atI_c3, atI_c4, sForR1, int1, int2, mMeth, mMake, mFld, sFldM, gIs, gIsNot, isNon_t, sRaise, gList, newLO, e1, e2, e3, e4, e5, e6, nx, ha, he, hl, m1, m3, m5, m6, mw3, lm2, lm5, lwb, lww, lwu, same_int, same_bl, hif, hs, hu, nf, cA, hbh, hsp, hw, hmul, hd1, hd2, hg, hdue]
    · rw [if_neg cB] at hs hu
      have hq1 := Int.mul_ediv_add_emod (E - n + f - 1) f
      have hq2 := Int.emod_nonneg (E - n + f - 1) cB
      have hq3 := Int.emod_lt_of_pos (E - n + f - 1) (show 0 < f by omega)
      have hq4 : (E - n + f - 1) / f ≤ E - n + f - 1 := Int.ediv_le_self _ (by omega)
      generalize (E - n + f - 1) / f = c at *
      have c0 : 0 < c := by
        rcases Int.lt_or_le 0 c with z | z
        · exact z
        · have := Int.mul_le_mul_of_nonneg_left z (show 0 ≤ f by omega)
          omega
      have hsA := span_is (e := E) (n := c) (l := true) (O := O3) q (by omega) (by omega)
      have hsB := span_is (e := E) (n := c - 1) (l := true) (O := O3) q (by omega) (by omega)
      have cf : c * f = f * c := Int.mul_comm _ _
      have hsp0 : ¬ n < sp g t f E c true := by
        simp [sp]
        rw [cf]
        omega
      have hsp1 : ¬ sp g t f E (c - 1) true ≤ n := by
        simp [sp, Int.sub_mul]
        rw [cf]
        omega
      have nc : ¬ c < 0 := by omega
      refine ⟨some (.int (x + c)), ?_⟩
      have s1 : x + c - x = c := by omega
      have s2 : ¬ x + c < x := by omega
      have s3 : x < x + c := by omega
      simp [turnOf, t2, runF, sSeq, sIf, sNext, sDrop, sRet, sRetN, sAsg, ofRes, ofB, bName, bNil, bCons, bTup, bLst, bSubL, mTest, mOp, mVar, mC, mChain, mAnd, mOr, mNot, mAndV, mOrV, mNotV, mNeg, mCons, mNil, mTup, mLst, newL, mCall, mFn, arity, g1, g2, gLen, gInt, gAbs, gMax2, gMin2, gIx, seqOf, lsqOf, lstOf, Res.bind, ofO, gAdd_ok, gSub_ok, gEq_int, gNe_int, gLt_int, gLe_int, gGt_int, gGe_int, gEq_bl, gNe_bl, gEq_str, gNe_str, mIsi, mIsiT, tyD, kitL, kitTab, atI_c0, atI_c1, atI_c2, atI_c3, atI_c4, sForR1, int1, int2, mMeth, mMake, mFld, sFldM, gIs, gIsNot, isNon_t, sRaise, gList, newLO, e1, e2, e3, e4, e5, e6, nx, ha, he, hl, m1, m3, m5, m6, mw3, lm2, lm5, lwb, lww, lwu, same_int, same_bl, hif, hs, hu, s1, s2, s3, c0, nc, hsA, hsB, hsp0, hsp1, hbh, hsp, hw, hmul, hd1, hd2, hg, hdue]
def S3 (s : D) (g t f : Int) (zs : List Int) (lm : List Mk) (ws : List Ent) (a c : Nat) (i : Nat) (L : Loc) (O : Store) : Prop := ∃ x7 x8 x9 x10 x11 x12 x13 x14 x15 x16 x17 x18, L = Lw s g t f zs [x7, x8, x9, x10, x11, x12, x13, x14, x15, x16, x17, x18] ∧ Full g t f lm ws a c O ∧ Pool (3000 + 10 * i) 0 O
theorem turn3 {s : D} {g t f : Int} {zs : List Int} {lm : List Mk} {ws : List Ent} {a c i : Nat} {L : Loc} {O : Store} (hi : i < 10) (h : S3 s g t f zs lm ws a c i L O) :
    ∃ L' O', turnOf (bName 17) t3 (.int (0 + (i : Int))) L O = .next L' O' ∧ S3 s g t f zs lm ws a c (i + 1) L' O' := by
  obtain ⟨x7, x8, x9, x10, x11, x12, x13, x14, x15, x16, x17, x18, rfl, hf, hp⟩ := h
  by_cases cm : 3 < (i : Int) ∧ (i : Int) < 7
  · obtain ⟨d, O1, e1, hd, p1, r1⟩ := pick1 (ds := [.int (-1), .int (-5), .int 1000000000001, .int 1001, .bl true]) full_keep hp hf (by simp) (by simp) (by omega)
    obtain ⟨O2, e2, r2, p2⟩ := refuse (i := (i : Int)) (d := d) r1 p1 (by omega) (by omega) (fun z => by omega) (fun _ O => by
      simp at hd
      rcases hd with rfl | rfl | rfl | rfl | rfl
      · exact chk_no ⟨_, fun d O => rfl⟩ (isnum_out (by decide))
      · exact chk_no ⟨_, fun d O => rfl⟩ (isnum_out (by decide))
      · exact chk_no ⟨_, fun d O => rfl⟩ (isnum_out (by decide))
      · exact chk_no ⟨_, fun d O => rfl⟩ (isnum_out (by decide))
      · exact chk_no ⟨_, fun d O => rfl⟩ isnum_bl)
    refine ⟨Lw s g t f zs [x7, x8, x9, x10, x11, x12, x13, x14, x15, x16, some (.int i), some d], O2, ?_, _, _, _, _, _, _, _, _, _, _, _, _, rfl, r2, pmono (by omega) p2⟩
    have c1 : 3 < i := by omega
    have c2 : i < 7 := by omega
    have c3 := cm.1
    have c4 := cm.2
    simp [turnOf, t3, runF, sSeq, sIf, sNext, sDrop, sRet, sRetN, sAsg, ofRes, ofB, bName, bNil, bCons, bTup, bLst, bSubL, mTest, mOp, mVar, mC, mChain, mAnd, mOr, mNot, mIf, mAndV, mOrV, mNotV, mNeg, mCons, mNil, mTup, mLst, newL, mCall, mFn, arity, g1, g2, gLen, gInt, gAbs, gMax2, gMin2, gIx, seqOf, lsqOf, lstOf, Res.bind, ofO, gAdd_ok, gSub_ok, gEq_int, gNe_int, gLt_int, gLe_int, gGt_int, gGe_int, gEq_bl, gNe_bl, gEq_str, gNe_str, mIsi, mIsiT, tyD, kitL, kitTab, atI_c0, atI_c1, atI_c2, atI_c3, atI_c4, sForR1, int1, int2, mMeth, mMake, mFld, sFldM, gIs, gIsNot, isNon_t, sRaise, gList, newLO, c1, c2, c3, c4, e1, e2]
  · obtain ⟨d, O1, e1, hd, p1, r1⟩ := pick1 (ds := [.int (-1), .int (-5), .int 1000000000001, .int (-2), .int (-3)]) full_keep hp hf (by simp) (by simp) (by omega)
    obtain ⟨O2, e2, r2, p2⟩ := refuse (i := (i : Int)) (d := d) r1 p1 (by omega) (by omega) (fun _ O => by
      simp at hd
      rcases hd with rfl | rfl | rfl | rfl | rfl
      · exact chk_no msgL (isnum_out (by decide))
      · exact chk_no msgL (isnum_out (by decide))
      · exact chk_no msgL (isnum_out (by decide))
      · exact chk_no msgL (isnum_out (by decide))
      · exact chk_no msgL (isnum_out (by decide))) (fun z => by omega)
    refine ⟨Lw s g t f zs [x7, x8, x9, x10, x11, x12, x13, x14, x15, x16, some (.int i), some d], O2, ?_, _, _, _, _, _, _, _, _, _, _, _, _, rfl, r2, pmono (by omega) p2⟩
    by_cases c1 : 3 < (i : Int)
    · have c2 : ¬ (i : Int) < 7 := by omega
      simp [turnOf, t3, runF, sSeq, sIf, sNext, sDrop, sRet, sRetN, sAsg, ofRes, ofB, bName, bNil, bCons, bTup, bLst, bSubL, mTest, mOp, mVar, mC, mChain, mAnd, mOr, mNot, mIf, mAndV, mOrV, mNotV, mNeg, mCons, mNil, mTup, mLst, newL, mCall, mFn, arity, g1, g2, gLen, gInt, gAbs, gMax2, gMin2, gIx, seqOf, lsqOf, lstOf, Res.bind, ofO, gAdd_ok, gSub_ok, gEq_int, gNe_int, gLt_int, gLe_int, gGt_int, gGe_int, gEq_bl, gNe_bl, gEq_str, gNe_str, mIsi, mIsiT, tyD, kitL, kitTab, atI_c0, atI_c1, atI_c2, atI_c3, atI_c4, sForR1, int1, int2, mMeth, mMake, mFld, sFldM, gIs, gIsNot, isNon_t, sRaise, gList, newLO, c1, c2, e1, e2]
    · simp [turnOf, t3, runF, sSeq, sIf, sNext, sDrop, sRet, sRetN, sAsg, ofRes, ofB, bName, bNil, bCons, bTup, bLst, bSubL, mTest, mOp, mVar, mC, mChain, mAnd, mOr, mNot, mIf, mAndV, mOrV, mNotV, mNeg, mCons, mNil, mTup, mLst, newL, mCall, mFn, arity, g1, g2, gLen, gInt, gAbs, gMax2, gMin2, gIx, seqOf, lsqOf, lstOf, Res.bind, ofO, gAdd_ok, gSub_ok, gEq_int, gNe_int, gLt_int, gLe_int, gGt_int, gGe_int, gEq_bl, gNe_bl, gEq_str, gNe_str, mIsi, mIsiT, tyD, kitL, kitTab, atI_c0, atI_c1, atI_c2, atI_c3, atI_c4, sForR1, int1, int2, mMeth, mMake, mFld, sFldM, gIs, gIsNot, isNon_t, sRaise, gList, newLO, c1, e1, e2]
theorem range_at {n j : Nat} {d : D} (h : (rangeD 0 n)[j]? = some d) : j < n ∧ d = .int (0 + (j : Int)) := by
  have hl := (List.getElem?_eq_some_iff.mp h).1
  rw [rangeD_len] at hl
  unfold rangeD at h
  rw [List.getElem?_map, List.getElem?_range hl] at h
  exact ⟨hl, (Option.some.inj h).symm⟩
theorem minit_is {O : Store} (h : O.length = 2) : f_meter_init [.hdl 2, .hdl 1] (O ++ [.ins "Meter" []]) = .ok .non (O ++ [meterO 3 4, .lst [.tup [.int 0, .bl false]], .lst [.int 0]]) := by
  obtain ⟨a, b, rfl⟩ : ∃ a b, O = [a, b] := match O, h with | [a, b], _ => ⟨a, b, rfl⟩
  have put1 : ∀ d : D, putD "_warm" d [] = [(("_warm" : Str), d)] := fun d => rfl
  have put2 : ∀ d x : D, putD "_marks" d [(("_warm" : Str), x)] = [(("_warm" : Str), x), (("_marks" : Str), d)] := fun d x => rfl
  have put3 : ∀ d x y : D, putD "_extras" d [(("_warm" : Str), x), (("_marks" : Str), y)] = [(("_warm" : Str), x), (("_marks" : Str), y), (("_extras" : Str), d)] := fun d x y => rfl
  simp [f_meter_init, b_meter_init, runF, sSeq, sIf, sNext, sDrop, sRet, sRetN, sAsg, ofRes, ofB, bName, bNil, bCons, bTup, bLst, bSubL, mTest, mOp, mVar, mC, mChain, mAnd, mOr, mNot, mIf, mAndV, mOrV, mNotV, mNeg, mCons, mNil, mTup, mLst, newL, mCall, mFn, arity, g1, g2, gLen, gInt, gAbs, gMax2, gMin2, gIx, seqOf, lsqOf, lstOf, Res.bind, ofO, gAdd_ok, gSub_ok, gEq_int, gNe_int, gLt_int, gLe_int, gGt_int, gGe_int, gEq_bl, gNe_bl, gEq_str, gNe_str, mIsi, mIsiT, tyD, kitL, kitTab, atI_c0, atI_c1, atI_c2, atI_c3, atI_c4, sForR1, int1, int2, mMeth, mMake, mFld, sFldM, gIs, gIsNot, isNon_t, sRaise, gList, newLO, put1, put2, put3]
def lcM : EM := (mLcR1 false (mCons (mFn (arity 2 f_law_draw) [] (mCons (mVar 1) (mCons (mC (.int 6)) mNil))) mNil) [8] (bName 8) mYes (mFn (arity 1 f_law_wide) [] (mCons (mVar 1) mNil)))
theorem minutes_is {b : Nat} {s x : D} {g t f : Int} {O : Store} {R : Store → Prop} (k : Keep 0 R) (p : Pool b 0 O) (r : R O) (hb : b ≤ 1000) :
    ∃ (zs : List Int) (O' : Store), lcM [some s, some (.hdl 0), some (NUM g t f), some (.hdl 1), some (.hdl 2), none, none, none, none, none, none, none, none, none, none, none, none, none, none] O = .ok (.lst (zs.map .int)) O' ∧ zs.length ≤ 5 ∧ (∀ z ∈ zs, 0 ≤ z ∧ z ≤ 1000000000000) ∧ Pool (b + 100) 0 O' ∧ R O' := by
  obtain ⟨v, O1, e1, v0, v1, p1, r1⟩ := draw1 (many := 6) k p r (by omega) (by omega) (by omega)
  obtain ⟨O', ys, e, ⟨zs, hz, hz1, hz2, hz3⟩, p2, r2⟩ := lcR1_keeps (I := fun i O acc => (∃ zs : List Int, acc = zs.map .int ∧ zs.length = i ∧ i ≤ 5 ∧ ∀ z ∈ zs, 0 ≤ z ∧ z ≤ 1000000000000) ∧ Pool (b + 1 + 4 * i) 0 O ∧ R O)
    (t := (mCons (mFn (arity 2 f_law_draw) [] (mCons (mVar 1) (mCons (mC (.int 6)) mNil))) mNil)) (vs := [8]) (b := bName 8) (L := [some s, some (.hdl 0), some (NUM g t f), some (.hdl 1), some (.hdl 2), none, none, none, none, none, none, none, none, none, none, none, none, none, none]) (O := O) (O1 := O1) (j := v)
    (el := (mFn (arity 1 f_law_wide) [] (mCons (mVar 1) mNil)))
    (by simp [runF, sSeq, sIf, sNext, sDrop, sRet, sRetN, sAsg, ofRes, ofB, bName, bNil, bCons, bTup, bLst, bSubL, mTest, mOp, mVar, mC, mChain, mAnd, mOr, mNot, mIf, mAndV, mOrV, mNotV, mNeg, mCons, mNil, mTup, mLst, newL, mCall, mFn, arity, g1, g2, gLen, gInt, gAbs, gMax2, gMin2, gIx, seqOf, lsqOf, lstOf, Res.bind, ofO, gAdd_ok, gSub_ok, gEq_int, gNe_int, gLt_int, gLe_int, gGt_int, gGe_int, gEq_bl, gNe_bl, gEq_str, gNe_str, mIsi, mIsiT, tyD, kitL, kitTab, atI_c0, atI_c1, atI_c2, atI_c3, atI_c4, sForR1, int1, int2, mMeth, mMake, mFld, sFldM, gIs, gIsNot, isNon_t, sRaise, gList, newLO, e1]) v0 (by omega) ⟨⟨[], rfl, rfl, by omega, by simp⟩, p1, r1⟩ (fun i O acc ⟨⟨zs, h1, h2, h3, _⟩, _⟩ => by rw [h1, List.length_map]; omega)
    fun i O acc hi ⟨⟨zs, h1, h2, h3, h4⟩, p, l⟩ => by
      obtain ⟨w, O1, e1, w0, w1, p1, r1⟩ := wide1 k p l (by omega)
      refine ⟨[some s, some (.hdl 0), some (NUM g t f), some (.hdl 1), some (.hdl 2), none, none, none, some (.int (0 + (i : Int))), none, none, none, none, none, none, none, none, none, none], .int w, O1, rfl, by simp [runF, sSeq, sIf, sNext, sDrop, sRet, sRetN, sAsg, ofRes, ofB, bName, bNil, bCons, bTup, bLst, bSubL, mTest, mOp, mVar, mC, mChain, mAnd, mOr, mNot, mIf, mAndV, mOrV, mNotV, mNeg, mCons, mNil, mTup, mLst, newL, mCall, mFn, arity, g1, g2, gLen, gInt, gAbs, gMax2, gMin2, gIx, seqOf, lsqOf, lstOf, Res.bind, ofO, gAdd_ok, gSub_ok, gEq_int, gNe_int, gLt_int, gLe_int, gGt_int, gGe_int, gEq_bl, gNe_bl, gEq_str, gNe_str, mIsi, mIsiT, tyD, kitL, kitTab, atI_c0, atI_c1, atI_c2, atI_c3, atI_c4, sForR1, int1, int2, mMeth, mMake, mFld, sFldM, gIs, gIsNot, isNon_t, sRaise, gList, newLO, e1], ⟨zs ++ [w], by rw [h1, List.map_append]; rfl, by rw [List.length_append, h2]; rfl, by omega, fun z hz => ?_⟩, p1, r1⟩
      rcases List.mem_append.mp hz with hz | hz
      · exact h4 z hz
      · rw [List.mem_singleton.mp hz]; exact ⟨w0, w1⟩
  subst hz
  exact ⟨zs, O', e, by omega, hz3, pmono (by omega) p2, r2⟩
theorem law_holds (ns : List Int) (hl : ns.length ≤ 63) : ∃ O, f_law [.rol (ns.map D.int)] [] = .ok (.bl true) O := by
  have hp0 : Pool 0 0 [.lst (poolL ns 0 0 0 0)] := ⟨ns, 0, 0, 0, 0, rfl, by omega, by omega, by omega, by omega, by omega, by omega, by omega⟩
  have e0 : f_law_pool [.rol (ns.map D.int)] [] = .ok (.hdl 0) [.lst (poolL ns 0 0 0 0)] := by
    have h1 : ns.length ≤ 1000000 := by omega
    simp [f_law_pool, b_law_pool, runF, sSeq, sIf, sNext, sDrop, sRet, sRetN, sAsg, ofRes, ofB, bName, bNil, bCons, bTup, bLst, bSubL, mTest, mOp, mVar, mC, mChain, mAnd, mOr, mNot, mIf, mAndV, mOrV, mNotV, mNeg, mCons, mNil, mTup, mLst, newL, mCall, mFn, arity, g1, g2, gLen, gInt, gAbs, gMax2, gMin2, gIx, seqOf, lsqOf, lstOf, Res.bind, ofO, gAdd_ok, gSub_ok, gEq_int, gNe_int, gLt_int, gLe_int, gGt_int, gGe_int, gEq_bl, gNe_bl, gEq_str, gNe_str, mIsi, mIsiT, tyD, kitL, kitTab, atI_c0, atI_c1, atI_c2, atI_c3, atI_c4, sForR1, int1, int2, mMeth, mMake, mFld, sFldM, gIs, gIsNot, isNon_t, sRaise, gList, newLO, poolL, h1]
  obtain ⟨g, t, f, O1, e1, hg, ht, hf, p1, l1⟩ := numbers1 hp0 (by omega) rfl
  have q : Gtf g t f := ⟨hg, ht, hf⟩
  have e2 := winit_is (O := O1) q
  rw [l1] at e2
  have e3 := minit_is (O := O1 ++ [warmO g t f]) (by rw [List.length_append, l1]; rfl)
  obtain ⟨a0, ha0⟩ : ∃ a, O1 = [a] := match O1, l1 with | [a], _ => ⟨a, rfl⟩
  have p3 : Pool 12 0 (O1 ++ [warmO g t f] ++ [meterO 3 4, .lst [.tup [.int 0, .bl false]], .lst [.int 0]]) := by
    refine pool_at ?_ p1
    rw [ha0]
    rfl
  have k3 : Keep 0 (fun O => O[1]? = some (warmO g t f) ∧ O[2]? = some (meterO 3 4) ∧ O[3]? = some (.lst [.tup [.int 0, .bl false]]) ∧ O[4]? = some (.lst [.int 0]) ∧ O.length = 5) :=
    keep_and (keep_at (by decide)) (keep_and (keep_at (by decide)) (keep_and (keep_at (by decide)) (keep_and (keep_at (by decide)) (keep_len (m := fun n => n = 5)))))
  obtain ⟨zs0, O4, e4, hz5, hzb, p4, r4⟩ := minutes_is (s := .rol (ns.map D.int)) (x := .non) (g := g) (t := t) (f := f) k3 p3 (by rw [ha0]; exact ⟨rfl, rfl, rfl, rfl, rfl⟩) (by omega)
  have e5 := sorted_is (zs := zs0) (O := O4) (by omega)
  have hperm := List.mergeSort_perm zs0 fun a b => decide (a ≤ b)
  obtain ⟨zs, hzs⟩ : ∃ zs, sortI zs0 = zs := ⟨_, rfl⟩
  have hup : zs.Pairwise (· ≤ ·) := by
    rw [← hzs]
    exact ((List.pairwise_mergeSort (le := fun a b : Int => decide (a ≤ b)) (fun a b c h1 h2 => decide_eq_true (Int.le_trans (of_decide_eq_true h1) (of_decide_eq_true h2))) (fun a b => by
      rcases Int.le_total a b with h | h
      · simp [h]
      · simp [h]) zs0).imp fun h => of_decide_eq_true h)
  have hzb2 : ∀ z ∈ zs, 0 ≤ z ∧ z ≤ 1000000000000 := fun z hz => hzb z (hperm.mem_iff.mp (by rw [← hzs] at hz; exact hz))
  have hz52 : zs.length ≤ 5 := by rw [← hzs]; exact Nat.le_trans (Nat.le_of_eq hperm.length_eq) hz5
  rw [hzs] at e5
  obtain ⟨r41, r42, r43, r44, r45⟩ := r4
  have fu : Full g t f [] [(0, false, 0)] 3 4 (O4 ++ [.lst []]) := ⟨⟨by rw [List.getElem?_append_left (by omega)]; exact r41, by rw [List.getElem?_append_left (by omega)]; exact r42, by rw [List.getElem?_append_left (by omega)]; exact r43, by rw [List.getElem?_append_left (by omega)]; exact r44⟩,
    ⟨by simp, by simp, fun w hw => by
      obtain rfl : (0, false, 0) = w := by simpa using hw
      rfl, by simp, fun w hw => by
      obtain rfl : w = (0, false, 0) := by simpa using hw
      simp⟩, rel_nil, by rw [List.getElem?_append_right (by omega), r45]; rfl, by simp; omega, by decide, .inl ⟨rfl, rfl⟩, by simp, by simp, by simp, fun u hu => by
      obtain rfl : u = (0, false, 0) := by simpa using hu
      exact .inl rfl, fun _ => rfl⟩
  obtain ⟨v, O6, e6, v0, v1, p6, r6⟩ := draw1 (many := 2) full_keep (pool_app p4) fu (by omega) (by omega) (by omega)
  obtain ⟨L7, O7, e7, lit, x8, lm, ws, a, c, rfl, f7, p7, _, _⟩ := loopD_keeps (turn := turnOf (bName 8) t1) (I := S1 (.rol (ns.map D.int)) g t f zs 113) (rangeD 0 zs.length) 0 (Lw (.rol (ns.map D.int)) g t f zs (some (.bl (decide (v = 0))) :: none :: nn)) O6
    ⟨_, _, _, _, _, _, rfl, r6, p6, by simp, by simp⟩ fun j d L O hd h => by
      obtain ⟨hj, rfl⟩ := range_at hd
      rw [Nat.zero_add] at h ⊢
      exact turn1 q hzb2 hup hj hz52 h
  obtain ⟨L8, O8, e8, x7, x8', x9, x10, x11, x12, x13, x14, x15, x16, x17, x18, rfl, f8, p8⟩ := loopD_keeps (turn := turnOf (bName 8) t2) (I := S2 (.rol (ns.map D.int)) g t f zs lm ws a c) (rangeD 0 4) 0 (Lw (.rol (ns.map D.int)) g t f zs [some (.bl lit), x8, none, none, none, none, none, none, none, none, none, none]) O7
    ⟨_, _, _, _, _, _, _, _, _, _, _, _, rfl, f7, pmono (by omega) p7⟩ fun j d L O hd h => by
      obtain ⟨hj, rfl⟩ := range_at hd
      exact turn2 q (by omega) h
  obtain ⟨L9, O9, e9, y7, y8, y9, y10, y11, y12, y13, y14, y15, y16, y17, y18, rfl, f9, p9⟩ := loopD_keeps (turn := turnOf (bName 17) t3) (I := S3 (.rol (ns.map D.int)) g t f zs lm ws a c) (rangeD 0 10) 0 (Lw (.rol (ns.map D.int)) g t f zs [x7, x8', x9, x10, x11, x12, x13, x14, x15, x16, x17, x18]) O8
    ⟨_, _, _, _, _, _, _, _, _, _, _, _, rfl, f8, pmono (by simp [rangeD_len]) p8⟩ fun j d L O hd h => by
      obtain ⟨hj, rfl⟩ := range_at hd
      rw [Nat.zero_add] at h ⊢
      exact turn3 hj h
  refine ⟨O9, ?_⟩
  have hb : b_law = (sSeq (sAsg (mFn (arity 1 f_law_pool) [] (mCons (mVar 0) mNil)) (bName 1))
    (sSeq (sAsg (mFn (arity 1 f_law_numbers) [] (mCons (mVar 1) mNil)) (bName 2))
    (sSeq (sAsg (mMake "Warm" (arity 4 f_warm_init) [] (mCons (mOp gIx (mVar 2) (mC (.int 0))) (mCons (mOp gIx (mVar 2) (mC (.int 1))) (mCons (mOp gIx (mVar 2) (mC (.int 2))) mNil)))) (bName 3))
    (sSeq (sAsg (mMake "Meter" (arity 2 f_meter_init) [] (mCons (mVar 3) mNil)) (bName 4))
    (sSeq (sAsg (mCall (g1 (gSorted false)) (mCons lcM mNil)) (bName 5))
    (sSeq (sAsg (mLst true mNil) (bName 6))
    (sSeq (sAsg (mOp gEq (mFn (arity 2 f_law_draw) [] (mCons (mVar 1) (mCons (mC (.int 2)) mNil))) (mC (.int 0))) (bName 7))
    (sSeq (sForR1 (mCons (mCall (g1 gLen) (mCons (mVar 5) mNil)) mNil) (bName 8) t1)
    (sSeq (sForR1 (mCons (mC (.int 4)) mNil) (bName 8) t2)
    (sSeq (sForR1 (mCons (mC (.int 10)) mNil) (bName 17) t3)
    (sRet (mC (.bl true))))))))))))) := rfl
  show (match b_law [some (.rol (ns.map D.int)), none, none, none, none, none, none, none, none, none, none, none, none, none, none, none, none, none, none] [] with
    | .next _ O1 => Res.ok D.non O1
    | .ret d O1 => .ok d O1
    | .exc x _ O1 => .exc x O1
    | _ => .bad) = _
  rw [hb]
  have l2 : (O1 ++ [warmO g t f]).length = 2 := by rw [List.length_append, l1]; rfl
  have hz3 : zs.length ≤ 1000000000000 := by omega
  have i0 : atI [D.int g, D.int t, D.int f] 0 = some (.int g) := atI_c0
  simp at e3 e4
  have hz4 : (zs.length : Int) ≤ 1000000000000 := by omega
  simp only [Lw, nn] at e7 e8 e9
  simp [runF, sSeq, sIf, sNext, sDrop, sRet, sRetN, sAsg, ofRes, ofB, bName, bNil, bCons, bTup, bLst, bSubL, mTest, mOp, mVar, mC, mChain, mAnd, mOr, mNot, mIf, mAndV, mOrV, mNotV, mNeg, mCons, mNil, mTup, mLst, newL, mCall, mFn, arity, g1, g2, gLen, gInt, gAbs, gMax2, gMin2, gIx, seqOf, lsqOf, lstOf, Res.bind, ofO, gAdd_ok, gSub_ok, gEq_int, gNe_int, gLt_int, gLe_int, gGt_int, gGe_int, gEq_bl, gNe_bl, gEq_str, gNe_str, mIsi, mIsiT, tyD, kitL, kitTab, atI_c0, atI_c1, atI_c2, atI_c3, atI_c4, sForR1, int1, int2, mMeth, mMake, mFld, sFldM, gIs, gIsNot, isNon_t, sRaise, gList, newLO, e0, e1, e2, e3, e4, e5, e6, e7, e8, e9, l1, r45, hz4]
end DK.k59
end
theorem PySem.Challenge.cw_darkrise_k59_meters_far_out_holds : PySem.Challenge.rw_darkrise_k59_meters_far_out.Holds := by
  exact DK.k59.core DK.k59.law_holds
