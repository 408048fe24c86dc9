import PyProof.Rows.All
import Wide.All
import OpenK.AllK
import Wide.FinOn
import HandS.ForMost
import HandS.ForExc
import HandS.IsInst
import HandS.Wide
import HandS.CallSlots
import HandS.ExcIs
import HandS.Small
import HandS.RaiseMore
import HandS.TupAny
import HandS.SortOrd
import HandS.Flow
import HandS.Deep
import HandS.Defaults
import HandS.Text
import HandS.Iter
import HandS.Replace
import HandS.StrMore
import HandS.More
import HandS.Head0
import HandS.Head1
import HandS.Head2
import HandS.HeadEnd
import HandS.HeadHook1
import HandS.HeadHook2
import HandS.HeadHook3
import HandS.HeadHook4
import KE.IntTextLaws
import HandS.Dict
import HandS.Conv
import HandS.SortInts
import HandS.DictTup
import HandS.Rev
import PyProof.ListRange
import HandS.OwnEq
import KE.DataFind
import HandS.Strs
import HandS.TryMany
import KE.SortData
import KE.DataMinMax
import HandS.DictComp
import HandS.SetBool
import HandS.Style
import KE.DataEq
import PyProof.ExcBaseAll.ValueError
import KE.KIntText
import PyProof.Rows.StrIntSpec
import PySem.Challenge.RW_darkrise_k18_what_a_table_tells
section
set_option Elab.async false
set_option linter.all false
set_option autoImplicit false
set_option maxRecDepth 100000
set_option maxHeartbeats 4000000
/-! DKCore: values D, stores of objects, results; readings that are told by functions (mirrors). -/
namespace DK
open PySem L2

/-- a value of the mirror: lst, tup stand as they are for good; hdl n is the n-th object of the store -/
inductive D where
  | non
  | bl (b : Bool)
  | int (i : Int)
  | str (s : Str)
  | lst (xs : List D)
  | rol (xs : List D)
  | tup (xs : List D)
  | hdl (n : Nat)

inductive Ob where
  | lst (xs : List D)
  | dct (kvs : List (Key × D))
  | ins (c : Str) (fs : List (Str × D))
  | dead
  | fdc (kvs : List (Key × D))

abbrev Store := List Ob
abbrev Loc := List (Option D)

structure Exn where
  cls : Str
  fs : Option (List (Str × D)) := none

inductive Res (α : Type) where
  | ok (a : α) (O : Store)
  | exc (x : Exn) (O : Store)
  | bad

def Res.bind {α β : Type} (x : Res α) (f : α → Store → Res β) : Res β := match x with
  | .ok a O => f a O
  | .exc e O => .exc e O
  | .bad => .bad

abbrev EM := Loc → Store → Res D
abbrev TM := Loc → Store → Res Bool
abbrev AM := Loc → Store → Res (List D)
abbrev FM := List D → Store → Res D

inductive SR where
  | next (L : Loc) (O : Store)
  | ret (d : D) (O : Store)
  | brk (L : Loc) (O : Store)
  | cnt (L : Loc) (O : Store)
  | exc (x : Exn) (L : Loc) (O : Store)
  | bad
abbrev SM := Loc → Store → SR

/-- where the objects of the store stand; what else is kept -/
structure Rg where
  l : List Addr
  fr : Hp
def Rg.push (r : Rg) (p : Addr) : Rg := ⟨r.l ++ [p], r.fr⟩
/-! ### what stands for what -/
section
variable (K : PySem.W.Frag) (S : Hp) (r : Rg)
mutual
def Rp : D → V → Prop
  | .non, v => v = .non
  | .bl b, v => v = .bl b
  | .int i, v => v = .int i
  | .str s, v => v = .str s
  | .lst ds, v => ∃ a vs, v = .ref a ∧ S a = some (.lst vs) ∧ RpAll ds vs
  | .rol ds, v => ∃ a vs, v = .ref a ∧ SqL K S a vs ∧ RpAll ds vs
  | .tup ds, v => ∃ a vs, v = .ref a ∧ SqT K S a vs ∧ RpAll ds vs
  | .hdl n, v => ∃ a, v = .ref a ∧ r.l[n]? = some a
def RpAll : List D → List V → Prop
  | [], vs => vs = []
  | d :: ds, vs => ∃ v vr, vs = v :: vr ∧ Rp d v ∧ RpAll ds vr
end
def RpP {κ : Type} : List (κ × D) → List (κ × V) → Prop
  | [], ks => ks = []
  | kd :: kds, ks => ∃ v kr, ks = (kd.1, v) :: kr ∧ Rp K S r kd.2 v ∧ RpP kds kr
end

/-- the state grows -/
structure Ext (S : Hp) (r : Rg) (S' : Hp) (r' : Rg) : Prop where
  s : Same S S'
  f : r'.fr = r.fr
  r : r.l <+: r'.l
theorem Ext.refl (S : Hp) (r : Rg) : Ext S r S r := ⟨Same.refl S, rfl, List.prefix_rfl⟩
theorem Ext.trans {S S1 S2 : Hp} {r r1 r2 : Rg} (a : Ext S r S1 r1) (b : Ext S1 r1 S2 r2) : Ext S r S2 r2 := ⟨a.s.trans b.s, b.f.trans a.f, a.r.trans b.r⟩
theorem Ext.new {S : Hp} {r : Rg} {p : Addr} {o : HO} (h : S p = none) : Ext S r (upd S p o) r :=
  ⟨fun b u e => by rw [upd_ne (ne_of_none e h)]; exact e, rfl, List.prefix_rfl⟩

theorem rd_same {S S' : Hp} {a : Addr} {u : HO} (e : Same S S') (h : Rd S a u) : Rd S' a u := by
  rcases h with h | ⟨o, h⟩
  · exact .inl (e _ _ h)
  · exact .inr ⟨o, e _ _ h⟩
theorem sqL_same {K : PySem.W.Frag} {S S' : Hp} {a : Addr} {xs : List V} (e : Same S S') (h : SqL K S a xs) : SqL K S' a xs := by
  rcases h with h | h
  · exact .inl (rd_same e h)
  · exact .inr h
theorem sqT_same {K : PySem.W.Frag} {S S' : Hp} {a : Addr} {xs : List V} (e : Same S S') (h : SqT K S a xs) : SqT K S' a xs := by
  rcases h with h | h
  · exact .inl (rd_same e h)
  · exact .inr h
theorem pre_get {α : Type} {l m : List α} {n : Nat} {x : α} (p : l <+: m) (h : l[n]? = some x) : m[n]? = some x := by
  obtain ⟨t, rfl⟩ := p
  rw [List.getElem?_append_left (List.getElem?_eq_some_iff.mp h).1]
  exact h

section
variable {K : PySem.W.Frag} {S S' : Hp} {r r' : Rg}
mutual
theorem Rp.monoW (s : Same S S') (l : r.l <+: r'.l) : ∀ (d : D) (v : V), Rp K S r d v → Rp K S' r' d v
  | .non, v, h => h
  | .bl b, v, h => h
  | .int i, v, h => h
  | .str z, v, h => h
  | .lst ds, v, h => by
    obtain ⟨a, vs, q1, q2, q3⟩ := h
    exact ⟨a, vs, q1, s _ _ q2, RpAll.monoW s l ds vs q3⟩
  | .rol ds, v, h => by
    obtain ⟨a, vs, q1, q2, q3⟩ := h
    exact ⟨a, vs, q1, sqL_same s q2, RpAll.monoW s l ds vs q3⟩
  | .tup ds, v, h => by
    obtain ⟨a, vs, q1, q2, q3⟩ := h
    exact ⟨a, vs, q1, sqT_same s q2, RpAll.monoW s l ds vs q3⟩
  | .hdl n, v, h => by
    obtain ⟨a, q1, q2⟩ := h
    exact ⟨a, q1, pre_get l q2⟩
theorem RpAll.monoW (s : Same S S') (l : r.l <+: r'.l) : ∀ (ds : List D) (vs : List V), RpAll K S r ds vs → RpAll K S' r' ds vs
  | [], vs, h => h
  | d :: ds, vs, h => by
    obtain ⟨v, vr, q1, q2, q3⟩ := h
    exact ⟨v, vr, q1, Rp.monoW s l d v q2, RpAll.monoW s l ds vr q3⟩
end
theorem Rp.mono (e : Ext S r S' r') (d : D) (v : V) (h : Rp K S r d v) : Rp K S' r' d v := Rp.monoW e.s e.r d v h
theorem RpAll.mono (e : Ext S r S' r') (ds : List D) (vs : List V) (h : RpAll K S r ds vs) : RpAll K S' r' ds vs := RpAll.monoW e.s e.r ds vs h
theorem RpP.monoW {κ : Type} (s : Same S S') (l : r.l <+: r'.l) : ∀ (ds : List (κ × D)) (vs : List (κ × V)), RpP K S r ds vs → RpP K S' r' ds vs
  | [], vs, h => h
  | d :: ds, vs, h => by
    obtain ⟨v, vr, q1, q2, q3⟩ := h
    exact ⟨v, vr, q1, Rp.monoW s l d.2 v q2, RpP.monoW s l ds vr q3⟩
theorem RpP.mono {κ : Type} (e : Ext S r S' r') (ds : List (κ × D)) (vs : List (κ × V)) (h : RpP K S r ds vs) : RpP K S' r' ds vs := RpP.monoW e.s e.r ds vs h

theorem RpAll.length : ∀ {ds : List D} {vs : List V}, RpAll K S r ds vs → vs.length = ds.length
  | [], vs, h => by rw [show vs = [] from h]; rfl
  | d :: ds, vs, h => by
    obtain ⟨v, vr, rfl, _, q3⟩ := h
    rw [List.length_cons, List.length_cons, RpAll.length q3]
theorem RpAll.get : ∀ {ds : List D} {vs : List V} {i : Nat} {d : D}, RpAll K S r ds vs → ds[i]? = some d → ∃ v, vs[i]? = some v ∧ Rp K S r d v
  | [], _, i, d, _, e => by simp at e
  | x :: ds, vs, 0, d, h, e => by
    obtain ⟨v, vr, rfl, q, _⟩ := h
    obtain rfl : x = d := by simpa using e
    exact ⟨v, rfl, q⟩
  | x :: ds, vs, i + 1, d, h, e => by
    obtain ⟨v, vr, rfl, _, q⟩ := h
    exact RpAll.get (i := i) q (by simpa using e)
/-- from the other side -/
theorem RpAll.back : ∀ {ds : List D} {vs : List V} {i : Nat} {v : V}, RpAll K S r ds vs → vs[i]? = some v → ∃ d, ds[i]? = some d ∧ Rp K S r d v
  | [], vs, i, v, h, e => by
    rw [show vs = [] from h] at e
    simp at e
  | x :: ds, vs, 0, d, h, e => by
    obtain ⟨v, vr, rfl, q, _⟩ := h
    obtain rfl : v = d := by simpa using e
    exact ⟨x, rfl, q⟩
  | x :: ds, vs, i + 1, d, h, e => by
    obtain ⟨v, vr, rfl, _, q⟩ := h
    exact RpAll.back (i := i) q (by simpa using e)
theorem RpAll.append : ∀ {ds es : List D} {vs us : List V}, RpAll K S r ds vs → RpAll K S r es us → RpAll K S r (ds ++ es) (vs ++ us)
  | [], es, vs, us, h, g => by
    rw [show vs = [] from h]
    exact g
  | d :: ds, es, vs, us, h, g => by
    obtain ⟨v, vr, rfl, q, q2⟩ := h
    exact ⟨v, vr ++ us, rfl, q, q2.append g⟩
theorem RpAll.take : ∀ {ds : List D} {vs : List V} (n : Nat), RpAll K S r ds vs → RpAll K S r (ds.take n) (vs.take n)
  | ds, vs, 0, h => by
    rw [List.take_zero, List.take_zero]
    exact rfl
  | [], vs, n + 1, h => by
    rw [show vs = [] from h]
    exact rfl
  | d :: ds, vs, n + 1, h => by
    obtain ⟨v, vr, rfl, q, q2⟩ := h
    exact ⟨v, vr.take n, rfl, q, q2.take n⟩
theorem RpAll.drop : ∀ {ds : List D} {vs : List V} (n : Nat), RpAll K S r ds vs → RpAll K S r (ds.drop n) (vs.drop n)
  | ds, vs, 0, h => by
    rw [List.drop_zero, List.drop_zero]
    exact h
  | [], vs, n + 1, h => by
    rw [show vs = [] from h]
    exact rfl
  | d :: ds, vs, n + 1, h => by
    obtain ⟨v, vr, rfl, q, q2⟩ := h
    exact q2.drop n
theorem RpAll.set : ∀ {ds : List D} {vs : List V} {d : D} {v : V} (i : Nat), RpAll K S r ds vs → Rp K S r d v → RpAll K S r (ds.set i d) (vs.set i v)
  | [], vs, d, v, i, h, _ => by
    rw [show vs = [] from h]
    exact rfl
  | x :: ds, vs, d, v, 0, h, g => by
    obtain ⟨u, vr, rfl, q, q2⟩ := h
    exact ⟨v, vr, rfl, g, q2⟩
  | x :: ds, vs, d, v, i + 1, h, g => by
    obtain ⟨u, vr, rfl, q, q2⟩ := h
    exact ⟨u, vr.set i v, rfl, q, q2.set i g⟩
theorem RpAll.nil : RpAll K S r [] [] := rfl
theorem RpAll.cons {d : D} {v : V} {ds : List D} {vs : List V} (h : Rp K S r d v) (g : RpAll K S r ds vs) : RpAll K S r (d :: ds) (v :: vs) := ⟨v, vs, rfl, h, g⟩
end

/-! ### the state -/
section
variable (K : PySem.W.Frag) (ad : Str → Addr) (S : Hp) (r : Rg)
def RO (H : Hp) (a : Addr) : Ob → Prop
  | .lst ds => S a = none ∧ ∃ vs, H a = some (.lst vs) ∧ RpAll K S r ds vs
  | .dct kvs => S a = none ∧ ∃ ks, H a = some (.dK ks) ∧ RpP K S r kvs ks
  | .ins c fs => S a = none ∧ ∃ dx gs, H a = some (.ins (ad c) dx gs) ∧ RpP K S r fs gs
  | .dead => ∃ o, H a = some o
  | .fdc kvs => ∃ od ks, S a = some (.frz od (.dK ks)) ∧ H a = some (.frz od (.dK ks)) ∧ RpP K S r kvs ks
structure Rs (O : Store) (H : Hp) : Prop where
  sub : Same S H
  len : r.l.length = O.length
  nd : r.l.Nodup
  ob : ∀ (n : Nat) (a : Addr) (o : Ob), r.l[n]? = some a → O[n]? = some o → RO K ad S r H a o
  fr : Same r.fr H
  off : ∀ (a : Addr) (o : HO), r.fr a = some o → S a = none ∧ a ∉ r.l
/-- the slots -/
structure Rl (L : Loc) (σ : St) : Prop where
  len : σ.length = L.length
  at_ : ∀ (i : Nat) (d : D), L[i]? = some (some d) → ∃ v, σ[i]? = some (some v) ∧ Rp K S r d v
/-- an exception: its own dict stands for good -/
def ExR (x : Exn) (d : Option Addr) : Prop := match x.fs with
  | none => d = none
  | some fs => ∃ dd gs, d = some dd ∧ S dd = some (.xd gs) ∧ RpP K S r fs gs
end
section
variable {K : PySem.W.Frag} {ad : Str → Addr} {S S' : Hp} {r r' : Rg} {L : Loc} {σ : St} {O : Store} {H : Hp}
theorem Rl.mono (e : Ext S r S' r') (h : Rl K S r L σ) : Rl K S' r' L σ := ⟨h.len, fun i d q => by
  obtain ⟨v, q1, q2⟩ := h.at_ i d q
  exact ⟨v, q1, Rp.mono e d v q2⟩⟩
theorem RO.there {a : Addr} {o : Ob} (h : RO K ad S r H a o) : ∃ u, H a = some u := by
  cases o with
  | lst ds => obtain ⟨_, vs, q, _⟩ := h; exact ⟨_, q⟩
  | dct kvs => obtain ⟨_, vs, q, _⟩ := h; exact ⟨_, q⟩
  | ins c fs => obtain ⟨_, _, vs, q, _⟩ := h; exact ⟨_, q⟩
  | dead => exact h
  | fdc kvs => obtain ⟨od, ks, z, q, p⟩ := h; exact ⟨_, q⟩
theorem Rs.fresh (h : Rs K ad S r O H) {p : Addr} (hp : H p = none) : S p = none := h.sub.free hp
theorem Rs.notin (h : Rs K ad S r O H) {p : Addr} (hp : H p = none) : p ∉ r.l := fun hm => by
  obtain ⟨n, hn, e⟩ := List.getElem_of_mem hm
  have hO : n < O.length := by rw [← h.len]; exact hn
  obtain ⟨u, q⟩ := (h.ob n p O[n] (by rw [List.getElem?_eq_getElem hn, e]) (List.getElem?_eq_getElem hO)).there
  rw [hp] at q
  cases q
theorem RO.mono {a : Addr} {o : Ob} {H' : Hp} (e : Ext S r S' r') (k : ∀ u, H a = some u → H' a = some u) (n : S a = none → S' a = none) (h : RO K ad S r H a o) : RO K ad S' r' H' a o := by
  cases o with
  | lst ds => obtain ⟨z, vs, q, p⟩ := h; exact ⟨n z, vs, k _ q, RpAll.mono e _ _ p⟩
  | dct kvs => obtain ⟨z, vs, q, p⟩ := h; exact ⟨n z, vs, k _ q, RpP.mono e _ _ p⟩
  | ins c fs => obtain ⟨z, dx, vs, q, p⟩ := h; exact ⟨n z, dx, vs, k _ q, RpP.mono e _ _ p⟩
  | dead => obtain ⟨u, q⟩ := h; exact ⟨u, k _ q⟩
  | fdc kvs => obtain ⟨od, ks, z, q, p⟩ := h; exact ⟨od, ks, e.s _ _ z, k _ q, RpP.mono e _ _ p⟩
theorem same_upd {H' : Hp} {p : Addr} {o : HO} (h : Same H' H) (hp : H' p = none) : Same H' (upd H p o) := fun b u e => by
  rw [upd_ne (ne_of_none e hp)]
  exact h b u e
/-- a new thing that stands for good -/
theorem Rs.seal {p : Addr} {o : HO} (h : Rs K ad S r O H) (hp : H p = none) : Rs K ad (upd S p o) r O (upd H p o) where
  sub := fun b u e => by
    by_cases hb : b = p
    · rw [hb, upd_same] at e ⊢; exact e
    · rw [upd_ne hb] at e ⊢; exact h.sub b u e
  len := h.len
  nd := h.nd
  ob := fun n a ob e1 e2 => by
    have ne : a ≠ p := fun z => h.notin hp (by rw [← z]; exact List.mem_of_getElem? e1)
    exact (h.ob n a ob e1 e2).mono (Ext.new (h.fresh hp)) (fun u q => by rw [upd_ne ne]; exact q) (fun q => by rw [upd_ne ne]; exact q)
  fr := same_upd h.fr (h.fr.free hp)
  off := fun a u e => by
    have ne : a ≠ p := ne_of_none e (h.fr.free hp)
    rw [upd_ne ne]
    exact h.off a u e
/-- a thing that nobody knows -/
theorem Rs.junk {p : Addr} {o : HO} (h : Rs K ad S r O H) (hp : H p = none) : Rs K ad S r O (upd H p o) where
  sub := same_upd h.sub (h.fresh hp)
  len := h.len
  nd := h.nd
  ob := fun n a ob e1 e2 => by
    have ne : a ≠ p := fun z => h.notin hp (by rw [← z]; exact List.mem_of_getElem? e1)
    exact (h.ob n a ob e1 e2).mono (Ext.refl S r) (fun u q => by rw [upd_ne ne]; exact q) (fun q => q)
  fr := same_upd h.fr (h.fr.free hp)
  off := h.off
theorem Ext.push (S : Hp) (r : Rg) (p : Addr) : Ext S r S (r.push p) := ⟨Same.refl S, rfl, List.prefix_append r.l [p]⟩
theorem RO.grow {a p : Addr} {o : Ob} (h : RO K ad S r H a o) : RO K ad S (r.push p) H a o :=
  h.mono (Ext.push S r p) (fun _ q => q) (fun q => q)
/-- a new object of the store -/
theorem Rs.push {p : Addr} {u : HO} {o : Ob} (h : Rs K ad S r O H) (hp : H p = none) (ho : RO K ad S (r.push p) (upd H p u) p o) : Rs K ad S (r.push p) (O ++ [o]) (upd H p u) where
  sub := (h.junk (o := u) hp).sub
  len := by
    show (r.l ++ [p]).length = _
    rw [List.length_append, List.length_append, h.len]; rfl
  nd := by
    show (r.l ++ [p]).Nodup
    rw [List.nodup_append]
    refine ⟨h.nd, by simp, fun a ha b hb => ?_⟩
    obtain rfl : b = p := by simpa using hb
    exact fun z => h.notin hp (z ▸ ha)
  ob := fun n a ob e1 e2 => by
    replace e1 : (r.l ++ [p])[n]? = some a := e1
    by_cases hn : n < r.l.length
    · rw [List.getElem?_append_left hn] at e1
      rw [List.getElem?_append_left (by rw [← h.len]; exact hn)] at e2
      exact ((h.junk (o := u) hp).ob n a ob e1 e2).grow
    · have hn' : n = r.l.length := by
        have := (List.getElem?_eq_some_iff.mp e1).1
        rw [List.length_append] at this
        simp at this
        omega
      subst hn'
      rw [List.getElem?_append_right (Nat.le_refl _)] at e1
      rw [h.len, List.getElem?_append_right (Nat.le_refl _)] at e2
      simp at e1 e2
      subst e1 e2
      exact ho
  fr := same_upd h.fr (h.fr.free hp)
  off := fun a u e => ⟨(h.off a u e).1, fun hm => by
    rcases List.mem_append.mp (show a ∈ r.l ++ [p] from hm) with hm | hm
    · exact (h.off a u e).2 hm
    · obtain rfl : a = p := by simpa using hm
      replace e : r.fr a = some u := e
      rw [show r.fr a = none from h.fr.free hp] at e
      cases e⟩
theorem nd_get {l : List Addr} (h : l.Nodup) {i j : Nat} {a : Addr} (x : l[i]? = some a) (y : l[j]? = some a) : i = j := by
  obtain ⟨h1, e1⟩ := List.getElem?_eq_some_iff.mp x
  obtain ⟨h2, e2⟩ := List.getElem?_eq_some_iff.mp y
  exact (List.getElem_inj h).mp (e1.trans e2.symm)
theorem Rs.nofr (h : Rs K ad S r O H) {n : Nat} {a : Addr} (hn : r.l[n]? = some a) : r.fr a = none := by
  cases e : r.fr a with
  | none => rfl
  | some o => exact absurd (List.mem_of_getElem? hn) (h.off a o e).2
/-- an object of the store is written -/
theorem Rs.write {n : Nat} {a : Addr} {u : HO} {o : Ob} (h : Rs K ad S r O H) (hn : r.l[n]? = some a) (hz : S a = none) (ho : RO K ad S r (upd H a u) a o) : Rs K ad S r (O.set n o) (upd H a u) where
  sub := same_upd h.sub hz
  len := by rw [List.length_set]; exact h.len
  nd := h.nd
  ob := fun m b ob e1 e2 => by
    by_cases hm : m = n
    · subst hm
      rw [hn] at e1
      cases e1
      rw [List.getElem?_set_self (by rw [← h.len]; exact (List.getElem?_eq_some_iff.mp hn).1)] at e2
      cases e2
      exact ho
    · rw [List.getElem?_set_ne (Ne.symm hm)] at e2
      have ne : b ≠ a := fun z => hm (nd_get h.nd e1 (z ▸ hn))
      exact (h.ob m b ob e1 e2).mono (Ext.refl S r) (fun w q => by rw [upd_ne ne]; exact q) (fun q => q)
  fr := same_upd h.fr (h.nofr hn)
  off := h.off
/-- an object of the store is let be for good -/
theorem Rs.freeze {n : Nat} {a : Addr} {vs : List V} (h : Rs K ad S r O H) (hn : r.l[n]? = some a) (hz : S a = none) (ha : H a = some (.lst vs)) : Rs K ad (upd S a (.lst vs)) r (O.set n .dead) H where
  sub := fun b w e => by
    by_cases hb : b = a
    · rw [hb, upd_same] at e
      rw [hb, ha]; exact e
    · rw [upd_ne hb] at e; exact h.sub b w e
  len := by rw [List.length_set]; exact h.len
  nd := h.nd
  ob := fun m b ob e1 e2 => by
    by_cases hm : m = n
    · subst hm
      rw [hn] at e1
      cases e1
      rw [List.getElem?_set_self (by rw [← h.len]; exact (List.getElem?_eq_some_iff.mp hn).1)] at e2
      cases e2
      exact ⟨_, ha⟩
    · rw [List.getElem?_set_ne (Ne.symm hm)] at e2
      have ne : b ≠ a := fun z => hm (nd_get h.nd e1 (z ▸ hn))
      exact (h.ob m b ob e1 e2).mono (Ext.new hz) (fun w q => q) (fun q => by rw [upd_ne ne]; exact q)
  fr := h.fr
  off := fun b o e => ⟨by
    rw [upd_ne (ne_of_none e (h.nofr hn))]
    exact (h.off b o e).1, (h.off b o e).2⟩
def Rg.at (r : Rg) (f : Hp) : Rg := ⟨r.l, f⟩
theorem RO.at_ {a : Addr} {o : Ob} {f : Hp} (h : RO K ad S r H a o) : RO K ad S (r.at f) H a o := by
  have l : r.l <+: (r.at f).l := List.prefix_rfl
  cases o with
  | lst ds => obtain ⟨z, vs, q, p⟩ := h; exact ⟨z, vs, q, RpAll.monoW (Same.refl S) l _ _ p⟩
  | dct kvs => obtain ⟨z, vs, q, p⟩ := h; exact ⟨z, vs, q, RpP.monoW (Same.refl S) l _ _ p⟩
  | ins c fs => obtain ⟨z, dx, vs, q, p⟩ := h; exact ⟨z, dx, vs, q, RpP.monoW (Same.refl S) l _ _ p⟩
  | dead => obtain ⟨u, q⟩ := h; exact ⟨u, q⟩
  | fdc kvs => obtain ⟨od, ks, z, q, p⟩ := h; exact ⟨od, ks, z, q, RpP.monoW (Same.refl S) l _ _ p⟩
/-- a new thing is kept for a while -/
theorem Rs.hold {p : Addr} {o : HO} (h : Rs K ad S r O H) (hp : H p = none) : Rs K ad S (r.at (upd r.fr p o)) O (upd H p o) where
  sub := (h.junk (o := o) hp).sub
  len := h.len
  nd := h.nd
  ob := fun n a u e1 e2 => ((h.junk (o := o) hp).ob n a u e1 e2).at_
  fr := fun b u e => by
    replace e : upd r.fr p o b = some u := e
    by_cases hb : b = p
    · rw [hb, upd_same] at e ⊢; exact e
    · rw [upd_ne hb] at e ⊢; exact h.fr b u e
  off := fun a u e => by
    replace e : upd r.fr p o a = some u := e
    by_cases hb : a = p
    · rw [hb]; exact ⟨h.fresh hp, h.notin hp⟩
    · rw [upd_ne hb] at e; exact h.off a u e
/-- what is held changes -/
theorem Rs.rehold {p : Addr} {o u : HO} {f : Hp} (h : Rs K ad S (r.at (upd f p o)) O H) : Rs K ad S (r.at (upd f p u)) O (upd H p u) where
  sub := same_upd h.sub (h.off p o upd_same).1
  len := h.len
  nd := h.nd
  ob := fun n a w e1 e2 => by
    have ne : a ≠ p := fun z => (h.off p o upd_same).2 (z ▸ List.mem_of_getElem? e1)
    have q := h.ob n a w e1 e2
    have q1 : RO K ad S r H a w := RO.at_ (r := r.at (upd f p o)) (f := r.fr) q
    exact (q1.mono (Ext.refl S r) (fun w q => by rw [upd_ne ne]; exact q) (fun q => q)).at_
  fr := fun b w e => by
    replace e : upd f p u b = some w := e
    by_cases hb : b = p
    · rw [hb, upd_same] at e ⊢; exact e
    · rw [upd_ne hb] at e ⊢
      exact h.fr b w (by show upd f p o b = some w; rw [upd_ne hb]; exact e)
  off := fun a w e => by
    replace e : upd f p u a = some w := e
    by_cases hb : a = p
    · rw [hb]; exact h.off p o upd_same
    · rw [upd_ne hb] at e
      exact h.off a w (by show upd f p o a = some w; rw [upd_ne hb]; exact e)
/-- it is let go -/
theorem Rs.unhold {p : Addr} {o : HO} (h : Rs K ad S (r.at (upd r.fr p o)) O H) (hf : r.fr p = none) : Rs K ad S r O H ∧ H p = some o ∧ S p = none ∧ p ∉ r.l := by
  refine ⟨⟨h.sub, h.len, h.nd, fun n a w e1 e2 => RO.at_ (r := r.at (upd r.fr p o)) (f := r.fr) (h.ob n a w e1 e2), fun b w e => ?_, fun a w e => ?_⟩, h.fr p o upd_same, (h.off p o upd_same).1, (h.off p o upd_same).2⟩
  · exact h.fr b w (by show upd r.fr p o b = some w; rw [upd_ne (ne_of_none e hf)]; exact e)
  · exact h.off a w (by show upd r.fr p o a = some w; rw [upd_ne (ne_of_none e hf)]; exact e)
/-- .. sealed -/
theorem Rs.sealAt {p : Addr} {o : HO} (h : Rs K ad S r O H) (hH : H p = some o) (hS : S p = none) (hl : p ∉ r.l) (hf : r.fr p = none) : Rs K ad (upd S p o) r O H where
  sub := fun b u e => by
    by_cases hb : b = p
    · rw [hb, upd_same] at e; rw [hb, hH]; exact e
    · rw [upd_ne hb] at e; exact h.sub b u e
  len := h.len
  nd := h.nd
  ob := fun n a ob e1 e2 => by
    have ne : a ≠ p := fun z => hl (by rw [← z]; exact List.mem_of_getElem? e1)
    exact (h.ob n a ob e1 e2).mono (Ext.new hS) (fun u q => q) (fun q => by rw [upd_ne ne]; exact q)
  fr := h.fr
  off := fun a u e => ⟨by rw [upd_ne (ne_of_none e hf)]; exact (h.off a u e).1, (h.off a u e).2⟩
/-- .. put into the store -/
theorem Rs.pushAt {p : Addr} {o : Ob} (h : Rs K ad S r O H) (ho : RO K ad S (r.push p) H p o) (hl : p ∉ r.l) (hf : r.fr p = none) : Rs K ad S (r.push p) (O ++ [o]) H where
  sub := h.sub
  len := by
    show (r.l ++ [p]).length = _
    rw [List.length_append, List.length_append, h.len]; rfl
  nd := by
    show (r.l ++ [p]).Nodup
    rw [List.nodup_append]
    refine ⟨h.nd, by simp, fun a ha b hb => ?_⟩
    obtain rfl : b = p := by simpa using hb
    exact fun z => hl (z ▸ ha)
  ob := fun n a ob e1 e2 => by
    replace e1 : (r.l ++ [p])[n]? = some a := e1
    by_cases hn : n < r.l.length
    · rw [List.getElem?_append_left hn] at e1
      rw [List.getElem?_append_left (by rw [← h.len]; exact hn)] at e2
      exact (h.ob n a ob e1 e2).grow
    · have hn' : n = r.l.length := by
        have := (List.getElem?_eq_some_iff.mp e1).1
        rw [List.length_append] at this
        simp at this
        omega
      subst hn'
      rw [List.getElem?_append_right (Nat.le_refl _)] at e1
      rw [h.len, List.getElem?_append_right (Nat.le_refl _)] at e2
      simp at e1 e2
      subst e1 e2
      exact ho
  fr := h.fr
  off := fun a u e => ⟨(h.off a u e).1, fun hm => by
    rcases List.mem_append.mp (show a ∈ r.l ++ [p] from hm) with hm | hm
    · exact (h.off a u e).2 hm
    · obtain rfl : a = p := by simpa using hm
      replace e : r.fr a = some u := e
      rw [hf] at e
      cases e⟩
/-- the last object of the store is forgotten -/
theorem Rs.pop {p : Addr} {o : Ob} (h : Rs K ad S (r.push p) (O ++ [o]) H) (ho : ∀ (n : Nat) (a : Addr) (u : Ob), r.l[n]? = some a → O[n]? = some u → RO K ad S r H a u) : Rs K ad S r O H where
  sub := h.sub
  len := by
    have := h.len
    replace this : (r.l ++ [p]).length = _ := this
    rw [List.length_append, List.length_append] at this
    simpa using this
  nd := (List.nodup_append.mp (show (r.l ++ [p]).Nodup from h.nd)).1
  ob := ho
  fr := h.fr
  off := fun a u e => ⟨(h.off a u e).1, fun hm => (h.off a u e).2 (List.mem_append_left _ hm)⟩
end

/-- what else holds of the slots and of what stands for good -/
structure JP where
  p : St → Hp → Prop
  mono : ∀ {σ : St} {S S' : Hp}, Same S S' → p σ S → p σ S'
/-! ### posts -/
section
variable (K : PySem.W.Frag) (ad : Str → Addr)
def Post {α β : Type} (rep : Hp → Rg → α → β → Prop) (W : WX) (σ : St) (S : Hp) (r : Rg) (Q : β → Hp → Prop) : Res α → Prop
  | .ok a O => ∀ S' r' H v, Ext S r S' r' → Rs K ad S' r' O H → rep S' r' a v → Q v H
  | .exc x O => ∀ S' r' H d, Ext S r S' r' → Rs K ad S' r' O H → ExR K S' r' x d → W (.ref (ad x.cls)) d σ H
  | .bad => False
def tE (J : JP) (W : WX) (m : EM) : TE := fun σ H Q => ∃ S r L O, J.p σ S ∧ Rl K S r L σ ∧ Rs K ad S r O H ∧ Post K ad (fun S r => Rp K S r) W σ S r Q (m L O)
def tT (J : JP) (W : WX) (m : TM) : TT := fun σ H Q => ∃ S r L O, J.p σ S ∧ Rl K S r L σ ∧ Rs K ad S r O H ∧ Post K ad (fun _ _ a v => v = a) W σ S r Q (m L O)
def tA (J : JP) (W : WX) (m : AM) : TA := fun σ H Q => ∃ S r L O, J.p σ S ∧ Rl K S r L σ ∧ Rs K ad S r O H ∧ Post K ad (fun S r => RpAll K S r) W σ S r Q (m L O)
def PostS (J : JP) (W : WX) (S : Hp) (r : Rg) (En : Ends) : SR → Prop
  | .next L O => ∀ S' r' σ H, Ext S r S' r' → J.p σ S' → Rl K S' r' L σ → Rs K ad S' r' O H → En.nx σ H
  | .ret d O => ∀ S' r' H v, Ext S r S' r' → Rs K ad S' r' O H → Rp K S' r' d v → En.rt v H
  | .brk L O => ∀ S' r' σ H, Ext S r S' r' → J.p σ S' → Rl K S' r' L σ → Rs K ad S' r' O H → En.bk σ H
  | .cnt L O => ∀ S' r' σ H, Ext S r S' r' → J.p σ S' → Rl K S' r' L σ → Rs K ad S' r' O H → En.ct σ H
  | .exc x L O => ∀ S' r' σ H d, Ext S r S' r' → J.p σ S' → Rl K S' r' L σ → Rs K ad S' r' O H → ExR K S' r' x d → W (.ref (ad x.cls)) d σ H
  | .bad => False
def tS (J : JP) (W : WX) (m : SM) : TS := fun En σ H => ∃ S r L O, J.p σ S ∧ Rl K S r L σ ∧ Rs K ad S r O H ∧ PostS K ad J W S r En (m L O)
/-- the promise of a def that its mirror tells -/
def spM (n : Nat) (m : FM) : Sp := fun vs H Q E => ∃ S r O ds, ds.length = n ∧ Rs K ad S r O H ∧ RpAll K S r ds vs ∧ Post K ad (fun S r => Rp K S r) (fun c d _ H' => E c d H') [] S r Q (m ds O)
end
section
variable {K : PySem.W.Frag} {ad : Str → Addr} {α β γ δ : Type} {rep : Hp → Rg → α → β → Prop} {rep2 : Hp → Rg → γ → δ → Prop} {W : WX} {σ : St} {S S' : Hp} {r r' : Rg} {Q Q' : β → Hp → Prop} {x : Res α}
theorem Post.mono (e : Ext S r S' r') (h : Post K ad rep W σ S r Q x) : Post K ad rep W σ S' r' Q x := by
  cases x with
  | ok a O => exact fun S2 r2 H v e2 => h S2 r2 H v (e.trans e2)
  | exc a O => exact fun S2 r2 H v e2 => h S2 r2 H v (e.trans e2)
  | bad => exact h
theorem Post.imp (h : Post K ad rep W σ S r Q x) (k : ∀ v H, Q v H → Q' v H) : Post K ad rep W σ S r Q' x := by
  cases x with
  | ok a O => exact fun S2 r2 H v e2 s p => k _ _ (h S2 r2 H v e2 s p)
  | exc a O => exact h
  | bad => exact h
theorem Post.bind {R : δ → Hp → Prop} {f : α → Store → Res γ} (h : Post K ad rep2 W σ S r R (x.bind f)) :
    Post K ad rep W σ S r (fun v H => ∃ S' r' a O, Ext S r S' r' ∧ Rs K ad S' r' O H ∧ rep S' r' a v ∧ Post K ad rep2 W σ S' r' R (f a O)) x := by
  cases x with
  | ok a O => exact fun S2 r2 H v e2 s p => ⟨S2, r2, a, O, e2, s, p, Post.mono e2 h⟩
  | exc a O => exact h
  | bad => exact h
/-- at the end -/
theorem Post.fin {a : α} {O : Store} {H : Hp} {v : β} (h : Post K ad rep W σ S r Q (.ok a O)) (e : Ext S r S' r') (s : Rs K ad S' r' O H) (p : rep S' r' a v) : Q v H := h S' r' H v e s p
end
theorem pe_imp {X : Cx} {e : Expr} {t t' : TE} (h : PE X e t) (k : ∀ σ H Q, t' σ H Q → t σ H Q) : PE X e t' := ⟨fun pins s σ H Q I q => h.run pins s σ H Q I (k σ H Q q)⟩
theorem pt_imp {X : Cx} {e : Expr} {t t' : TT} (h : PT X e t) (k : ∀ σ H Q, t' σ H Q → t σ H Q) : PT X e t' := ⟨fun pins s σ H Q I q => h.run pins s σ H Q I (k σ H Q q)⟩
theorem pa_imp {X : Cx} {e : List Expr} {t t' : TA} (h : PA X e t) (k : ∀ σ H Q, t' σ H Q → t σ H Q) : PA X e t' := ⟨fun pos pins s σ H Q I q => h.run pos pins s σ H Q I (k σ H Q q)⟩
theorem ps_imp {X : Cx} {e : Stmt} {t t' : TS} (h : PS X e t) (k : ∀ En σ H, t' En σ H → t En σ H) : PS X e t' := ⟨fun pins s σ H En I q => h.run pins s σ H En I (k En σ H q)⟩
theorem pss_imp {X : Cx} {e : List Stmt} {t t' : TS} (h : PSs X e t) (k : ∀ En σ H, t' En σ H → t En σ H) : PSs X e t' := ⟨fun pins s σ H En I q => h.run pins s σ H En I (k En σ H q)⟩
/-- TE that gives more holds less -/
structure Mn {β : Type} (t : St → Hp → (β → Hp → Prop) → Prop) : Prop where
  mn : ∀ σ H Q Q', (∀ v H', Q v H' → Q' v H') → t σ H Q → t σ H Q'
end DK
end
section
set_option Elab.async false
set_option linter.all false
set_option autoImplicit false
set_option maxRecDepth 100000
set_option maxHeartbeats 4000000
/-! DKExp: expressions and tests, by mirrors. -/
namespace DK
open PySem L2

def ofO {α : Type} : Option (α × Store) → Res α
  | some (z, O) => .ok z O
  | none => .bad

/-! ### mirrors -/
def mVar (i : Nat) : EM := fun L O => match L[i]? with
  | some (some d) => .ok d O
  | _ => .bad
def mC (d : D) : EM := fun _ O => .ok d O
def mOp (g : Store → D → D → Option (D × Store)) (a b : EM) : EM := fun L O => (a L O).bind fun x O1 => (b L O1).bind fun y O2 => ofO (g O2 x y)
def mUn (g : Store → D → Option (D × Store)) (a : EM) : EM := fun L O => (a L O).bind fun x O1 => ofO (g O1 x)
def mChain (g g' : Store → D → D → Option (D × Store)) (a b c : EM) : EM := fun L O => (a L O).bind fun x O1 => (b L O1).bind fun y O2 => (ofO (g O2 x y)).bind fun z O3 => match z with
  | .bl true => (c L O3).bind fun w O4 => ofO (g' O4 y w)
  | .bl false => .ok (.bl false) O3
  | _ => .bad
def mTest (a : EM) : TM := fun L O => (a L O).bind fun x O1 => match x with
  | .bl b => .ok b O1
  | _ => .bad
def truD (O : Store) : D → Option Bool
  | .non => some false
  | .bl b => some b
  | .int i => some (i != 0)
  | .str s => if s.length ≤ 1000000 then some ((s.length : Int) != 0) else none
  | .lst xs => some (!xs.isEmpty)
  | .rol xs => some (!xs.isEmpty)
  | .tup xs => some (!xs.isEmpty)
  | .hdl n => match O[n]? with
    | some (.lst xs) => some (!xs.isEmpty)
    | some (.dct xs) => some (!xs.isEmpty)
    | _ => none
def mTru (a : EM) : TM := fun L O => (a L O).bind fun x O1 => match truD O1 x with
  | some b => .ok b O1
  | none => .bad
def mAnd (a b : TM) : TM := fun L O => (a L O).bind fun c O1 => if c = true then b L O1 else .ok false O1
def mOr (a b : TM) : TM := fun L O => (a L O).bind fun c O1 => if c = true then .ok true O1 else b L O1
def mNot (a : TM) : TM := fun L O => (a L O).bind fun c O1 => .ok (!c) O1
def mIf (t : TM) (a b : EM) : EM := fun L O => (t L O).bind fun c O1 => if c = true then a L O1 else b L O1
/-- and, or, not of bools, as values -/
def mAndV (a b : EM) : EM := fun L O => (a L O).bind fun c O1 => match c with
  | .bl true => b L O1
  | .bl false => .ok (.bl false) O1
  | _ => .bad
def mOrV (a b : EM) : EM := fun L O => (a L O).bind fun c O1 => match c with
  | .bl true => .ok (.bl true) O1
  | .bl false => b L O1
  | _ => .bad
def mNotV (a : EM) : EM := fun L O => (a L O).bind fun c O1 => match c with
  | .bl b => .ok (.bl (!b)) O1
  | _ => .bad
def mNil : AM := fun _ O => .ok [] O
def mCons (a : EM) (t : AM) : AM := fun L O => (a L O).bind fun x O1 => (t L O1).bind fun xs O2 => .ok (x :: xs) O2
def mTup (t : AM) : EM := fun L O => (t L O).bind fun xs O1 => if xs.length ≤ 1000000 then .ok (.tup xs) O1 else .bad
/-- a new list: for good, or one of the store -/
def newL (h : Bool) (xs : List D) (O : Store) : Res D := if xs.length ≤ 1000000 then (if h = true then .ok (.hdl O.length) (O ++ [.lst xs]) else .ok (.lst xs) O) else .bad
def mLst (h : Bool) (t : AM) : EM := fun L O => (t L O).bind fun xs O1 => newL h xs O1
def mCall (g : Store → List D → Option (D × Store)) (t : AM) : EM := fun L O => (t L O).bind fun xs O1 => ofO (g O1 xs)
def mFn (f : FM) (ds : List D) (t : AM) : EM := fun L O => (t L O).bind fun xs O1 => f (xs ++ ds) O1

/-! ### the state's lists -/
def seqOf (O : Store) : D → Option (List D)
  | .lst xs => some xs
  | .rol xs => some xs
  | .tup xs => some xs
  | .hdl n => match O[n]? with
    | some (.lst xs) => some xs
    | _ => none
  | _ => none
/-- lists that are tracked -/
def lstOf (O : Store) : D → Option (List D)
  | .lst xs => some xs
  | .hdl n => match O[n]? with
    | some (.lst xs) => some xs
    | _ => none
  | _ => none

section
variable {K : PySem.W.Frag} {ad : Str → Addr} {S : Hp} {r : Rg} {O : Store} {H : Hp} {d : D} {x : V} {xs : List D}
theorem hdl_at (s : Rs K ad S r O H) {n : Nat} {o : Ob} (p : Rp K S r (.hdl n) x) (h : O[n]? = some o) : ∃ a, x = .ref a ∧ r.l[n]? = some a ∧ RO K ad S r H a o := by
  obtain ⟨a, e, q⟩ := p
  exact ⟨a, e, q, s.ob n a o q h⟩
theorem seqOf_ok (s : Rs K ad S r O H) (p : Rp K S r d x) (h : seqOf O d = some xs) : ∃ a vs, x = .ref a ∧ (SqL K H a vs ∨ SqT K H a vs) ∧ RpAll K S r xs vs := by
  cases d with
  | lst ds =>
    obtain rfl : ds = xs := Option.some.inj h
    obtain ⟨a, vs, e, q, w⟩ := p
    exact ⟨a, vs, e, .inl (.of (s.sub _ _ q)), w⟩
  | rol ds =>
    obtain rfl : ds = xs := Option.some.inj h
    obtain ⟨a, vs, e, q, w⟩ := p
    exact ⟨a, vs, e, .inl (sqL_same s.sub q), w⟩
  | tup ds =>
    obtain rfl : ds = xs := Option.some.inj h
    obtain ⟨a, vs, e, q, w⟩ := p
    exact ⟨a, vs, e, .inr (sqT_same s.sub q), w⟩
  | hdl n =>
    have h' : (match O[n]? with | some (Ob.lst xs) => some xs | _ => none) = some xs := h
    split at h'
    · rename_i zs e
      obtain rfl : zs = xs := Option.some.inj h'
      obtain ⟨a, e1, e2, _, vs, e3, e4⟩ := hdl_at s p e
      exact ⟨a, vs, e1, .inl (.of e3), e4⟩
    · cases h'
  | non => cases h
  | bl b => cases h
  | int i => cases h
  | str z => cases h
theorem lstOf_ok (s : Rs K ad S r O H) (p : Rp K S r d x) (h : lstOf O d = some xs) : ∃ a vs, x = .ref a ∧ H a = some (.lst vs) ∧ RpAll K S r xs vs := by
  cases d with
  | lst ds =>
    obtain rfl : ds = xs := Option.some.inj h
    obtain ⟨a, vs, e, q, w⟩ := p
    exact ⟨a, vs, e, s.sub _ _ q, w⟩
  | hdl n =>
    have h' : (match O[n]? with | some (Ob.lst xs) => some xs | _ => none) = some xs := h
    split at h'
    · rename_i zs e
      obtain rfl : zs = xs := Option.some.inj h'
      obtain ⟨a, e1, e2, _, vs, e3, e4⟩ := hdl_at s p e
      exact ⟨a, vs, e1, e3, e4⟩
    · cases h'
  | rol ds => cases h
  | tup ds => cases h
  | non => cases h
  | bl b => cases h
  | int i => cases h
  | str z => cases h
theorem million {n : Nat} (h : n ≤ 1000000) : n ≤ sizeLine := Nat.le_trans h (by decide)
theorem million_lt {n : Nat} (h : n ≤ 1000000) : n < sizeLine := Nat.lt_of_le_of_lt h (by decide)
/-- a new list comes -/
theorem newL_post {W : WX} {σ : L2.St} {hm : Bool} {Q : VK} {vs : List V} (s : Rs K ad S r O H) (p : RpAll K S r xs vs) (q : Post K ad (fun S r => Rp K S r) W σ S r Q (newL hm xs O)) : vs.length ≤ sizeLine ∧ ∀ l, H l = none → Q (.ref l) (upd H l (.lst vs)) := by
  unfold newL at q
  split at q
  · rename_i hl
    refine ⟨by rw [p.length]; exact million hl, fun l hn => ?_⟩
    cases hm with
    | true =>
      rw [if_pos rfl] at q
      refine q S (r.push l) _ _ (Ext.push S r l) (s.push hn ⟨s.fresh hn, vs, upd_same, RpAll.mono (Ext.push S r l) _ _ p⟩) ⟨l, rfl, ?_⟩
      show (r.l ++ [l])[O.length]? = some l
      rw [← s.len, List.getElem?_append_right (Nat.le_refl _)]
      simp
    | false =>
      rw [if_neg Bool.false_ne_true] at q
      exact q _ r _ _ (Ext.new (s.fresh hn)) (s.seal hn) ⟨l, vs, rfl, upd_same, RpAll.mono (Ext.new (s.fresh hn)) _ _ p⟩
  · exact q.elim
/-- a new tuple comes -/
theorem newT_post {W : WX} {σ : L2.St} {Q : VK} {vs : List V} (s : Rs K ad S r O H) (p : RpAll K S r xs vs) (q : Post K ad (fun S r => Rp K S r) W σ S r Q (.ok (.tup xs) O)) : ∀ l, H l = none → Q (.ref l) (upd H l (.tup vs)) := fun l hn =>
  q _ r _ _ (Ext.new (s.fresh hn)) (s.seal hn) ⟨l, vs, rfl, .of upd_same, RpAll.mono (Ext.new (s.fresh hn)) _ _ p⟩
end

/-! ### operators by values -/
structure OpD (X : Cx) (ad : Str → Addr) (f : Value → Value → Sem Value) (g : Store → D → D → Option (D × Store)) : Prop where
  ok : ∃ rr, OpR X f rr ∧ ∀ (S : Hp) (r : Rg) (O : Store) (H : Hp) (x y : V) (d e : D) (W : WX) (σ : L2.St) (Q : VK), Rs X.K ad S r O H → Rp X.K S r d x → Rp X.K S r e y →
    Post X.K ad (fun S r => Rp X.K S r) W σ S r Q (ofO (g O d e)) → rr x y H Q
structure UnD (X : Cx) (ad : Str → Addr) (f : Value → Sem Value) (g : Store → D → Option (D × Store)) : Prop where
  ok : ∃ rr, UnR X f rr ∧ ∀ (S : Hp) (r : Rg) (O : Store) (H : Hp) (x : V) (d : D) (W : WX) (σ : L2.St) (Q : VK), Rs X.K ad S r O H → Rp X.K S r d x →
    Post X.K ad (fun S r => Rp X.K S r) W σ S r Q (ofO (g O d)) → rr x H Q
structure CallD (X : Cx) (ad : Str → Addr) (f : Value) (g : Store → List D → Option (D × Store)) : Prop where
  ok : ∃ rr, CallR X f rr ∧ ∀ (S : Hp) (r : Rg) (O : Store) (H : Hp) (vs : List V) (ds : List D) (W : WX) (σ : L2.St) (Q : VK), Rs X.K ad S r O H → RpAll X.K S r ds vs →
    Post X.K ad (fun S r => Rp X.K S r) W σ S r Q (ofO (g O ds)) → rr vs H Q

section
variable {X : Cx} {ad : Str → Addr} {J : JP} {W : WX} {pos : Pos} {a b c e : Expr} {es : List Expr} {ma mb mc : EM} {ta tb : TM} {mt : AM} {op op' : CmpOp} {bop : Operator}
  {g g' : Store → D → D → Option (D × Store)}
theorem de_var {x : Str} {i : Nat} (h : PE X (.Name x pos) (tVar i)) : PE X (.Name x pos) (tE X.K ad J W (mVar i)) := by
  refine pe_imp h ?_
  rintro σ H Q ⟨S, r, L, O, j, rl, rs, p⟩
  unfold mVar at p
  split at p
  · rename_i d q
    obtain ⟨v, q1, q2⟩ := rl.at_ i d q
    exact ⟨v, q1, p S r H v (Ext.refl S r) rs q2⟩
  · exact p.elim
theorem de_c {v : V} {d : D} (h : PE X e (tC v)) (k : ∀ S r, Rp X.K S r d v) : PE X e (tE X.K ad J W (mC d)) := by
  refine pe_imp h ?_
  rintro σ H Q ⟨S, r, L, O, j, rl, rs, p⟩
  exact p S r H v (Ext.refl S r) rs (k S r)
theorem de_int {i : Int} {j : Nat} : PE X (.Constant (.int i) j pos) (tE X.K ad J W (mC (.int i))) := de_c pe_int fun _ _ => rfl
theorem de_bl {i : Bool} {j : Nat} : PE X (.Constant (.bool i) j pos) (tE X.K ad J W (mC (.bl i))) := de_c pe_bl fun _ _ => rfl
theorem de_str {i : Str} {j : Nat} : PE X (.Constant (.str i) j pos) (tE X.K ad J W (mC (.str i))) := de_c pe_str fun _ _ => rfl
theorem de_non {j : Nat} : PE X (.Constant .none j pos) (tE X.K ad J W (mC .non)) := de_c pe_non fun _ _ => rfl
theorem de_op (ho : OpD X ad (binaryOp bop) g) (ha : PE X a (tE X.K ad J W ma)) (hb : PE X b (tE X.K ad J W mb)) : PE X (.BinOp a bop b pos) (tE X.K ad J W (mOp g ma mb)) := by
  obtain ⟨rr, h1, h2⟩ := ho.ok
  refine pe_imp (pe_op h1 ha hb) ?_
  rintro σ H Q ⟨S, r, L, O, j, rl, rs, p⟩
  refine ⟨S, r, L, O, j, rl, rs, (Post.bind p).imp ?_⟩
  rintro x H1 ⟨S1, r1, d, O1, e1, s1, p1, q1⟩
  refine ⟨S1, r1, L, O1, J.mono e1.s j, rl.mono e1, s1, (Post.bind q1).imp ?_⟩
  rintro y H2 ⟨S2, r2, e, O2, e2, s2, p2, q2⟩
  exact h2 S2 r2 O2 H2 x y d e W σ Q s2 (Rp.mono e2 d x p1) p2 q2
theorem de_cmp (ho : OpD X ad (compareOp op) g) (ha : PE X a (tE X.K ad J W ma)) (hb : PE X b (tE X.K ad J W mb)) (hm : behindInMarks op b = false) : PE X (.Compare a [op] [b] pos) (tE X.K ad J W (mOp g ma mb)) := by
  obtain ⟨rr, h1, h2⟩ := ho.ok
  refine pe_imp (pe_cmpR h1 ha hb hm) ?_
  rintro σ H Q ⟨S, r, L, O, j, rl, rs, p⟩
  refine ⟨S, r, L, O, j, rl, rs, (Post.bind p).imp ?_⟩
  rintro x H1 ⟨S1, r1, d, O1, e1, s1, p1, q1⟩
  refine ⟨S1, r1, L, O1, J.mono e1.s j, rl.mono e1, s1, (Post.bind q1).imp ?_⟩
  rintro y H2 ⟨S2, r2, e, O2, e2, s2, p2, q2⟩
  exact h2 S2 r2 O2 H2 x y d e W σ Q s2 (Rp.mono e2 d x p1) p2 q2
theorem test_imp {t : TE} {m : EM} (h : ∀ σ H Q, tE X.K ad J W m σ H Q → t σ H Q) : ∀ σ H Q, tT X.K ad J W (mTest m) σ H Q → tTest t σ H Q := by
  rintro σ H Q ⟨S, r, L, O, j, rl, rs, p⟩
  refine h σ H _ ⟨S, r, L, O, j, rl, rs, (Post.bind p).imp ?_⟩
  rintro x H1 ⟨S1, r1, d, O1, e1, s1, p1, q1⟩
  cases d with
  | bl b => exact ⟨b, p1, q1 S1 r1 H1 b (Ext.refl _ _) s1 rfl⟩
  | non => exact q1.elim
  | int i => exact q1.elim
  | str s => exact q1.elim
  | lst s => exact q1.elim
  | rol s => exact q1.elim
  | tup s => exact q1.elim
  | hdl s => exact q1.elim
theorem dt_cmp (ho : OpD X ad (compareOp op) g) (ha : PE X a (tE X.K ad J W ma)) (hb : PE X b (tE X.K ad J W mb)) (hm : behindInMarks op b = false) : PT X (.Compare a [op] [b] pos) (tT X.K ad J W (mTest (mOp g ma mb))) := by
  obtain ⟨rr, h1, h2⟩ := ho.ok
  refine pt_imp (pt_cmpR h1 ha hb hm) (test_imp ?_)
  rintro σ H Q ⟨S, r, L, O, j, rl, rs, p⟩
  refine ⟨S, r, L, O, j, rl, rs, (Post.bind p).imp ?_⟩
  rintro x H1 ⟨S1, r1, d, O1, e1, s1, p1, q1⟩
  refine ⟨S1, r1, L, O1, J.mono e1.s j, rl.mono e1, s1, (Post.bind q1).imp ?_⟩
  rintro y H2 ⟨S2, r2, e, O2, e2, s2, p2, q2⟩
  exact h2 S2 r2 O2 H2 x y d e W σ Q s2 (Rp.mono e2 d x p1) p2 q2
theorem chain_imp {rr rr' : R2} (h2 : ∀ (S : Hp) (r : Rg) (O : Store) (H : Hp) (x y : V) (d e : D) (W : WX) (σ : L2.St) (Q : VK), Rs X.K ad S r O H → Rp X.K S r d x → Rp X.K S r e y → Post X.K ad (fun S r => Rp X.K S r) W σ S r Q (ofO (g O d e)) → rr x y H Q)
    (h3 : ∀ (S : Hp) (r : Rg) (O : Store) (H : Hp) (x y : V) (d e : D) (W : WX) (σ : L2.St) (Q : VK), Rs X.K ad S r O H → Rp X.K S r d x → Rp X.K S r e y → Post X.K ad (fun S r => Rp X.K S r) W σ S r Q (ofO (g' O d e)) → rr' x y H Q) :
    ∀ σ H Q, tE X.K ad J W (mChain g g' ma mb mc) σ H Q → tChain rr rr' (tE X.K ad J W ma) (tE X.K ad J W mb) (tE X.K ad J W mc) σ H Q := by
  rintro σ H Q ⟨S, r, L, O, j, rl, rs, p⟩
  refine ⟨S, r, L, O, j, rl, rs, (Post.bind p).imp ?_⟩
  rintro x H1 ⟨S1, r1, d, O1, e1, s1, p1, q1⟩
  refine ⟨S1, r1, L, O1, J.mono e1.s j, rl.mono e1, s1, (Post.bind q1).imp ?_⟩
  rintro y H2 ⟨S2, r2, e, O2, e2, s2, p2, q2⟩
  refine h2 S2 r2 O2 H2 x y d e W σ _ s2 (Rp.mono e2 d x p1) p2 ((Post.bind q2).imp ?_)
  rintro z H3 ⟨S3, r3, f, O3, e3, s3, p3, q3⟩
  cases f with
  | bl k =>
    refine ⟨k, p3, ?_⟩
    cases k with
    | true =>
      rw [if_pos rfl]
      refine ⟨S3, r3, L, O3, J.mono (e1.trans (e2.trans e3)).s j, rl.mono (e1.trans (e2.trans e3)), s3, (Post.bind q3).imp ?_⟩
      rintro w H4 ⟨S4, r4, f, O4, e4, s4, p4, q4⟩
      exact h3 S4 r4 O4 H4 y w e f W σ Q s4 (Rp.mono (e3.trans e4) e y p2) p4 q4
    | false =>
      rw [if_neg Bool.false_ne_true]
      exact q3 S3 r3 H3 _ (Ext.refl _ _) s3 rfl
  | non => exact q3.elim
  | int i => exact q3.elim
  | str s => exact q3.elim
  | lst s => exact q3.elim
  | rol s => exact q3.elim
  | tup s => exact q3.elim
  | hdl s => exact q3.elim
theorem de_chain (ho : OpD X ad (compareOp op) g) (ho' : OpD X ad (compareOp op') g') (ha : PE X a (tE X.K ad J W ma)) (hb : PE X b (tE X.K ad J W mb)) (hc : PE X c (tE X.K ad J W mc)) (hm : lastMarks [op, op'] [b, c] = false := by rfl) : PE X (.Compare a [op, op'] [b, c] pos) (tE X.K ad J W (mChain g g' ma mb mc)) := by
  obtain ⟨rr, h1, h2⟩ := ho.ok
  obtain ⟨rr', h1', h2'⟩ := ho'.ok
  exact pe_imp (pe_chain h1 h1' ha hb hc hm) (chain_imp h2 h2')
theorem dt_chain (ho : OpD X ad (compareOp op) g) (ho' : OpD X ad (compareOp op') g') (ha : PE X a (tE X.K ad J W ma)) (hb : PE X b (tE X.K ad J W mb)) (hc : PE X c (tE X.K ad J W mc)) (hm : lastMarks [op, op'] [b, c] = false := by rfl) : PT X (.Compare a [op, op'] [b, c] pos) (tT X.K ad J W (mTest (mChain g g' ma mb mc))) := by
  obtain ⟨rr, h1, h2⟩ := ho.ok
  obtain ⟨rr', h1', h2'⟩ := ho'.ok
  exact pt_imp (pt_chain h1 h1' ha hb hc hm) (test_imp (chain_imp h2 h2'))
theorem dt_val (h : PE X e (tE X.K ad J W ma)) (he : ∀ whole, isTrue e X.env whole = (do let v ← whole; standAt e.pos; holding [v] (truthy v)) := by intro _; rfl) : PT X e (tT X.K ad J W (mTest ma)) := by
  refine pt_imp (pt_val h he) ?_
  intro σ H Q q
  exact test_imp (J := J) (W := W) (fun _ _ _ z => z) σ H Q q
theorem dt_truth (h : PE X e (tE X.K ad J W ma)) (he : ∀ whole, isTrue e X.env whole = (do let v ← whole; standAt e.pos; holding [v] (truthy v)) := by intro _; rfl) : PT X e (tT X.K ad J W (mTru ma)) := by
  refine pt_imp (pt_truth h he) ?_
  rintro σ H Q ⟨S, r, L, O, j, rl, rs, p⟩
  refine ⟨S, r, L, O, j, rl, rs, (Post.bind p).imp ?_⟩
  rintro x H1 ⟨S1, r1, d, O1, e1, s1, p1, q1⟩
  have emp : ∀ {ds : List D} {vs : List V}, RpAll X.K S1 r1 ds vs → (!ds.isEmpty) = !vs.isEmpty := fun {ds vs} h => by
    cases ds with
    | nil => rw [show vs = [] from h]; rfl
    | cons d ds => obtain ⟨v, vr, rfl, _⟩ := h; rfl
  have empP : ∀ {ds : List (Key × D)} {vs : List (Key × V)}, RpP X.K S1 r1 ds vs → (!ds.isEmpty) = !vs.isEmpty := fun {ds vs} h => by
    cases ds with
    | nil => rw [show vs = [] from h]; rfl
    | cons d ds => obtain ⟨v, vr, rfl, _⟩ := h; rfl
  cases hd : truD O1 d with
  | none => rw [hd] at q1; exact q1.elim
  | some k =>
    rw [hd] at q1
    refine ⟨k, ?_, q1 S1 r1 H1 k (Ext.refl _ _) s1 rfl⟩
    cases d with
    | non => rw [show x = .non from p1]; exact (Option.some.inj hd).symm
    | bl b => rw [show x = .bl b from p1]; exact (Option.some.inj hd).symm
    | int i => rw [show x = .int i from p1]; exact (Option.some.inj hd).symm
    | str s =>
      rw [show x = .str s from p1]
      have hd' : (if s.length ≤ 1000000 then some ((s.length : Int) != 0) else none) = some k := hd
      split at hd'
      · rename_i hl
        exact ⟨million hl, (Option.some.inj hd').symm⟩
      · cases hd'
    | lst s =>
      obtain ⟨a, vs, rfl, q, w⟩ := p1
      exact .inl ⟨vs, .of (s1.sub _ _ q), by rw [← emp w]; exact (Option.some.inj hd).symm⟩
    | rol s =>
      obtain ⟨a, vs, rfl, q, w⟩ := p1
      exact .inl ⟨vs, sqL_same s1.sub q, by rw [← emp w]; exact (Option.some.inj hd).symm⟩
    | tup s =>
      obtain ⟨a, vs, rfl, q, w⟩ := p1
      exact .inr (.inl ⟨vs, sqT_same s1.sub q, by rw [← emp w]; exact (Option.some.inj hd).symm⟩)
    | hdl n =>
      have hd' : (match O1[n]? with | some (Ob.lst xs) => some (!xs.isEmpty) | some (Ob.dct xs) => some (!xs.isEmpty) | _ => none) = some k := hd
      split at hd'
      · rename_i zs e
        obtain ⟨a, rfl, e2, _, vs, e3, e4⟩ := hdl_at s1 p1 e
        exact .inl ⟨vs, .of e3, by rw [← emp e4]; exact (Option.some.inj hd').symm⟩
      · rename_i zs e
        obtain ⟨a, rfl, e2, _, vs, e3, e4⟩ := hdl_at s1 p1 e
        exact .inr (.inr ⟨vs, e3, by rw [← empP e4]; exact (Option.some.inj hd').symm⟩)
      · cases hd'
theorem PW.imp' {t t' : TT} (h : PW X e t) (k : ∀ σ H Q, t' σ H Q → t σ H Q) : PW X e t' := ⟨fun wh pins s σ H Q I q => h.run wh pins s σ H Q I (k σ H Q q)⟩
theorem and_imp : ∀ σ H Q, tT X.K ad J W (mAnd ta tb) σ H Q → tAnd (tT X.K ad J W ta) (tT X.K ad J W tb) σ H Q := by
  rintro σ H Q ⟨S, r, L, O, j, rl, rs, p⟩
  refine ⟨S, r, L, O, j, rl, rs, (Post.bind p).imp ?_⟩
  rintro k H1 ⟨S1, r1, d, O1, e1, s1, rfl, q1⟩
  cases k with
  | true =>
    rw [if_pos rfl] at q1 ⊢
    exact ⟨S1, r1, L, O1, J.mono e1.s j, rl.mono e1, s1, q1⟩
  | false =>
    rw [if_neg Bool.false_ne_true] at q1 ⊢
    exact q1 S1 r1 H1 false (Ext.refl _ _) s1 rfl
theorem or_imp : ∀ σ H Q, tT X.K ad J W (mOr ta tb) σ H Q → tOr (tT X.K ad J W ta) (tT X.K ad J W tb) σ H Q := by
  rintro σ H Q ⟨S, r, L, O, j, rl, rs, p⟩
  refine ⟨S, r, L, O, j, rl, rs, (Post.bind p).imp ?_⟩
  rintro k H1 ⟨S1, r1, d, O1, e1, s1, rfl, q1⟩
  cases k with
  | false =>
    rw [if_neg Bool.false_ne_true] at q1 ⊢
    exact ⟨S1, r1, L, O1, J.mono e1.s j, rl.mono e1, s1, q1⟩
  | true =>
    rw [if_pos rfl] at q1 ⊢
    exact q1 S1 r1 H1 true (Ext.refl _ _) s1 rfl
theorem dw_and1 (ha : PT X a (tT X.K ad J W ta)) : PW X (.BoolOp .And [a] pos) (tT X.K ad J W ta) := pw_and1 ha
theorem dw_or1 (ha : PT X a (tT X.K ad J W ta)) : PW X (.BoolOp .Or [a] pos) (tT X.K ad J W ta) := pw_or1 ha
theorem dw_and (ha : PT X a (tT X.K ad J W ta)) (hb : PW X (.BoolOp .And (b :: es) pos) (tT X.K ad J W tb)) : PW X (.BoolOp .And (a :: b :: es) pos) (tT X.K ad J W (mAnd ta tb)) := PW.imp' (pw_and ha hb) and_imp
theorem dw_or (ha : PT X a (tT X.K ad J W ta)) (hb : PW X (.BoolOp .Or (b :: es) pos) (tT X.K ad J W tb)) : PW X (.BoolOp .Or (a :: b :: es) pos) (tT X.K ad J W (mOr ta tb)) := PW.imp' (pw_or ha hb) or_imp
theorem dt_not (ha : PT X a (tT X.K ad J W ta)) : PT X (.UnaryOp .Not a pos) (tT X.K ad J W (mNot ta)) := by
  refine pt_imp (pt_not ha) ?_
  rintro σ H Q ⟨S, r, L, O, j, rl, rs, p⟩
  refine ⟨S, r, L, O, j, rl, rs, (Post.bind p).imp ?_⟩
  rintro k H1 ⟨S1, r1, d, O1, e1, s1, rfl, q1⟩
  exact q1 S1 r1 H1 _ (Ext.refl _ _) s1 rfl
theorem de_if (hc : PT X c (tT X.K ad J W ta)) (ha : PE X a (tE X.K ad J W ma)) (hb : PE X b (tE X.K ad J W mb)) : PE X (.IfExp c a b pos) (tE X.K ad J W (mIf ta ma mb)) := by
  refine pe_imp (pe_ifExp hc ha hb) ?_
  rintro σ H Q ⟨S, r, L, O, j, rl, rs, p⟩
  refine ⟨S, r, L, O, j, rl, rs, (Post.bind p).imp ?_⟩
  rintro k H1 ⟨S1, r1, d, O1, e1, s1, rfl, q1⟩
  cases k with
  | false =>
    rw [if_neg Bool.false_ne_true] at q1 ⊢
    exact ⟨S1, r1, L, O1, J.mono e1.s j, rl.mono e1, s1, q1⟩
  | true =>
    rw [if_pos rfl] at q1 ⊢
    exact ⟨S1, r1, L, O1, J.mono e1.s j, rl.mono e1, s1, q1⟩
theorem de_and1 (ha : PE X a (tE X.K ad J W ma)) {bo : BoolOp} : PE X (.BoolOp bo [a] pos) (tE X.K ad J W ma) := pe_one ha
theorem de_and (ha : PE X a (tE X.K ad J W ma)) (hb : PE X (.BoolOp .And (b :: es) pos) (tE X.K ad J W mb)) : PE X (.BoolOp .And (a :: b :: es) pos) (tE X.K ad J W (mAndV ma mb)) := by
  refine pe_imp (pe_and ha hb) ?_
  rintro σ H Q ⟨S, r, L, O, j, rl, rs, p⟩
  refine ⟨S, r, L, O, j, rl, rs, (Post.bind p).imp ?_⟩
  rintro x H1 ⟨S1, r1, d, O1, e1, s1, p1, q1⟩
  cases d with
  | bl k =>
    refine ⟨k, p1, ?_⟩
    cases k with
    | true =>
      rw [if_pos rfl]
      exact ⟨S1, r1, L, O1, J.mono e1.s j, rl.mono e1, s1, q1⟩
    | false =>
      rw [if_neg Bool.false_ne_true]
      exact q1 S1 r1 H1 _ (Ext.refl _ _) s1 rfl
  | non => exact q1.elim
  | int i => exact q1.elim
  | str s => exact q1.elim
  | lst s => exact q1.elim
  | rol s => exact q1.elim
  | tup s => exact q1.elim
  | hdl s => exact q1.elim
theorem de_or (ha : PE X a (tE X.K ad J W ma)) (hb : PE X (.BoolOp .Or (b :: es) pos) (tE X.K ad J W mb)) : PE X (.BoolOp .Or (a :: b :: es) pos) (tE X.K ad J W (mOrV ma mb)) := by
  refine pe_imp (pe_or ha hb) ?_
  rintro σ H Q ⟨S, r, L, O, j, rl, rs, p⟩
  refine ⟨S, r, L, O, j, rl, rs, (Post.bind p).imp ?_⟩
  rintro x H1 ⟨S1, r1, d, O1, e1, s1, p1, q1⟩
  cases d with
  | bl k =>
    refine ⟨k, p1, ?_⟩
    cases k with
    | false =>
      rw [if_neg Bool.false_ne_true]
      exact ⟨S1, r1, L, O1, J.mono e1.s j, rl.mono e1, s1, q1⟩
    | true =>
      rw [if_pos rfl]
      exact q1 S1 r1 H1 _ (Ext.refl _ _) s1 rfl
  | non => exact q1.elim
  | int i => exact q1.elim
  | str s => exact q1.elim
  | lst s => exact q1.elim
  | rol s => exact q1.elim
  | tup s => exact q1.elim
  | hdl s => exact q1.elim
theorem de_not (ha : PE X a (tE X.K ad J W ma)) : PE X (.UnaryOp .Not a pos) (tE X.K ad J W (mNotV ma)) := by
  refine pe_imp (pe_not ha) ?_
  rintro σ H Q ⟨S, r, L, O, j, rl, rs, p⟩
  refine ⟨S, r, L, O, j, rl, rs, (Post.bind p).imp ?_⟩
  rintro x H1 ⟨S1, r1, d, O1, e1, s1, p1, q1⟩
  cases d with
  | bl k => exact ⟨k, p1, q1 S1 r1 H1 _ (Ext.refl _ _) s1 rfl⟩
  | non => exact q1.elim
  | int i => exact q1.elim
  | str s => exact q1.elim
  | lst s => exact q1.elim
  | rol s => exact q1.elim
  | tup s => exact q1.elim
  | hdl s => exact q1.elim
theorem de_un {uop : UnaryOp} {gu : Store → D → Option (D × Store)} (ho : UnD X ad (unaryOp uop) gu) (ha : PE X a (tE X.K ad J W ma)) (hne : PE X (.UnaryOp uop a pos) (tUn (Classical.choose ho.ok) (tE X.K ad J W ma))) : PE X (.UnaryOp uop a pos) (tE X.K ad J W (mUn gu ma)) := by
  have h2 := (Classical.choose_spec ho.ok).2
  refine pe_imp hne ?_
  rintro σ H Q ⟨S, r, L, O, j, rl, rs, p⟩
  refine ⟨S, r, L, O, j, rl, rs, (Post.bind p).imp ?_⟩
  rintro x H1 ⟨S1, r1, d, O1, e1, s1, p1, q1⟩
  exact h2 S1 r1 O1 H1 x d W σ Q s1 p1 q1
theorem da_nil : PA X [] (tA X.K ad J W mNil) := by
  refine pa_imp pa_nil ?_
  rintro σ H Q ⟨S, r, L, O, j, rl, rs, p⟩
  exact p S r H [] (Ext.refl _ _) rs rfl
theorem da_cons (he : PE X e (tE X.K ad J W ma)) (ht : PA X es (tA X.K ad J W mt)) (hs : starEach (e :: es) X.env = (false, eval e X.env) :: starEach es X.env := by rfl) : PA X (e :: es) (tA X.K ad J W (mCons ma mt)) := by
  refine pa_imp (pa_cons he ht hs) ?_
  rintro σ H Q ⟨S, r, L, O, j, rl, rs, p⟩
  refine ⟨S, r, L, O, j, rl, rs, (Post.bind p).imp ?_⟩
  rintro x H1 ⟨S1, r1, d, O1, e1, s1, p1, q1⟩
  refine ⟨S1, r1, L, O1, J.mono e1.s j, rl.mono e1, s1, (Post.bind q1).imp ?_⟩
  rintro xs H2 ⟨S2, r2, ds, O2, e2, s2, p2, q2⟩
  exact q2 S2 r2 H2 _ (Ext.refl _ _) s2 (.cons (Rp.mono e2 d x p1) p2)
theorem de_tup {k : Nat} (h : PA X es (tA X.K ad J W mt)) : PE X (.Tuple es k pos) (tE X.K ad J W (mTup mt)) := by
  refine pe_imp (pe_tup h) ?_
  rintro σ H Q ⟨S, r, L, O, j, rl, rs, p⟩
  refine ⟨S, r, L, O, j, rl, rs, (Post.bind p).imp ?_⟩
  rintro xs H1 ⟨S1, r1, ds, O1, e1, s1, p1, q1⟩
  have q1 : Post X.K ad (fun S r => Rp X.K S r) W σ S1 r1 Q (if ds.length ≤ 1000000 then .ok (.tup ds) O1 else .bad) := q1
  split at q1
  · rename_i hl
    exact ⟨by rw [p1.length]; exact million hl, newT_post s1 p1 q1⟩
  · exact q1.elim
theorem de_lst {hm : Bool} (h : PA X es (tA X.K ad J W mt)) : PE X (.List es pos) (tE X.K ad J W (mLst hm mt)) := by
  refine pe_imp (pe_lst h) ?_
  rintro σ H Q ⟨S, r, L, O, j, rl, rs, p⟩
  refine ⟨S, r, L, O, j, rl, rs, (Post.bind p).imp ?_⟩
  rintro xs H1 ⟨S1, r1, ds, O1, e1, s1, p1, q1⟩
  exact newL_post s1 p1 q1
theorem de_callB {gc : Store → List D → Option (D × Store)} {x : Str} {id : String} {p : Pos} (hc : CallD X ad (.builtin id) gc) (hg : Gl X x) (hm : X.mg x = none) (hv : bootBuiltins x = some (.builtin id)) (ha : PA X (e :: es) (tA X.K ad J W mt))
    (hn : x ≠ "__name__" := by decide) (hdb : (x == ("__debug__" : Str)) = false := by decide)
    (he : starEach (e :: es) X.env = (false, eval e X.env) :: starEach es X.env := by rfl) (hpl : (backTo pos (starEach es X.env)).any (·.1) = false := by rfl) : PE X (.Call (.Name x p) (e :: es) [] pos) (tE X.K ad J W (mCall gc mt)) := by
  obtain ⟨rr, h1, h2⟩ := hc.ok
  refine pe_imp (pe_callB h1 hg hm hv ha hn hdb he hpl) ?_
  rintro σ H Q ⟨S, r, L, O, j, rl, rs, p⟩
  refine ⟨S, r, L, O, j, rl, rs, (Post.bind p).imp ?_⟩
  rintro xs H1 ⟨S1, r1, ds, O1, e1, s1, p1, q1⟩
  exact h2 S1 r1 O1 H1 xs ds W σ Q s1 p1 q1
theorem de_callTy {gc : Store → List D → Option (D × Store)} {x : Str} {T : String} {p : Pos} (hc : CallD X ad (.type T) gc) (hg : Gl X x) (hm : X.mg x = none) (hv : bootBuiltins x = some (.type T)) (ha : PA X (e :: es) (tA X.K ad J W mt))
    (hn : x ≠ "__name__" := by decide) (hdb : (x == ("__debug__" : Str)) = false := by decide)
    (he : starEach (e :: es) X.env = (false, eval e X.env) :: starEach es X.env := by rfl) (hpl : (backTo pos (starEach es X.env)).any (·.1) = false := by rfl) : PE X (.Call (.Name x p) (e :: es) [] pos) (tE X.K ad J W (mCall gc mt)) := by
  obtain ⟨rr, h1, h2⟩ := hc.ok
  refine pe_imp (pe_callTy h1 hg hm hv ha hn hdb he hpl) ?_
  rintro σ H Q ⟨S, r, L, O, j, rl, rs, p⟩
  refine ⟨S, r, L, O, j, rl, rs, (Post.bind p).imp ?_⟩
  rintro xs H1 ⟨S1, r1, ds, O1, e1, s1, p1, q1⟩
  exact h2 S1 r1 O1 H1 xs ds W σ Q s1 p1 q1
/-- a def of the text is called -/
theorem spM_of {n : Nat} {f : FM} {S : Hp} {r : Rg} {O : Store} {H : Hp} {ds : List D} {vs : List V} {σ : L2.St} {Q : VK} (hl : ds.length = n) (s : Rs X.K ad S r O H) (p : RpAll X.K S r ds vs) (q : Post X.K ad (fun S r => Rp X.K S r) W σ S r Q (f ds O)) : spM X.K ad n f vs H Q (WE W σ) := by
  refine ⟨S, r, O, ds, hl, s, p, ?_⟩
  generalize f ds O = z at q
  cases z with
  | ok a O => exact q
  | exc x O => exact q
  | bad => exact q
/-- the number of arguments is checked by the mirror -/
def arity (n : Nat) (f : FM) : FM := fun ds O => if ds.length = n then f ds O else .bad
theorem spM_ar {n : Nat} {f : FM} {S : Hp} {r : Rg} {O : Store} {H : Hp} {ds : List D} {vs : List V} {σ : L2.St} {Q : VK} (s : Rs X.K ad S r O H) (p : RpAll X.K S r ds vs) (q : Post X.K ad (fun S r => Rp X.K S r) W σ S r Q (arity n f ds O)) : spM X.K ad n f vs H Q (WE W σ) := by
  unfold arity at q
  split at q
  · rename_i hl
    exact spM_of hl s p q
  · exact q.elim
theorem de_call {k n : Nat} {f : Addr} {fd : FuncData} {ps : List Str} {m : FM} {dvs : List V} {dds : List D} {ds : List Value} {x : Str} {p : Pos} (F : FnOk X.prog X.w X.K X.mg X.base (L2.CX X.prog X.w) k f fd ps (spM X.K ad n m)) (hr : Room k X.A) (hg : Gl X x) (hm : X.mg x = some (.ref f)) (hk : PySem.W.keepIn X.K (.ref f) = true)
    (hb : Binds X.K fd ps ds) (hd : Vals dvs ds) (hdd : ∀ S r, RpAll X.K S r dds dvs) (tk : Takes X W) (ha : PA X (e :: es) (tA X.K ad J W mt)) (hdb : (x == ("__debug__" : Str)) = false := by decide)
    (he : starEach (e :: es) X.env = (false, eval e X.env) :: starEach es X.env := by rfl) (hpl : (backTo pos (starEach es X.env)).any (·.1) = false := by rfl) :
    PE X (.Call (.Name x p) (e :: es) [] pos) (tE X.K ad J W (mFn (arity n m) dds mt)) := by
  refine pe_imp (pe_callSD F hr hg hm hk hb hd (fun σ => passAt tk σ) ha hdb he hpl) ?_
  rintro σ H Q ⟨S, r, L, O, j, rl, rs, p⟩
  refine ⟨S, r, L, O, j, rl, rs, (Post.bind p).imp ?_⟩
  rintro xs H1 ⟨S1, r1, ds, O1, e1, s1, p1, q1⟩
  exact spM_ar s1 (p1.append (hdd S1 r1)) q1
end
end DK
end
section
set_option Elab.async false
set_option linter.all false
set_option autoImplicit false
set_option maxRecDepth 100000
set_option maxHeartbeats 4000000
/-! DKStm: statements, loops, defs, by mirrors. -/
namespace DK
open PySem L2

def ofRes {α : Type} (L : Loc) (x : Res α) (f : α → Store → SR) : SR := match x with
  | .ok a O => f a O
  | .exc x O => .exc x L O
  | .bad => .bad
def sNext : SM := fun L O => .next L O
def sSeq (a b : SM) : SM := fun L O => match a L O with
  | .next L1 O1 => b L1 O1
  | .ret d O1 => .ret d O1
  | .brk L1 O1 => .brk L1 O1
  | .cnt L1 O1 => .cnt L1 O1
  | .exc x L1 O1 => .exc x L1 O1
  | .bad => .bad
def sDrop (m : EM) : SM := fun L O => ofRes L (m L O) fun _ O1 => .next L O1
def sRet (m : EM) : SM := fun L O => ofRes L (m L O) fun d O1 => .ret d O1
def sRetN : SM := fun _ O => .ret .non O
def sIf (t : TM) (a b : SM) : SM := fun L O => ofRes L (t L O) fun c O1 => if c = true then a L O1 else b L O1
def sBrk : SM := fun L O => .brk L O
def sCnt : SM := fun L O => .cnt L O
/-- a target: what a value makes of slots and store -/
abbrev BM := D → Loc → Store → Option (Loc × Store)
abbrev BsM := List D → Loc → Store → Option (Loc × Store)
def bName (i : Nat) : BM := fun d L O => some (L.set i (some d), O)
def bNil : BsM := fun ds L O => match ds with
  | [] => some (L, O)
  | _ => none
def bCons (b : BM) (c : BsM) : BsM := fun ds L O => match ds with
  | d :: ds => (b d L O).bind fun p => c ds p.1 p.2
  | [] => none
def bTup (n : Nat) (c : BsM) : BM := fun d L O => match d with
  | .tup ds => if ds.length = n then c ds L O else none
  | _ => none
def ofB : Option (Loc × Store) → SR
  | some p => .next p.1 p.2
  | none => .bad
def sAsg (m : EM) (b : BM) : SM := fun L O => ofRes L (m L O) fun d O1 => ofB (b d L O1)
/-- a turn of a loop -/
def turnOf (b : BM) (body : SM) (d : D) : SM := fun L O => match b d L O with
  | some p => body p.1 p.2
  | none => .bad
def loopD (turn : D → SM) : List D → SM
  | [], L, O => .next L O
  | d :: ds, L, O => match turn d L O with
    | .next L1 O1 => loopD turn ds L1 O1
    | .cnt L1 O1 => loopD turn ds L1 O1
    | .brk L1 O1 => .next L1 O1
    | .ret d O1 => .ret d O1
    | .exc x L1 O1 => .exc x L1 O1
    | .bad => .bad
/-- over a list of the store -/
def loopH (turn : D → SM) (n : Nat) : Nat → Nat → SM
  | 0, i, L, O => match O[n]? with
    | some (.lst xs) => if xs.length ≤ i then .next L O else .bad
    | _ => .bad
  | k + 1, i, L, O => match O[n]? with
    | some (.lst xs) => match xs[i]? with
      | some d => match turn d L O with
        | .next L1 O1 => loopH turn n k (i + 1) L1 O1
        | .cnt L1 O1 => loopH turn n k (i + 1) L1 O1
        | .brk L1 O1 => .next L1 O1
        | .ret d O1 => .ret d O1
        | .exc x L1 O1 => .exc x L1 O1
        | .bad => .bad
      | none => .next L O
    | _ => .bad
def sForL (m : EM) (b : BM) (body : SM) : SM := fun L O => ofRes L (m L O) fun d O1 => match d with
  | .lst ds => loopD (turnOf b body) ds L O1
  | .rol ds => loopD (turnOf b body) ds L O1
  | .hdl n => match O1[n]? with
    | some (.lst xs) => loopH (turnOf b body) n xs.length 0 L O1
    | _ => .bad
  | _ => .bad
def sForT (m : EM) (b : BM) (body : SM) : SM := fun L O => ofRes L (m L O) fun d O1 => match d with
  | .tup ds => loopD (turnOf b body) ds L O1
  | _ => .bad
def rangeD (lo : Int) (n : Nat) : List D := (List.range n).map fun (i : Nat) => .int (lo + (i : Int))
def int1 : List D → Option Int
  | [.int j] => if -1000000000000 ≤ j ∧ j ≤ 1000000000000 then some j else none
  | _ => none
def int2 : List D → Option (Int × Int)
  | [.int i, .int j] => if (-1000000000000 ≤ i ∧ i ≤ 1000000000000) ∧ (-1000000000000 ≤ j ∧ j ≤ 1000000000000) then some (i, j) else none
  | _ => none
theorem int1_ok {ds : List D} {j : Int} (h : int1 ds = some j) : ds = [.int j] ∧ -1000000000000 ≤ j ∧ j ≤ 1000000000000 := by
  unfold int1 at h
  split at h
  · split at h
    · cases h; exact ⟨rfl, by assumption⟩
    · cases h
  · cases h
theorem int2_ok {ds : List D} {p : Int × Int} (h : int2 ds = some p) : ds = [.int p.1, .int p.2] ∧ (-1000000000000 ≤ p.1 ∧ p.1 ≤ 1000000000000) ∧ (-1000000000000 ≤ p.2 ∧ p.2 ≤ 1000000000000) := by
  unfold int2 at h
  split at h
  · split at h
    · cases h; exact ⟨rfl, by assumption⟩
    · cases h
  · cases h
def sForR1 (t : AM) (b : BM) (body : SM) : SM := fun L O => ofRes L (t L O) fun ds O1 => match int1 ds with
  | some j => loopD (turnOf b body) (rangeD 0 j.toNat) L O1
  | none => .bad
def sForR2 (t : AM) (b : BM) (body : SM) : SM := fun L O => ofRes L (t L O) fun ds O1 => match int2 ds with
  | some p => loopD (turnOf b body) (rangeD p.1 (p.2 - p.1).toNat) L O1
  | none => .bad
def loopW (c : TM) (b : SM) : Nat → SM
  | 0, _, _ => .bad
  | n + 1, L, O => ofRes L (c L O) fun k O1 => if k = true then (match b L O1 with
    | .next L2 O2 => loopW c b n L2 O2
    | .cnt L2 O2 => loopW c b n L2 O2
    | .brk L2 O2 => .next L2 O2
    | .ret d O2 => .ret d O2
    | .exc x L2 O2 => .exc x L2 O2
    | .bad => .bad) else .next L O1
def sWhile (n : Nat) (c : TM) (b : SM) : SM := loopW c b n
/-- a def by its body -/
def runF (n : Nat) (b : SM) : FM := fun ds O => match b (ds.map some ++ List.replicate (n - ds.length) none) O with
  | .next _ O1 => .ok .non O1
  | .ret d O1 => .ok d O1
  | .exc x _ O1 => .exc x O1
  | _ => .bad

section
variable {K : PySem.W.Frag} {ad : Str → Addr} {J : JP} {W : WX} {S S' : Hp} {r r' : Rg} {En : Ends} {L : Loc} {σ : L2.St} {α β : Type} {rep : Hp → Rg → α → β → Prop}
theorem PostS.mono {x : SR} (e : Ext S r S' r') (h : PostS K ad J W S r En x) : PostS K ad J W S' r' En x := by
  cases x with
  | next L O => exact fun S2 r2 σ H e2 => h S2 r2 σ H (e.trans e2)
  | ret d O => exact fun S2 r2 H v e2 => h S2 r2 H v (e.trans e2)
  | brk L O => exact fun S2 r2 σ H e2 => h S2 r2 σ H (e.trans e2)
  | cnt L O => exact fun S2 r2 σ H e2 => h S2 r2 σ H (e.trans e2)
  | exc x L O => exact fun S2 r2 σ H d e2 => h S2 r2 σ H d (e.trans e2)
  | bad => exact h
theorem bindS {x : Res α} {f : α → Store → SR} (j : J.p σ S) (rl : Rl K S r L σ) (h : PostS K ad J W S r En (ofRes L x f)) :
    Post K ad rep W σ S r (fun v H => ∃ S' r' a O, Ext S r S' r' ∧ Rs K ad S' r' O H ∧ rep S' r' a v ∧ PostS K ad J W S' r' En (f a O)) x := by
  cases x with
  | ok a O => exact fun S2 r2 H v e2 s p => ⟨S2, r2, a, O, e2, s, p, PostS.mono e2 h⟩
  | exc a O => exact fun S2 r2 H d e2 s p => h S2 r2 σ H d e2 (J.mono e2.s j) (rl.mono e2) s p
  | bad => exact h
theorem Rl.set {d : D} {v : V} (i : Nat) (h : Rl K S r L σ) (p : Rp K S r d v) : Rl K S r (L.set i (some d)) (σ.set i (some v)) where
  len := by rw [List.length_set, List.length_set]; exact h.len
  at_ := fun j e q => by
    by_cases hj : i = j
    · subst hj
      by_cases hl : i < L.length
      · rw [List.getElem?_set_self hl] at q
        cases q
        exact ⟨v, List.getElem?_set_self (by rw [h.len]; exact hl), p⟩
      · rw [List.getElem?_eq_none (by rw [List.length_set]; omega)] at q
        cases q
    · rw [List.getElem?_set_ne hj] at q
      rw [List.getElem?_set_ne hj]
      exact h.at_ j e q
theorem Rl.wipe (i : Nat) (o : Option V) (h : Rl K S r L σ) : Rl K S r (L.set i none) (σ.set i o) where
  len := by rw [List.length_set, List.length_set]; exact h.len
  at_ := fun j e q => by
    by_cases hj : i = j
    · subst hj
      by_cases hl : i < L.length
      · rw [List.getElem?_set_self hl] at q
        cases q
      · rw [List.getElem?_eq_none (by rw [List.length_set]; omega)] at q
        cases q
    · rw [List.getElem?_set_ne hj] at q
      rw [List.getElem?_set_ne hj]
      exact h.at_ j e q
end

abbrev JT : JP := ⟨fun _ _ => True, fun _ _ => trivial⟩
/-! ### small statements -/
section
variable {X : Cx} {ad : Str → Addr} {J : JP} {W : WX} {pos : Pos} {a b c e tg iter : Expr} {es : List Expr} {m : EM} {mt : AM} {tm : TM} {st : Stmt} {rest body els : List Stmt} {s1 s2 : SM} {bm : BM} {bs : BsM}
theorem dss_nil : PSs X [] (tS X.K ad J W sNext) := by
  refine pss_imp pss_nil ?_
  rintro En σ H ⟨S, r, L, O, j, rl, rs, p⟩
  exact p S r σ H (Ext.refl _ _) j rl rs
theorem dss_cons (h1 : PS X st (tS X.K ad J W s1)) (h2 : PSs X rest (tS X.K ad J W s2)) : PSs X (st :: rest) (tS X.K ad J W (sSeq s1 s2)) := by
  refine pss_imp (pss_cons h1 h2) ?_
  rintro En σ H ⟨S, r, L, O, j, rl, rs, p⟩
  refine ⟨S, r, L, O, j, rl, rs, ?_⟩
  unfold sSeq at p
  generalize s1 L O = z at p
  cases z with
  | next L1 O1 => exact fun S1 r1 σ1 H1 e1 j1 l1 q1 => ⟨S1, r1, L1, O1, j1, l1, q1, PostS.mono e1 p⟩
  | ret d O1 => exact p
  | brk L1 O1 => exact p
  | cnt L1 O1 => exact p
  | exc x L1 O1 => exact p
  | bad => exact p
theorem dss_one (h1 : PS X st (tS X.K ad J W s1)) : PSs X [st] (tS X.K ad J W s1) := pss_one h1
theorem ds_pass : PS X (.Pass pos) (tS X.K ad J W sNext) := by
  refine ps_imp ps_pass ?_
  rintro En σ H ⟨S, r, L, O, j, rl, rs, p⟩
  exact p S r σ H (Ext.refl _ _) j rl rs
theorem ds_break : PS X (.Break pos) (tS X.K ad J W sBrk) := by
  refine ps_imp ps_break ?_
  rintro En σ H ⟨S, r, L, O, j, rl, rs, p⟩
  exact p S r σ H (Ext.refl _ _) j rl rs
theorem ds_continue : PS X (.Continue pos) (tS X.K ad J W sCnt) := by
  refine ps_imp ps_continue ?_
  rintro En σ H ⟨S, r, L, O, j, rl, rs, p⟩
  exact p S r σ H (Ext.refl _ _) j rl rs
theorem ds_expr (he : PE X e (tE X.K ad J W m)) (hs : swapsWith e none pos.line X.env = pure false := by rfl) : PS X (.Expr e pos) (tS X.K ad J W (sDrop m)) := by
  refine ps_imp (ps_expr he hs) ?_
  rintro En σ H ⟨S, r, L, O, j, rl, rs, p⟩
  refine ⟨S, r, L, O, j, rl, rs, (bindS j rl p).imp ?_⟩
  rintro x H1 ⟨S1, r1, d, O1, e1, q1, p1, k1⟩
  exact k1 S1 r1 σ H1 (Ext.refl _ _) (J.mono e1.s j) (rl.mono e1) q1
theorem ds_ret (he : PE X e (tE X.K ad J W m)) : PS X (.Return (some e) pos) (tS X.K ad J W (sRet m)) := by
  refine ps_imp (ps_ret he) ?_
  rintro En σ H ⟨S, r, L, O, j, rl, rs, p⟩
  refine ⟨S, r, L, O, j, rl, rs, (bindS j rl p).imp ?_⟩
  rintro x H1 ⟨S1, r1, d, O1, e1, q1, p1, k1⟩
  exact k1 S1 r1 H1 x (Ext.refl _ _) q1 p1
theorem ds_retN : PS X (.Return none pos) (tS X.K ad J W sRetN) := by
  refine ps_imp ps_retN ?_
  rintro En σ H ⟨S, r, L, O, j, rl, rs, p⟩
  exact p S r H .non (Ext.refl _ _) rs rfl
theorem ds_if (hc : PT X c (tT X.K ad J W tm)) (ha : PSs X body (tS X.K ad J W s1)) (hb : PSs X els (tS X.K ad J W s2)) : PS X (.If c body els pos) (tS X.K ad J W (sIf tm s1 s2)) := by
  refine ps_imp (ps_if hc ha hb) ?_
  rintro En σ H ⟨S, r, L, O, j, rl, rs, p⟩
  refine ⟨S, r, L, O, j, rl, rs, (bindS j rl p).imp ?_⟩
  rintro k H1 ⟨S1, r1, d, O1, e1, q1, rfl, k1⟩
  cases k with
  | true =>
    rw [if_pos rfl] at k1 ⊢
    exact ⟨S1, r1, L, O1, J.mono e1.s j, rl.mono e1, q1, k1⟩
  | false =>
    rw [if_neg Bool.false_ne_true] at k1 ⊢
    exact ⟨S1, r1, L, O1, J.mono e1.s j, rl.mono e1, q1, k1⟩

/-! ### targets -/
def PostB (K : PySem.W.Frag) (ad : Str → Addr) (J : JP) (S : Hp) (r : Rg) (Q : L2.St → Hp → Prop) : Option (Loc × Store) → Prop
  | some p => ∀ S' r' σ H, Ext S r S' r' → J.p σ S' → Rl K S' r' p.1 σ → Rs K ad S' r' p.2 H → Q σ H
  | none => False
def tG (K : PySem.W.Frag) (ad : Str → Addr) (J : JP) (b : BM) : TG := fun v σ H Q => ∃ S r L O d, J.p σ S ∧ Rl K S r L σ ∧ Rs K ad S r O H ∧ Rp K S r d v ∧ PostB K ad J S r Q (b d L O)
def tGs (K : PySem.W.Frag) (ad : Str → Addr) (J : JP) (b : BsM) : TGs := fun vs σ H Q => ∃ S r L O ds, J.p σ S ∧ Rl K S r L σ ∧ Rs K ad S r O H ∧ RpAll K S r ds vs ∧ PostB K ad J S r Q (b ds L O)
theorem PostB.mono {S S' : Hp} {r r' : Rg} {Q : L2.St → Hp → Prop} {x : Option (Loc × Store)} (e : Ext S r S' r') (h : PostB X.K ad J S r Q x) : PostB X.K ad J S' r' Q x := by
  cases x with
  | some p => exact fun S2 r2 σ H e2 => h S2 r2 σ H (e.trans e2)
  | none => exact h
theorem pg_imp {t t' : TG} (h : PG X tg t) (k : ∀ v σ H Q, t' v σ H Q → t v σ H Q) : PG X tg t' := ⟨fun pins s σ H v u Q I r q => h.run pins s σ H v u Q I r (k v σ H Q q)⟩
theorem pgs_imp {t t' : TGs} (h : PGs X es t) (k : ∀ v σ H Q, t' v σ H Q → t v σ H Q) : PGs X es t' := ⟨fun pins s σ H v u Q I r q => h.run pins s σ H v u Q I r (k v σ H Q q)⟩
theorem dg_name {i : Nat} {x : Str} (hN : X.N.Nodup) (hi : X.N[i]? = some x) (hx : L2.Loc X.env.scope x) (hJ : ∀ (σ : L2.St) (v : V) (S : Hp), J.p σ S → J.p (σ.set i (some v)) S := by intro _ _ _ _; trivial) (hf : X.fn x = true ∨ X.env.scope.names.lookup x = some .local := by first | exact .inl rfl | exact .inr rfl | assumption) :
    PG X (.Name x pos) (tG X.K ad J (bName i)) := by
  refine pg_imp (pg_name hN hi hx hf) ?_
  rintro v σ H Q ⟨S, r, L, O, d, j, rl, rs, rp, p⟩
  exact p S r _ H (Ext.refl _ _) (hJ _ _ _ j) (rl.set i rp) rs
theorem dgs_nil : PGs X [] (tGs X.K ad J bNil) := by
  refine pgs_imp pgs_nil ?_
  rintro vs σ H Q ⟨S, r, L, O, ds, j, rl, rs, rp, p⟩
  cases ds with
  | nil => exact ⟨rp, p S r σ H (Ext.refl _ _) j rl rs⟩
  | cons d ds => exact p.elim
theorem dgs_cons (h1 : PG X e (tG X.K ad J bm)) (h2 : PGs X es (tGs X.K ad J bs)) (hs : (assignEach (e :: es) X.env).map (·.2) = assign e X.env :: (assignEach es X.env).map (·.2) := by rfl) : PGs X (e :: es) (tGs X.K ad J (bCons bm bs)) := by
  refine pgs_imp (pgs_cons h1 h2 hs) ?_
  rintro vs σ H Q ⟨S, r, L, O, ds, j, rl, rs, rp, p⟩
  cases ds with
  | nil => exact p.elim
  | cons d ds =>
    obtain ⟨v, vr, rfl, q1, q2⟩ := rp
    refine ⟨v, vr, rfl, S, r, L, O, d, j, rl, rs, q1, ?_⟩
    have p : PostB X.K ad J S r Q ((bm d L O).bind fun p => bs ds p.1 p.2) := p
    generalize bm d L O = z at p
    cases z with
    | none => exact p
    | some z => exact fun S1 r1 σ1 H1 e1 j1 l1 k1 => ⟨S1, r1, z.1, z.2, ds, j1, l1, k1, RpAll.mono e1 _ _ q2, p.mono e1⟩
theorem dg_tup {k n : Nat} (hc : X.calm = true) (h : PGs X es (tGs X.K ad J bs)) (hn : (assignEach es X.env).length = n := by rfl) (hst : (assignEach es X.env).findIdx? (·.1) = none := by rfl) : PG X (.Tuple es k pos) (tG X.K ad J (bTup n bs)) := by
  refine pg_imp (pg_tup hc h hn hst) ?_
  rintro v σ H Q ⟨S, r, L, O, d, j, rl, rs, rp, p⟩
  cases d with
  | tup ds =>
    obtain ⟨a, vs, rfl, q1, q2⟩ := rp
    have p : PostB X.K ad J S r Q (if ds.length = n then bs ds L O else none) := p
    split at p
    · rename_i hl
      exact ⟨a, vs, rfl, sqT_same rs.sub q1, by rw [q2.length]; exact hl, S, r, L, O, ds, j, rl, rs, q2, p⟩
    · exact p.elim
  | non => exact p.elim
  | bl b => exact p.elim
  | int i => exact p.elim
  | str s => exact p.elim
  | lst s => exact p.elim
  | rol s => exact p.elim
  | hdl s => exact p.elim
theorem asg_imp {t : TG} (hg : ∀ v σ H Q, tG X.K ad J bm v σ H Q → t v σ H Q) : ∀ En σ H, tS X.K ad J W (sAsg m bm) En σ H → tAsg (tE X.K ad J W m) t En σ H := by
  rintro En σ H ⟨S, r, L, O, j, rl, rs, p⟩
  refine ⟨S, r, L, O, j, rl, rs, (bindS j rl p).imp ?_⟩
  rintro x H1 ⟨S1, r1, d, O1, e1, q1, p1, k1⟩
  refine hg _ _ _ _ ⟨S1, r1, L, O1, d, J.mono e1.s j, rl.mono e1, q1, p1, ?_⟩
  generalize bm d L O1 = z at k1
  cases z with
  | none => exact k1
  | some z => exact k1
theorem ds_asg (he : PE X e (tE X.K ad J W m)) (hg : PG X tg (tG X.K ad J bm)) (hs : swapsWithSole [tg] e pos.line X.env = pure false := by rfl) (hw : swappedStores [tg] e X.env = pure none := by rfl)
    (h1 : (assignEach [tg] X.env).map (·.2) = [assign tg X.env] := by rfl) : PS X (.Assign [tg] e pos) (tS X.K ad J W (sAsg m bm)) :=
  ps_imp (ps_asg he hg hs hw h1) (asg_imp fun _ _ _ _ z => z)
theorem ds_set {i : Nat} {x : Str} {pos' : Pos} (hN : X.N.Nodup) (hi : X.N[i]? = some x) (hx : L2.Loc X.env.scope x) (he : PE X e (tE X.K ad J W m)) (hJ : ∀ (σ : L2.St) (v : Option V) (S : Hp), J.p σ S → J.p (σ.set i v) S := by intro _ _ _ _; trivial) (hs : swapsWith e (some (.Name x pos')) pos.line X.env = pure false := by rfl)
    (hf : X.fn x = true ∨ X.env.scope.names.lookup x = some .local := by first | exact .inl rfl | exact .inr rfl | assumption) : PS X (.Assign [.Name x pos'] e pos) (tS X.K ad J W (sAsg m (bName i))) := by
  refine ps_imp (ps_set hN hi hx he hs hf) (asg_imp ?_)
  rintro v σ H Q ⟨S, r, L, O, d, j, rl, rs, rp, p⟩
  exact p S r _ H (Ext.refl _ _) (hJ _ _ _ j) (rl.set i rp) rs
theorem PostS.ends {S : Hp} {r : Rg} {En En' : Ends} {x : SR} (h1 : ∀ σ H, En.nx σ H → En'.nx σ H) (h2 : ∀ v H, En.rt v H → En'.rt v H) (h3 : ∀ σ H, En.bk σ H → En'.bk σ H) (h4 : ∀ σ H, En.ct σ H → En'.ct σ H) (h : PostS X.K ad J W S r En x) : PostS X.K ad J W S r En' x := by
  cases x with
  | next L O => exact fun S2 r2 σ H e2 j l s => h1 _ _ (h S2 r2 σ H e2 j l s)
  | ret d O => exact fun S2 r2 H v e2 s p => h2 _ _ (h S2 r2 H v e2 s p)
  | brk L O => exact fun S2 r2 σ H e2 j l s => h3 _ _ (h S2 r2 σ H e2 j l s)
  | cnt L O => exact fun S2 r2 σ H e2 j l s => h4 _ _ (h S2 r2 σ H e2 j l s)
  | exc x L O => exact h
  | bad => exact h
/-- one turn, then the rest f -/
def afterT (x : SR) (f : SM) : SR := match x with
  | .next L1 O1 => f L1 O1
  | .cnt L1 O1 => f L1 O1
  | .brk L1 O1 => .next L1 O1
  | .ret d O1 => .ret d O1
  | .exc x L1 O1 => .exc x L1 O1
  | .bad => .bad
theorem turn_post {S : Hp} {r : Rg} {En : Ends} {x : SR} {f : SM} (h : PostS X.K ad J W S r En (afterT x f)) :
    PostS X.K ad J W S r { En with nx := fun σ H => ∃ S' r' L' O', Ext S r S' r' ∧ J.p σ S' ∧ Rl X.K S' r' L' σ ∧ Rs X.K ad S' r' O' H ∧ PostS X.K ad J W S' r' En (f L' O'), ct := fun σ H => ∃ S' r' L' O', Ext S r S' r' ∧ J.p σ S' ∧ Rl X.K S' r' L' σ ∧ Rs X.K ad S' r' O' H ∧ PostS X.K ad J W S' r' En (f L' O'), bk := En.nx } x := by
  cases x with
  | next L O => exact fun S2 r2 σ H e2 j l s => ⟨S2, r2, L, O, e2, j, l, s, PostS.mono e2 h⟩
  | ret d O => exact h
  | brk L O => exact h
  | cnt L O => exact fun S2 r2 σ H e2 j l s => ⟨S2, r2, L, O, e2, j, l, s, PostS.mono e2 h⟩
  | exc x L O => exact h
  | bad => exact h
theorem loopD_cons {turn : D → SM} {d : D} {ds : List D} {L : Loc} {O : Store} : loopD turn (d :: ds) L O = afterT (turn d L O) (loopD turn ds) := by
  show (match turn d L O with
    | .next L1 O1 => loopD turn ds L1 O1
    | .cnt L1 O1 => loopD turn ds L1 O1
    | .brk L1 O1 => .next L1 O1
    | .ret d O1 => .ret d O1
    | .exc x L1 O1 => .exc x L1 O1
    | .bad => .bad) = _
  cases turn d L O <;> rfl
/-- the body of a turn -/
theorem turn_of {S : Hp} {r : Rg} {En : Ends} {L : Loc} {O : Store} {σ : L2.St} {H : Hp} {d : D} {v : V} (j : J.p σ S) (rl : Rl X.K S r L σ) (rs : Rs X.K ad S r O H) (rp : Rp X.K S r d v) (h : PostS X.K ad J W S r En (turnOf bm s1 d L O)) :
    tG X.K ad J bm v σ H fun σ2 H2 => tS X.K ad J W s1 En σ2 H2 := by
  refine ⟨S, r, L, O, d, j, rl, rs, rp, ?_⟩
  unfold turnOf at h
  generalize bm d L O = z at h
  cases z with
  | none => exact h
  | some z => exact fun S2 r2 σ2 H2 e2 j2 l2 q2 => ⟨S2, r2, z.1, z.2, j2, l2, q2, PostS.mono e2 h⟩
/-- a loop over things that stand still -/
theorem for_still {It' : It} {vs : List V} (ds : List D) {S0 : Hp} {r0 : Rg} (hp : RpAll X.K S0 r0 ds vs)
    (go : ∀ (i : Nat) (H : Hp) (S : Hp) (x : V), Same S0 S → Same S H → vs[i]? = some x → It'.go i H) (yl : ∀ (i : Nat) (H : Hp) (S : Hp) (x y : V) (H' : Hp), Same S0 S → Same S H → vs[i]? = some x → It'.yld i H y H' → y = x ∧ H' = H)
    (sp : ∀ (i : Nat) (H : Hp) (S : Hp), Same S0 S → Same S H → vs.length ≤ i → It'.stop i H) {L : Loc} {O : Store} {σ : L2.St} {H : Hp} {En : Ends} (j : J.p σ S0) (rl : Rl X.K S0 r0 L σ) (rs : Rs X.K ad S0 r0 O H) (h : PostS X.K ad J W S0 r0 En (loopD (turnOf bm s1) ds L O)) :
    ∃ W' : Nat → Nat → L2.St → Hp → Prop, (∃ m, W' 0 m σ H) ∧ ∀ i m σ H, W' i m σ H →
      (It'.stop i H ∧ En.nx σ H) ∨ (It'.go i H ∧ ∃ N : L2.St → Hp → Prop, (∀ σ' H', N σ' H' → ∃ m', m' < m ∧ W' (i + 1) m' σ' H') ∧ ∀ x H', It'.yld i H x H' → tG X.K ad J bm x σ H' fun σ2 H2 => tS X.K ad J W s1 { En with nx := N, ct := N, bk := En.nx } σ2 H2) := by
  refine ⟨fun i m σ H => m = vs.length - i ∧ i ≤ vs.length ∧ ∃ S r L O, Ext S0 r0 S r ∧ J.p σ S ∧ Rl X.K S r L σ ∧ Rs X.K ad S r O H ∧ PostS X.K ad J W S r En (loopD (turnOf bm s1) (ds.drop i) L O), ⟨_, rfl, Nat.zero_le _, S0, r0, L, O, Ext.refl _ _, j, rl, rs, h⟩, ?_⟩
  rintro i m σ H ⟨rfl, hi, S, r, L, O, e, j, rl, rs, h⟩
  by_cases hlt : i < vs.length
  · have hx : vs[i]? = some vs[i] := List.getElem?_eq_getElem hlt
    obtain ⟨d, hd, pd⟩ := RpAll.back hp hx
    have hdrop : ds.drop i = d :: ds.drop (i + 1) := by
      obtain ⟨h1, h2⟩ := List.getElem?_eq_some_iff.mp hd
      rw [List.drop_eq_getElem_cons h1, h2]
    rw [hdrop, loopD_cons] at h
    refine .inr ⟨go i H S _ e.s rs.sub hx, fun σ' H' => ∃ S' r' L' O', Ext S r S' r' ∧ J.p σ' S' ∧ Rl X.K S' r' L' σ' ∧ Rs X.K ad S' r' O' H' ∧ PostS X.K ad J W S' r' En (loopD (turnOf bm s1) (ds.drop (i + 1)) L' O'), ?_, fun x H' hy => ?_⟩
    · rintro σ' H' ⟨S', r', L', O', e', j', l', q', h'⟩
      exact ⟨_, by omega, rfl, hlt, S', r', L', O', e.trans e', j', l', q', h'⟩
    · obtain ⟨rfl, rfl⟩ := yl i H S _ x H' e.s rs.sub hx hy
      exact turn_of j rl rs (Rp.mono e d _ pd) (turn_post h)
  · have e2 : ds.drop i = [] := List.drop_eq_nil_of_le (by rw [← hp.length]; omega)
    rw [e2] at h
    exact .inl ⟨sp i H S e.s rs.sub (by omega), h S r σ H (Ext.refl _ _) j rl rs⟩
/-- over a list of the store -/
theorem loopH_cons {turn : D → SM} {n k i : Nat} {L : Loc} {O : Store} : loopH turn n (k + 1) i L O = (match O[n]? with
    | some (.lst xs) => match xs[i]? with
      | some d => afterT (turn d L O) (loopH turn n k (i + 1))
      | none => .next L O
    | _ => .bad) := by
  show (match O[n]? with
    | some (.lst xs) => match xs[i]? with
      | some d => match turn d L O with
        | .next L1 O1 => loopH turn n k (i + 1) L1 O1
        | .cnt L1 O1 => loopH turn n k (i + 1) L1 O1
        | .brk L1 O1 => .next L1 O1
        | .ret d O1 => .ret d O1
        | .exc x L1 O1 => .exc x L1 O1
        | .bad => .bad
      | none => .next L O
    | _ => .bad) = _
  split
  · split
    · rename_i d _
      cases turn d L O <;> rfl
    · rfl
  · rfl
theorem for_handle {a : Addr} {n : Nat} {S0 : Hp} {r0 : Rg} (ha : r0.l[n]? = some a) {k : Nat} {L : Loc} {O : Store} {σ : L2.St} {H : Hp} {En : Ends} (j : J.p σ S0) (rl : Rl X.K S0 r0 L σ) (rs : Rs X.K ad S0 r0 O H) (h : PostS X.K ad J W S0 r0 En (loopH (turnOf bm s1) n k 0 L O)) :
    ∃ W' : Nat → Nat → L2.St → Hp → Prop, (∃ m, W' 0 m σ H) ∧ ∀ i m σ H, W' i m σ H →
      ((Itl X.K a).stop i H ∧ En.nx σ H) ∨ ((Itl X.K a).go i H ∧ ∃ N : L2.St → Hp → Prop, (∀ σ' H', N σ' H' → ∃ m', m' < m ∧ W' (i + 1) m' σ' H') ∧ ∀ x H', (Itl X.K a).yld i H x H' → tG X.K ad J bm x σ H' fun σ2 H2 => tS X.K ad J W s1 { En with nx := N, ct := N, bk := En.nx } σ2 H2) := by
  refine ⟨fun i m σ H => ∃ S r L O, Ext S0 r0 S r ∧ J.p σ S ∧ Rl X.K S r L σ ∧ Rs X.K ad S r O H ∧ PostS X.K ad J W S r En (loopH (turnOf bm s1) n m i L O), ⟨k, S0, r0, L, O, Ext.refl _ _, j, rl, rs, h⟩, ?_⟩
  rintro i m σ H ⟨S, r, L, O, e, j, rl, rs, h⟩
  have hr : r.l[n]? = some a := pre_get e.r ha
  cases m with
  | zero =>
    have h : PostS X.K ad J W S r En (match O[n]? with | some (.lst xs) => if xs.length ≤ i then .next L O else .bad | _ => .bad) := h
    split at h
    · rename_i xs hx
      obtain ⟨_, vs, q1, q2⟩ := rs.ob n a _ hr hx
      split at h
      · rename_i hl
        exact .inl ⟨⟨vs, .of q1, by rw [q2.length]; exact hl⟩, h S r σ H (Ext.refl _ _) j rl rs⟩
      · exact h.elim
    · exact h.elim
  | succ m =>
    rw [loopH_cons] at h
    split at h
    · rename_i xs hx
      obtain ⟨_, vs, q1, q2⟩ := rs.ob n a _ hr hx
      split at h
      · rename_i d hd
        obtain ⟨v, hv, pv⟩ := q2.get hd
        refine .inr ⟨⟨vs, v, .of q1, hv⟩, fun σ' H' => ∃ S' r' L' O', Ext S r S' r' ∧ J.p σ' S' ∧ Rl X.K S' r' L' σ' ∧ Rs X.K ad S' r' O' H' ∧ PostS X.K ad J W S' r' En (loopH (turnOf bm s1) n m (i + 1) L' O'), ?_, fun x H' hy => ?_⟩
        · rintro σ' H' ⟨S', r', L', O', e', j', l', q', h'⟩
          exact ⟨m, Nat.lt_succ_self m, S', r', L', O', e.trans e', j', l', q', h'⟩
        · obtain ⟨rfl, h2⟩ := hy
          have ex : x = v := Option.some.inj ((h2 vs (.of q1)).symm.trans hv)
          subst ex
          exact turn_of j rl rs pv (turn_post h)
      · rename_i hd
        have hl : xs.length ≤ i := List.getElem?_eq_none_iff.mp hd
        exact .inl ⟨⟨vs, .of q1, by rw [q2.length]; exact hl⟩, h S r σ H (Ext.refl _ _) j rl rs⟩
    · exact h.elim
theorem ds_forL (hp : PassesOwn (model X.prog X.w) X.A X.env X.xe) (hc : X.calm = true) (hi : PE X iter (tE X.K ad J W m)) (hg : PG X tg (tG X.K ad J bm)) (hb : PSs X body (tS X.K ad J W s1)) (hs : ∀ x, foldedSetIterable iter X.env x = pure x := by intro _; rfl) :
    PS X (.For tg iter body [] pos) (tS X.K ad J W (sForL m bm s1)) := by
  refine ps_imp (ps_for hp hc (pi_list hi) hg hb hs) ?_
  rintro En σ H ⟨S, r, L, O, j, rl, rs, p⟩
  refine ⟨S, r, L, O, j, rl, rs, (bindS j rl p).imp ?_⟩
  rintro x H1 ⟨S1, r1, d, O1, e1, q1, p1, k1⟩
  have rl1 := rl.mono e1
  cases d with
  | lst ds =>
    obtain ⟨a, vs, rfl, h1, h2⟩ := p1
    have hq : ∀ {S' : Hp} {H : Hp}, Same S1 S' → Same S' H → SqL X.K H a vs := fun e e' => .of (e' _ _ (e _ _ h1))
    refine ⟨a, rfl, ⟨vs, hq (Same.refl _) q1.sub⟩, for_still (It' := Itl X.K a) ds h2 (fun i H S x e e' hx => ⟨vs, x, hq e e', hx⟩) (fun i H S x y H' e e' hx hy => ⟨Option.some.inj ((hy.2 vs (hq e e')).symm.trans hx), hy.1⟩) (fun i H S e e' hl => ⟨vs, hq e e', hl⟩) (J.mono e1.s j) rl1 q1 k1⟩
  | rol ds =>
    obtain ⟨a, vs, rfl, h1, h2⟩ := p1
    have hq : ∀ {S' : Hp} {H : Hp}, Same S1 S' → Same S' H → SqL X.K H a vs := fun e e' => sqL_same e' (sqL_same e h1)
    refine ⟨a, rfl, ⟨vs, hq (Same.refl _) q1.sub⟩, for_still (It' := Itl X.K a) ds h2 (fun i H S x e e' hx => ⟨vs, x, hq e e', hx⟩) (fun i H S x y H' e e' hx hy => ⟨Option.some.inj ((hy.2 vs (hq e e')).symm.trans hx), hy.1⟩) (fun i H S e e' hl => ⟨vs, hq e e', hl⟩) (J.mono e1.s j) rl1 q1 k1⟩
  | hdl n =>
    obtain ⟨a, rfl, ha⟩ := p1
    have k1 : PostS X.K ad J W S1 r1 En (match O1[n]? with | some (.lst xs) => loopH (turnOf bm s1) n xs.length 0 L O1 | _ => .bad) := k1
    split at k1
    · rename_i xs hx
      obtain ⟨_, vs, q3, q4⟩ := q1.ob n a _ ha hx
      exact ⟨a, rfl, ⟨vs, .of q3⟩, for_handle ha (J.mono e1.s j) rl1 q1 k1⟩
    · exact k1.elim
  | non => exact k1.elim
  | bl b => exact k1.elim
  | int i => exact k1.elim
  | str s => exact k1.elim
  | tup s => exact k1.elim
theorem ds_forT (hp : PassesOwn (model X.prog X.w) X.A X.env X.xe) (hc : X.calm = true) (hi : PE X iter (tE X.K ad J W m)) (hg : PG X tg (tG X.K ad J bm)) (hb : PSs X body (tS X.K ad J W s1)) (hs : ∀ x, foldedSetIterable iter X.env x = pure x := by intro _; rfl) :
    PS X (.For tg iter body [] pos) (tS X.K ad J W (sForT m bm s1)) := by
  refine ps_imp (ps_for hp hc (pi_tup hi) hg hb hs) ?_
  rintro En σ H ⟨S, r, L, O, j, rl, rs, p⟩
  refine ⟨S, r, L, O, j, rl, rs, (bindS j rl p).imp ?_⟩
  rintro x H1 ⟨S1, r1, d, O1, e1, q1, p1, k1⟩
  have rl1 := rl.mono e1
  cases d with
  | tup ds =>
    obtain ⟨a, vs, rfl, h1, h2⟩ := p1
    have hq : ∀ {S' : Hp} {H : Hp}, Same S1 S' → Same S' H → SqT X.K H a vs := fun e e' => sqT_same e' (sqT_same e h1)
    refine ⟨a, rfl, ⟨vs, hq (Same.refl _) q1.sub⟩, for_still (It' := Itt X.K a) ds h2 (fun i H S x e e' hx => ⟨vs, x, hq e e', hx⟩) (fun i H S x y H' e e' hx hy => ⟨Option.some.inj ((hy.2 vs (hq e e')).symm.trans hx), hy.1⟩) (fun i H S e e' hl => ⟨vs, hq e e', hl⟩) (J.mono e1.s j) rl1 q1 k1⟩
  | hdl n => exact k1.elim
  | lst n => exact k1.elim
  | rol n => exact k1.elim
  | non => exact k1.elim
  | bl b => exact k1.elim
  | int i => exact k1.elim
  | str s => exact k1.elim
theorem range_rp {S : Hp} {r : Rg} (lo : Int) (n : Nat) : RpAll X.K S r (rangeD lo n) ((List.range n).map fun (i : Nat) => V.int (lo + (i : Int))) := by
  unfold rangeD
  generalize List.range n = l
  induction l with
  | nil => exact rfl
  | cons a l ih => exact ⟨_, _, rfl, rfl, ih⟩
theorem for_range_post {lo : Int} {n : Nat} {S0 : Hp} {r0 : Rg} {L : Loc} {O : Store} {σ : L2.St} {H : Hp} {En : Ends} (j : J.p σ S0) (rl : Rl X.K S0 r0 L σ) (rs : Rs X.K ad S0 r0 O H) (h : PostS X.K ad J W S0 r0 En (loopD (turnOf bm s1) (rangeD lo n) L O)) :
    ∃ W' : Nat → Nat → L2.St → Hp → Prop, (∃ m, W' 0 m σ H) ∧ ∀ i m σ H, W' i m σ H →
      ((Itr lo n).stop i H ∧ En.nx σ H) ∨ ((Itr lo n).go i H ∧ ∃ N : L2.St → Hp → Prop, (∀ σ' H', N σ' H' → ∃ m', m' < m ∧ W' (i + 1) m' σ' H') ∧ ∀ x H', (Itr lo n).yld i H x H' → tG X.K ad J bm x σ H' fun σ2 H2 => tS X.K ad J W s1 { En with nx := N, ct := N, bk := En.nx } σ2 H2) := by
  have hlen : ((List.range n).map fun (i : Nat) => V.int (lo + (i : Int))).length = n := by rw [List.length_map, List.length_range]
  refine for_still (rangeD lo n) (range_rp lo n) (fun i H S x e e' hx => ?_) (fun i H S x y H' e e' hx hy => ?_) (fun i H S e e' hl => ?_) j rl rs h
  · have := (List.getElem?_eq_some_iff.mp hx).1
    rw [hlen] at this
    exact this
  · have hi := (List.getElem?_eq_some_iff.mp hx).1
    rw [hlen] at hi
    rw [List.getElem?_map, List.getElem?_range hi] at hx
    exact ⟨hy.2.trans (Option.some.inj hx), hy.1⟩
  · rw [hlen] at hl
    exact hl
theorem ds_forR1 {p q : Pos} (hp : PassesOwn (model X.prog X.w) X.A X.env X.xe) (hc : X.calm = true) (hg0 : Gl X "range") (hm : X.mg "range" = none) (ha : PA X [a] (tA X.K ad J W mt)) (hg : PG X tg (tG X.K ad J bm)) (hb : PSs X body (tS X.K ad J W s1))
    (hs0 : starEach [a] X.env = [(false, eval a X.env)] := by rfl) (hs : ∀ x, foldedSetIterable (.Call (.Name "range" p) [a] [] q) X.env x = pure x := by intro _; rfl) : PS X (.For tg (.Call (.Name "range" p) [a] [] q) body [] pos) (tS X.K ad J W (sForR1 mt bm s1)) := by
  refine ps_imp (ps_for hp hc (pi_range1 hg0 hm ha hs0) hg hb hs) ?_
  rintro En σ H ⟨S, r, L, O, j, rl, rs, p⟩
  refine ⟨S, r, L, O, j, rl, rs, (bindS j rl p).imp ?_⟩
  rintro vs H1 ⟨S1, r1, ds, O1, e1, q1, p1, k1⟩
  have k2 : PostS X.K ad J W S1 r1 En (match int1 ds with | some j => loopD (turnOf bm s1) (rangeD 0 j.toNat) L O1 | none => .bad) := k1
  clear k1
  revert k2
  cases hj : int1 ds with
  | none => exact fun k2 => k2.elim
  | some jj =>
    intro k1
    obtain ⟨rfl, b1, b2⟩ := int1_ok hj
    obtain ⟨v, vr, rfl, rfl, rfl⟩ := p1
    exact ⟨jj, rfl, by omega, by omega, for_range_post (J.mono e1.s j) (rl.mono e1) q1 k1⟩
theorem ds_forR2 {p q : Pos} (hp : PassesOwn (model X.prog X.w) X.A X.env X.xe) (hc : X.calm = true) (hg0 : Gl X "range") (hm : X.mg "range" = none) (ha : PA X [a, b] (tA X.K ad J W mt)) (hg : PG X tg (tG X.K ad J bm)) (hb : PSs X body (tS X.K ad J W s1))
    (hs0 : starEach [a, b] X.env = [(false, eval a X.env), (false, eval b X.env)] := by rfl) (hs2 : starEach [b] X.env = [(false, eval b X.env)] := by rfl) (hs : ∀ x, foldedSetIterable (.Call (.Name "range" p) [a, b] [] q) X.env x = pure x := by intro _; rfl) : PS X (.For tg (.Call (.Name "range" p) [a, b] [] q) body [] pos) (tS X.K ad J W (sForR2 mt bm s1)) := by
  refine ps_imp (ps_for hp hc (pi_range2 hg0 hm ha hs0 hs2) hg hb hs) ?_
  rintro En σ H ⟨S, r, L, O, j, rl, rs, p⟩
  refine ⟨S, r, L, O, j, rl, rs, (bindS j rl p).imp ?_⟩
  rintro vs H1 ⟨S1, r1, ds, O1, e1, q1, p1, k1⟩
  have k2 : PostS X.K ad J W S1 r1 En (match int2 ds with | some p => loopD (turnOf bm s1) (rangeD p.1 (p.2 - p.1).toNat) L O1 | none => .bad) := k1
  clear k1
  revert k2
  cases hj : int2 ds with
  | none => exact fun k2 => k2.elim
  | some jj =>
    intro k1
    obtain ⟨rfl, ⟨b1, b2⟩, b3, b4⟩ := int2_ok hj
    obtain ⟨v, vr, rfl, rfl, u, ur, rfl, rfl, rfl⟩ := p1
    exact ⟨jj.1, jj.2, rfl, ⟨by omega, by omega, by omega, by omega⟩, for_range_post (J.mono e1.s j) (rl.mono e1) q1 k1⟩
theorem loopW_succ {n : Nat} {L : Loc} {O : Store} : loopW tm s1 (n + 1) L O = ofRes L (tm L O) fun k O1 => if k = true then afterT (s1 L O1) (loopW tm s1 n) else .next L O1 := by
  rfl
theorem ds_while {n : Nat} (hp : PassesOwn (model X.prog X.w) X.A X.env X.xe) (hc : PT X c (tT X.K ad J W tm)) (hb : PSs X body (tS X.K ad J W s1)) : PS X (.While c body [] pos) (tS X.K ad J W (sWhile n tm s1)) := by
  refine ps_imp (ps_while hp hc hb) ?_
  rintro En σ H ⟨S, r, L, O, j, rl, rs, p⟩
  refine ⟨fun m σ H => ∃ S r L O, J.p σ S ∧ Rl X.K S r L σ ∧ Rs X.K ad S r O H ∧ PostS X.K ad J W S r En (loopW tm s1 m L O), ⟨n, S, r, L, O, j, rl, rs, p⟩, ?_⟩
  rintro m σ H ⟨S, r, L, O, j, rl, rs, p⟩
  cases m with
  | zero => exact p.elim
  | succ m =>
    rw [loopW_succ] at p
    refine ⟨S, r, L, O, j, rl, rs, (bindS j rl p).imp ?_⟩
    rintro k H1 ⟨S1, r1, d, O1, e1, q1, rfl, k1⟩
    cases k with
    | true =>
      rw [if_pos rfl] at k1 ⊢
      refine ⟨fun σ' H' => ∃ S' r' L' O', Ext S1 r1 S' r' ∧ J.p σ' S' ∧ Rl X.K S' r' L' σ' ∧ Rs X.K ad S' r' O' H' ∧ PostS X.K ad J W S' r' En (loopW tm s1 m L' O'), ?_, S1, r1, L, O1, J.mono e1.s j, rl.mono e1, q1, turn_post k1⟩
      rintro σ' H' ⟨S', r', L', O', e', j', l', q', h'⟩
      exact ⟨m, Nat.lt_succ_self m, S', r', L', O', j', l', q', h'⟩
    | false =>
      rw [if_neg Bool.false_ne_true] at k1 ⊢
      exact k1 S1 r1 σ H1 (Ext.refl _ _) (J.mono e1.s j) (rl.mono e1) q1
end

/-! ### a def -/
section
variable {P : Program} {w : World} {K : PySem.W.Frag} {mg : Str → Option Value} {base : Heap} {ad : Str → Addr}
theorem start_rl {S : Hp} {r : Rg} {N : List Str} {ds : List D} {vs : List V} (hl : vs.length ≤ N.length) (h : RpAll K S r ds vs) : Rl K S r (ds.map some ++ List.replicate (N.length - ds.length) none) (L2.start N vs) where
  len := by
    unfold L2.start
    rw [List.length_append, List.length_append, List.length_map, List.length_map, List.length_replicate, List.length_replicate, h.length]
  at_ := fun i d q => by
    by_cases hi : i < ds.length
    · rw [List.getElem?_append_left (by rw [List.length_map]; exact hi), List.getElem?_map] at q
      cases e : ds[i]? with
      | none => rw [e] at q; cases q
      | some d' =>
        rw [e] at q
        obtain rfl : d' = d := Option.some.inj (Option.some.inj q)
        obtain ⟨v, hv, p⟩ := h.get e
        refine ⟨v, ?_, p⟩
        unfold L2.start
        rw [List.getElem?_append_left (by rw [List.length_map, h.length]; exact hi), List.getElem?_map, hv]
        rfl
    · rw [List.getElem?_append_right (by rw [List.length_map]; omega), List.getElem?_replicate] at q
      split at q <;> cases q
theorem fn_def {x qual : Str} {params : Arguments} {bd : List Stmt} {scope : Scope} {dvs : List V} {kws : List (Str × V)} {f : Addr} {fd : FuncData} {N ps : List Str} {k : Nat} {b : SM} (F : FunD K x qual params bd scope dvs kws f fd) (sc : FnScope N ps scope)
    (hb : ∀ (cdv : Value) (A : Around) (outer : List Env) (s : Shared) (H : Hp) (E : XK), Room k (A.deeper (PyProof.Rows.envOfC qual scope s.heap.objs.size f cdv)) →
      PSs (cxOf (L2.CX P w) P w K mg base N qual scope f cdv A outer s H E) bd (tS K ad JT (fun c d _ H => E c d H) b)) :
    FnOk P w K mg base (L2.CX P w) (k + 1) f fd ps (spM K ad ps.length (runF N.length b)) := by
  have hpl : ps.length ≤ N.length := by have := congrArg List.length sc.pre; rw [List.length_take] at this; omega
  refine F.ok sc (fun vs H Q E h => ?_) (fun cdv A outer s H vs Q E hr h => ?_)
  · obtain ⟨S, r, O, ds, hl, _, hp, _⟩ := h
    rw [hp.length, hl]
  · refine ⟨_, hb cdv A outer s H E hr, ?_⟩
    obtain ⟨S, r, O, ds, hl, rs, hp, p⟩ := h
    refine ⟨S, r, _, O, trivial, start_rl (by rw [hp.length, hl]; exact hpl) hp, rs, ?_⟩
    unfold runF at p
    generalize b (ds.map some ++ List.replicate (N.length - ds.length) none) O = z at p
    cases z with
    | next L O => exact fun S' r' σ H e _ _ q => p S' r' H .non e q rfl
    | ret d O => exact p
    | brk L O => exact p.elim
    | cnt L O => exact p.elim
    | exc x L O => exact fun S' r' σ H d e _ _ q g => p S' r' H d e q g
    | bad => exact p
end
end DK
end
section
set_option Elab.async false
set_option linter.all false
set_option autoImplicit false
set_option maxRecDepth 100000
set_option maxHeartbeats 4000000
/-! DKOps: operators, subscripts, built-ins, by mirrors. -/
namespace DK
open PySem L2

def pureO (x : Option D) (O : Store) : Option (D × Store) := match x with
  | some d => some (d, O)
  | none => none
def newLO (h : Bool) (xs : List D) (O : Store) : Option (D × Store) := if xs.length ≤ 1000000 then (if h = true then some (.hdl O.length, O ++ [.lst xs]) else some (.lst xs, O)) else none
theorem ofO_newLO (h : Bool) (xs : List D) (O : Store) : ofO (newLO h xs O) = newL h xs O := by
  unfold newLO newL
  split
  · split <;> rfl
  · rfl
section
variable {K : PySem.W.Frag} {ad : Str → Addr} {S : Hp} {r : Rg} {O : Store} {H : Hp} {d : D} {W : WX} {σ : L2.St} {Q : VK}
theorem post_pure {x : Option D} {v : D} (rs : Rs K ad S r O H) (e : x = some v) (p : Post K ad (fun S r => Rp K S r) W σ S r Q (ofO (pureO x O))) (u : V) (h : Rp K S r v u) : Q u H := by
  subst e
  exact p S r H u (Ext.refl _ _) rs h
end

/-! ### + and others -/
def gAdd (h : Bool) : Store → D → D → Option (D × Store) := fun O x y => match x, y with
  | .int i, .int j => some (.int (i + j), O)
  | .str a, .str b => if a.length + b.length ≤ 1000000 then some (.str (a ++ b), O) else none
  | .tup a, .tup b => if a.length + b.length ≤ 1000000 then some (.tup (a ++ b), O) else none
  | _, _ => match lstOf O x, lstOf O y with
    | some a, some b => newLO h (a ++ b) O
    | _, _ => none
def gI (f : Int → Int → D) (C : Int → Int → Bool) : Store → D → D → Option (D × Store) := fun O x y => match x, y with
  | .int i, .int j => if C i j = true then some (f i j, O) else none
  | _, _ => none
def gSub := gI (fun i j => .int (i - j)) (fun _ _ => true)
def gMul := gI (fun i j => .int (i * j)) (fun i j => decide (i.natAbs.log2 + j.natAbs.log2 < 1000000))
def gFdiv := gI (fun i j => .int (i / j)) (fun _ j => decide (0 < j ∧ j.natAbs.log2 < 9000))
def gMod := gI (fun i j => .int (i % j)) (fun _ j => decide (0 < j))
def gPow := gI (fun i j => .int (i ^ j.toNat)) (fun i j => decide (0 ≤ j ∧ j ≤ 1000000 ∧ i.natAbs < 2 ^ 64))
section
variable {X : Cx} {ad : Str → Addr}
theorem catL {S : Hp} {r : Rg} {O : Store} {H : Hp} {x y : V} {d e : D} {W : WX} {σ : L2.St} {Q : VK} {h : Bool} (rs : Rs X.K ad S r O H) (px : Rp X.K S r d x) (py : Rp X.K S r e y)
    (p : Post X.K ad (fun S r => Rp X.K S r) W σ S r Q (ofO (match lstOf O d, lstOf O e with | some a, some b => newLO h (a ++ b) O | _, _ => none))) : rCat x y H Q := by
  split at p
  · rename_i a b ha hb
    obtain ⟨l, vs, rfl, q1, q2⟩ := lstOf_ok rs px ha
    obtain ⟨m, us, rfl, q3, q4⟩ := lstOf_ok rs py hb
    rw [ofO_newLO] at p
    obtain ⟨h1, h2⟩ := newL_post rs (q2.append q4) p
    exact ⟨l, m, vs, us, rfl, rfl, q1, q3, by rw [List.length_append] at h1; exact h1, h2⟩
  · exact p.elim
theorem od_add (h : Bool) : OpD X ad (binaryOp .Add) (gAdd h) where
  ok := by
    refine ⟨_, OpR.or op_add (OpR.or op_add_str (OpR.or op_catA op_cat)), ?_⟩
    intro S r O H x y d e W σ Q rs px py p
    unfold gAdd at p
    split at p
    · rename_i i j
      rw [show x = .int i from px, show y = .int j from py]
      exact .inl ⟨i, j, rfl, rfl, p S r H _ (Ext.refl _ _) rs rfl⟩
    · rename_i a b
      rw [show x = .str a from px, show y = .str b from py]
      split at p
      · rename_i hl
        exact .inr (.inl ⟨a, b, rfl, rfl, million hl, p S r H _ (Ext.refl _ _) rs rfl⟩)
      · exact p.elim
    · rename_i a b
      split at p
      · rename_i hl
        obtain ⟨l, vs, rfl, q1, q2⟩ := px
        obtain ⟨m, us, rfl, q3, q4⟩ := py
        refine .inr (.inr (.inl ⟨l, m, vs, us, rfl, rfl, sqT_same rs.sub q1, sqT_same rs.sub q3, by rw [q2.length, q4.length]; exact million hl, fun e => ?_, fun e1 e2 => ?_, fun e1 e2 => ?_⟩))
        · refine p S r H _ (Ext.refl _ _) rs ⟨m, us, rfl, q3, ?_⟩
          have q5 := q2.append q4
          rw [e] at q5
          exact q5
        · refine p S r H _ (Ext.refl _ _) rs ⟨l, vs, rfl, q1, ?_⟩
          have q5 := q2.append q4
          rw [e2, List.append_nil] at q5
          exact q5
        · exact newT_post rs (q2.append q4) p
      · exact p.elim
    · exact .inr (.inr (.inr (catL rs px py p)))
theorem od_I {bop : Value → Value → Sem Value} {f : Int → Int → V} {g : Int → Int → D} {C : Int → Int → Prop} {c : Int → Int → Bool} (ho : OpR X bop (rI C f)) (hc : ∀ i j, c i j = true → C i j) (hg : ∀ i j S r, Rp X.K S r (g i j) (f i j)) : OpD X ad bop (gI g c) where
  ok := by
    refine ⟨_, ho, ?_⟩
    intro S r O H x y d e W σ Q rs px py p
    unfold gI at p
    split at p
    · rename_i i j
      rw [show x = .int i from px, show y = .int j from py]
      split at p
      · rename_i hcc
        exact ⟨i, j, rfl, rfl, hc i j hcc, p S r H _ (Ext.refl _ _) rs (hg i j S r)⟩
      · exact p.elim
    · exact p.elim
theorem od_I0 {bop : Value → Value → Sem Value} {f : Int → Int → V} {g : Int → Int → D} (ho : OpR X bop (rI0 f)) (hg : ∀ i j S r, Rp X.K S r (g i j) (f i j)) : OpD X ad bop (gI g fun _ _ => true) where
  ok := by
    refine ⟨_, ho, ?_⟩
    intro S r O H x y d e W σ Q rs px py p
    unfold gI at p
    split at p
    · rename_i i j
      rw [show x = .int i from px, show y = .int j from py]
      rw [if_pos rfl] at p
      exact ⟨i, j, rfl, rfl, p S r H _ (Ext.refl _ _) rs (hg i j S r)⟩
    · exact p.elim
theorem od_sub : OpD X ad (binaryOp .Sub) gSub := od_I0 op_sub fun _ _ _ _ => rfl
theorem od_mul : OpD X ad (binaryOp .Mult) gMul := od_I op_mulW (fun i j h => (of_decide_eq_true h : i.natAbs.log2 + j.natAbs.log2 < 1000000)) fun _ _ _ _ => rfl
theorem od_fdiv : OpD X ad (binaryOp .FloorDiv) gFdiv := od_I op_fdivW (fun i j h => (of_decide_eq_true h : 0 < j ∧ j.natAbs.log2 < 9000)) fun _ _ _ _ => rfl
theorem od_mod : OpD X ad (binaryOp .Mod) gMod := od_I op_mod (fun i j h => of_decide_eq_true h) fun _ _ _ _ => rfl
theorem od_pow : OpD X ad (binaryOp .Pow) gPow := od_I op_pow (fun i j h => (of_decide_eq_true h : 0 ≤ j ∧ j ≤ 1000000 ∧ i.natAbs < 2 ^ 64)) fun _ _ _ _ => rfl

/-! ### comparisons -/
/-- ints, texts -/
def gCmp (f : Int → Int → Bool) (g : Str → Str → Bool) : Store → D → D → Option (D × Store) := fun O x y => match x, y with
  | .int i, .int j => some (.bl (f i j), O)
  | .str i, .str j => some (.bl (g i j), O)
  | _, _ => none
def gLt := gCmp (fun i j => decide (i < j)) (fun i j => decide (i.cps.toList < j.cps.toList))
def gLe := gCmp (fun i j => decide (i ≤ j)) (fun i j => !decide (j.cps.toList < i.cps.toList))
def gGt := gCmp (fun i j => decide (j < i)) (fun i j => decide (j.cps.toList < i.cps.toList))
def gGe := gCmp (fun i j => decide (j ≤ i)) (fun i j => !decide (i.cps.toList < j.cps.toList))
theorem od_cmp {bop : Value → Value → Sem Value} {f : Int → Int → Bool} {g : Str → Str → Bool} (h1 : OpR X bop (rI0 fun i j => .bl (f i j))) (h2 : OpR X bop (fun x y H Q => ∃ i j, x = .str i ∧ y = .str j ∧ Q (.bl (g i j)) H)) : OpD X ad bop (gCmp f g) where
  ok := by
    refine ⟨_, OpR.or h1 h2, ?_⟩
    intro S r O H x y d e W σ Q rs px py p
    unfold gCmp at p
    split at p
    · rename_i i j
      rw [show x = .int i from px, show y = .int j from py]
      exact .inl ⟨i, j, rfl, rfl, p S r H _ (Ext.refl _ _) rs rfl⟩
    · rename_i i j
      rw [show x = .str i from px, show y = .str j from py]
      exact .inr ⟨i, j, rfl, rfl, p S r H _ (Ext.refl _ _) rs rfl⟩
    · exact p.elim
theorem od_lt : OpD X ad (compareOp .Lt) gLt := od_cmp op_lt op_lt_str
theorem od_le : OpD X ad (compareOp .LtE) gLe := od_cmp op_le op_le_str
theorem od_gt : OpD X ad (compareOp .Gt) gGt := od_cmp op_gt op_gt_str
theorem od_ge : OpD X ad (compareOp .GtE) gGe := od_cmp op_ge op_ge_str
/-- flat values -/
def flatOf : D → Option V
  | .non => some .non
  | .bl b => some (.bl b)
  | .int i => some (.int i)
  | .str s => some (.str s)
  | _ => none
theorem flatOf_ok {K : PySem.W.Frag} {S : Hp} {r : Rg} {d : D} {v x : V} (h : flatOf d = some v) (p : Rp K S r d x) : x = v ∧ flatV v = true := by
  cases d <;> first | (cases h; done) | (have e := Option.some.inj h; subst e; exact ⟨p, rfl⟩)
/-- a value read through, for == -/
def deep (O : Store) : Nat → D → Option PyData
  | 0, _ => none
  | n + 1, .non => some .none
  | n + 1, .bl b => some (.bool b)
  | n + 1, .int i => some (.int i)
  | n + 1, .str s => some (.str s)
  | n + 1, .lst xs => (xs.mapM (deep O n)).map .list
  | n + 1, .rol xs => (xs.mapM (deep O n)).map .list
  | n + 1, .tup xs => (xs.mapM (deep O n)).map .tuple
  | n + 1, .hdl k => match O[k]? with
    | some (.lst xs) => (xs.mapM (deep O n)).map .list
    | _ => none
theorem mapM_cons {α β : Type} {f : α → Option β} {x : α} {xs : List α} : (x :: xs).mapM f = (f x).bind fun y => (xs.mapM f).bind fun ys => some (y :: ys) := by
  simp [List.mapM_cons]
theorem deepAll_ok {K : PySem.W.Frag} {S : Hp} {r : Rg} {H : Hp} {g : D → Option PyData} (hg : ∀ d v p, Rp K S r d v → g d = some p → Dp K H v p) : ∀ {ds : List D} {vs : List V} {ps : List PyData}, RpAll K S r ds vs → ds.mapM g = some ps → DpAll K H vs ps
  | [], vs, ps, h, e => by
    rw [show vs = [] from h]
    have e : some [] = some ps := by rw [List.mapM_nil] at e; exact e
    cases e
    exact .nil
  | d :: ds, vs, ps, h, e => by
    obtain ⟨v, vr, rfl, h1, h2⟩ := h
    rw [mapM_cons] at e
    cases e1 : g d with
    | none => rw [e1] at e; cases e
    | some p =>
      rw [e1] at e
      cases e2 : ds.mapM g with
      | none =>
        rw [e2] at e
        cases e
      | some qs =>
        rw [e2] at e
        cases e
        exact .cons (hg d v p h1 e1) (deepAll_ok hg h2 e2)
theorem deep_ok {K : PySem.W.Frag} {S : Hp} {r : Rg} {O : Store} {H : Hp} (rs : Rs K ad S r O H) : ∀ (n : Nat) (d : D) (v : V) (p : PyData), Rp K S r d v → deep O n d = some p → Dp K H v p
  | 0, d, v, p, h, e => by cases e
  | n + 1, .non, v, p, h, e => by cases e; rw [show v = .non from h]; exact .non
  | n + 1, .bl b, v, p, h, e => by cases e; rw [show v = .bl b from h]; exact .bl b
  | n + 1, .int i, v, p, h, e => by cases e; rw [show v = .int i from h]; exact .int i
  | n + 1, .str s, v, p, h, e => by cases e; rw [show v = .str s from h]; exact .str s
  | n + 1, .lst xs, v, p, h, e => by
    obtain ⟨a, vs, rfl, q1, q2⟩ := h
    obtain ⟨ps, e1, rfl⟩ := Option.map_eq_some_iff.mp (show (xs.mapM (deep O n)).map .list = some p from e)
    exact .lst (.of (rs.sub _ _ q1)) (deepAll_ok (deep_ok rs n) q2 e1)
  | n + 1, .rol xs, v, p, h, e => by
    obtain ⟨a, vs, rfl, q1, q2⟩ := h
    obtain ⟨ps, e1, rfl⟩ := Option.map_eq_some_iff.mp (show (xs.mapM (deep O n)).map .list = some p from e)
    exact .lst (sqL_same rs.sub q1) (deepAll_ok (deep_ok rs n) q2 e1)
  | n + 1, .tup xs, v, p, h, e => by
    obtain ⟨a, vs, rfl, q1, q2⟩ := h
    obtain ⟨ps, e1, rfl⟩ := Option.map_eq_some_iff.mp (show (xs.mapM (deep O n)).map .tuple = some p from e)
    exact .tup (sqT_same rs.sub q1) (deepAll_ok (deep_ok rs n) q2 e1)
  | n + 1, .hdl k, v, p, h, e => by
    have e : (match O[k]? with | some (.lst xs) => (xs.mapM (deep O n)).map .list | _ => none) = some p := e
    split at e
    · rename_i xs hx
      obtain ⟨a, rfl, q1, _, vs, q3, q4⟩ := hdl_at rs h hx
      obtain ⟨ps, e1, rfl⟩ := Option.map_eq_some_iff.mp e
      exact .lst (.of q3) (deepAll_ok (deep_ok rs n) q4 e1)
    · cases e
/-- == -/
def eqD (O : Store) (x y : D) : Option Bool := match flatOf x, flatOf y with
  | some v, some u => if scal v u = true then some (decide (v = u)) else match deep O 2 x, deep O 2 y with
    | some p, some q => if SeqAt.shaped p = true ∧ SeqAt.shaped q = true then some (PyData.eqv p q) else none
    | _, _ => none
  | _, _ => match deep O 30 x, deep O 30 y with
    | some p, some q => if SeqAt.shaped p = true ∧ SeqAt.shaped q = true then some (PyData.eqv p q) else none
    | _, _ => none
def gEq : Store → D → D → Option (D × Store) := fun O x y => match eqD O x y with
  | some b => some (.bl b, O)
  | none => none
def gNe : Store → D → D → Option (D × Store) := fun O x y => match eqD O x y with
  | some b => some (.bl (!b), O)
  | none => none
theorem eqD_ok {S : Hp} {r : Rg} {O : Store} {H : Hp} {x y : V} {d e : D} {b : Bool} (rs : Rs X.K ad S r O H) (px : Rp X.K S r d x) (py : Rp X.K S r e y) (h : eqD O d e = some b) :
    (scal x y = true ∧ decide (x = y) = b) ∨ (∃ p q, Dp X.K H x p ∧ Dp X.K H y q ∧ SeqAt.shaped p = true ∧ SeqAt.shaped q = true ∧ PyData.eqv p q = b) := by
  have deepCase : ∀ n, (match deep O n d, deep O n e with | some p, some q => if SeqAt.shaped p = true ∧ SeqAt.shaped q = true then some (PyData.eqv p q) else none | _, _ => none) = some b →
      (∃ p q, Dp X.K H x p ∧ Dp X.K H y q ∧ SeqAt.shaped p = true ∧ SeqAt.shaped q = true ∧ PyData.eqv p q = b) := fun n h => by
    split at h
    · rename_i p q e1 e2
      split at h
      · rename_i hs
        exact ⟨p, q, deep_ok rs n d x p px e1, deep_ok rs n e y q py e2, hs.1, hs.2, Option.some.inj h⟩
      · cases h
    · cases h
  unfold eqD at h
  split at h
  · rename_i v u e1 e2
    split at h
    · rename_i hs
      obtain ⟨rfl, _⟩ := flatOf_ok e1 px
      obtain ⟨rfl, _⟩ := flatOf_ok e2 py
      exact .inl ⟨hs, Option.some.inj h⟩
    · exact .inr (deepCase 2 h)
  · exact .inr (deepCase 30 h)
theorem od_eq (hu : X.A.units + 64 < cLine) : OpD X ad (compareOp .Eq) gEq where
  ok := by
    refine ⟨_, OpR.or op_eq (op_eqD hu), ?_⟩
    intro S r O H x y d e W σ Q rs px py p
    unfold gEq at p
    split at p
    · rename_i b hb
      have q := p S r H (.bl b) (Ext.refl _ _) rs rfl
      rcases eqD_ok rs px py hb with ⟨h1, h2⟩ | ⟨p1, p2, h1, h2, h3, h4, h5⟩
      · exact .inl ⟨h1, by rw [h2]; exact q⟩
      · exact .inr ⟨p1, p2, h1, h2, h3, h4, by rw [h5]; exact q⟩
    · exact p.elim
theorem od_ne (hu : X.A.units + 64 < cLine) : OpD X ad (compareOp .NotEq) gNe where
  ok := by
    refine ⟨_, OpR.or op_ne (op_neD hu), ?_⟩
    intro S r O H x y d e W σ Q rs px py p
    unfold gNe at p
    split at p
    · rename_i b hb
      have q := p S r H (.bl (!b)) (Ext.refl _ _) rs rfl
      rcases eqD_ok rs px py hb with ⟨h1, h2⟩ | ⟨p1, p2, h1, h2, h3, h4, h5⟩
      · exact .inl ⟨h1, by rw [h2]; exact q⟩
      · exact .inr ⟨p1, p2, h1, h2, h3, h4, by rw [h5]; exact q⟩
    · exact p.elim
def isNon : D → Bool
  | .non => true
  | _ => false
theorem isNon_ok {K : PySem.W.Frag} {S : Hp} {r : Rg} {d : D} {x : V} (p : Rp K S r d x) : decide (x = .non) = isNon d := by
  cases d with
  | non => rw [show x = .non from p]; rfl
  | bl b => rw [show x = .bl b from p]; rfl
  | int i => rw [show x = .int i from p]; rfl
  | str s => rw [show x = .str s from p]; rfl
  | lst s => obtain ⟨a, _, rfl, _⟩ := p; rfl
  | rol s => obtain ⟨a, _, rfl, _⟩ := p; rfl
  | tup s => obtain ⟨a, _, rfl, _⟩ := p; rfl
  | hdl s => obtain ⟨a, rfl, _⟩ := p; rfl
def gIs : Store → D → D → Option (D × Store) := fun O x y => match y with
  | .non => some (.bl (isNon x), O)
  | _ => none
def gIsNot : Store → D → D → Option (D × Store) := fun O x y => match y with
  | .non => some (.bl (!isNon x), O)
  | _ => none
theorem od_is : OpD X ad (compareOp .Is) gIs where
  ok := by
    refine ⟨_, op_isN, ?_⟩
    intro S r O H x y d e W σ Q rs px py p
    unfold gIs at p
    split at p
    · exact ⟨py, by rw [isNon_ok px]; exact p S r H _ (Ext.refl _ _) rs rfl⟩
    · exact p.elim
theorem od_isnot : OpD X ad (compareOp .IsNot) gIsNot where
  ok := by
    refine ⟨_, op_notN, ?_⟩
    intro S r O H x y d e W σ Q rs px py p
    unfold gIsNot at p
    split at p
    · exact ⟨py, by rw [isNon_ok px]; exact p S r H _ (Ext.refl _ _) rs rfl⟩
    · exact p.elim
/-- in, not in: a sign in a text; a flat value in a list or tuple of flat ones -/
def inD (O : Store) (x y : D) : Option Bool := match x, y with
  | .str z, .str w => match z.cps.toList with
    | [c] => some (decide (c ∈ w.cps.toList))
    | _ => none
  | _, _ => match seqOf O y, flatOf x with
    | some ds, some v => match ds.mapM flatOf with
      | some vs => some (inV v vs)
      | none => none
    | _, _ => none
def gIn : Store → D → D → Option (D × Store) := fun O x y => match inD O x y with
  | some b => some (.bl b, O)
  | none => none
def gNotIn : Store → D → D → Option (D × Store) := fun O x y => match inD O x y with
  | some b => some (.bl (!b), O)
  | none => none
theorem flats_ok {K : PySem.W.Frag} {S : Hp} {r : Rg} : ∀ {ds : List D} {vs us : List V}, ds.mapM flatOf = some vs → RpAll K S r ds us → us = vs ∧ vs.all flatV = true
  | [], vs, us, e, h => by
    have e : some [] = some vs := by rw [List.mapM_nil] at e; exact e
    cases e
    exact ⟨h, rfl⟩
  | d :: ds, vs, us, e, h => by
    obtain ⟨v, vr, rfl, h1, h2⟩ := h
    rw [mapM_cons] at e
    cases e1 : flatOf d with
    | none => rw [e1] at e; cases e
    | some p =>
      rw [e1] at e
      cases e2 : ds.mapM flatOf with
      | none => rw [e2] at e; cases e
      | some qs =>
        rw [e2] at e
        cases e
        obtain ⟨rfl, f1⟩ := flatOf_ok e1 h1
        obtain ⟨rfl, f2⟩ := flats_ok e2 h2
        exact ⟨rfl, by rw [List.all_cons, f1, f2]; rfl⟩
theorem inD_ok {S : Hp} {r : Rg} {O : Store} {H : Hp} {x y : V} {d e : D} {b : Bool} (rs : Rs X.K ad S r O H) (px : Rp X.K S r d x) (py : Rp X.K S r e y) (h : inD O d e = some b) :
    (∃ (c : Nat) (z : Str), x = .str ⟨#[c]⟩ ∧ y = .str z ∧ decide (c ∈ z.cps.toList) = b) ∨ (∃ p xs, y = .ref p ∧ (SqL X.K H p xs ∨ SqT X.K H p xs) ∧ flatV x = true ∧ xs.all flatV = true ∧ inV x xs = b) := by
  unfold inD at h
  split at h
  · rename_i z w
    split at h
    · rename_i c hc
      refine .inl ⟨c, w, ?_, py, Option.some.inj h⟩
      rw [show x = .str z from px]
      congr 1
      obtain ⟨⟨l⟩⟩ := z
      have hc : l = [c] := hc
      rw [hc]
    · cases h
  · split at h
    · rename_i ds v e1 e2
      split at h
      · rename_i vs e3
        obtain ⟨a, us, rfl, q1, q2⟩ := seqOf_ok rs py e1
        obtain ⟨rfl, f1⟩ := flatOf_ok e2 px
        obtain ⟨rfl, f2⟩ := flats_ok e3 q2
        exact .inr ⟨a, us, rfl, q1, f1, f2, Option.some.inj h⟩
      · cases h
    · cases h
theorem od_in : OpD X ad (compareOp .In) gIn where
  ok := by
    refine ⟨_, OpR.or op_in_sign op_in_seq, ?_⟩
    intro S r O H x y d e W σ Q rs px py p
    unfold gIn at p
    split at p
    · rename_i b hb
      have q := p S r H (.bl b) (Ext.refl _ _) rs rfl
      rcases inD_ok rs px py hb with ⟨c, z, h1, h2, h3⟩ | ⟨p1, xs, h1, h2, h3, h4, h5⟩
      · exact .inl ⟨c, z, h1, h2, by rw [h3]; exact q⟩
      · exact .inr ⟨p1, xs, h1, h2, h3, h4, by rw [if_neg Bool.false_ne_true, h5]; exact q⟩
    · exact p.elim
theorem od_notin : OpD X ad (compareOp .NotIn) gNotIn where
  ok := by
    refine ⟨_, OpR.or op_notIn_sign op_notIn_seq, ?_⟩
    intro S r O H x y d e W σ Q rs px py p
    unfold gNotIn at p
    split at p
    · rename_i b hb
      have q := p S r H (.bl (!b)) (Ext.refl _ _) rs rfl
      rcases inD_ok rs px py hb with ⟨c, z, h1, h2, h3⟩ | ⟨p1, xs, h1, h2, h3, h4, h5⟩
      · exact .inl ⟨c, z, h1, h2, by rw [h3]; exact q⟩
      · exact .inr ⟨p1, xs, h1, h2, h3, h4, by rw [if_pos rfl, h5]; exact q⟩
    · exact p.elim
end

/-! ### subscripts -/
/-- xs[i], t[i], s[i] -/
def gIx : Store → D → D → Option (D × Store) := fun O x y => match y with
  | .int i => match x with
    | .str s => if s.length ≤ 1000000 then (match atI s.cps.toList i with
      | some c => some (.str ⟨#[c]⟩, O)
      | none => none) else none
    | _ => match seqOf O x with
      | some ds => match atI ds i with
        | some d => some (d, O)
        | none => none
      | none => none
  | _ => none
section
variable {X : Cx} {ad : Str → Addr} {J : JP} {W : WX} {pos p2 : Pos} {a b e : Expr} {ma mb : EM}
theorem atI_rp {K : PySem.W.Frag} {S : Hp} {r : Rg} {ds : List D} {vs : List V} {i : Int} {d : D} (h : RpAll K S r ds vs) (e : atI ds i = some d) : ∃ v, atI vs i = some v ∧ Rp K S r d v := by
  unfold atI at e ⊢
  rw [h.length]
  cases hj : ixN ds.length i with
  | none => rw [hj] at e; cases e
  | some j =>
    rw [hj] at e
    exact h.get e
theorem de_ix (ha : PE X a (tE X.K ad J W ma)) (hb : PE X b (tE X.K ad J W mb)) (hs : PlainIx b) : PE X (.Subscript a b pos) (tE X.K ad J W (mOp gIx ma mb)) := by
  refine pe_imp (pe_ix ix_seq ha hb hs) ?_
  rintro σ H Q ⟨S, r, L, O, j, rl, rs, p⟩
  refine ⟨S, r, L, O, j, rl, rs, (Post.bind p).imp ?_⟩
  rintro x H1 ⟨S1, r1, d, O1, e1, s1, p1, q1⟩
  refine ⟨S1, r1, L, O1, J.mono e1.s j, rl.mono e1, s1, (Post.bind q1).imp ?_⟩
  rintro y H2 ⟨S2, r2, e, O2, e2, s2, p2, q2⟩
  replace p1 := Rp.mono e2 d x p1
  replace q2 : Post X.K ad (fun S r => Rp X.K S r) W σ S2 r2 Q (ofO (gIx O2 d e)) := q2
  unfold gIx at q2
  split at q2
  · rename_i i
    rw [show y = .int i from p2]
    split at q2
    · rename_i s
      rw [show x = .str s from p1]
      split at q2
      · rename_i hl
        split at q2
        · rename_i c hc
          exact .inr (.inr ⟨s, i, c, rfl, rfl, million hl, hc, q2 S2 r2 H2 _ (Ext.refl _ _) s2 rfl⟩)
        · exact q2.elim
      · exact q2.elim
    · split at q2
      · rename_i ds hds
        split at q2
        · rename_i z hz
          obtain ⟨l, vs, rfl, h1, h2⟩ := seqOf_ok s2 p1 hds
          obtain ⟨v, hv, pv⟩ := atI_rp h2 hz
          have q := q2 S2 r2 H2 v (Ext.refl _ _) s2 pv
          rcases h1 with h1 | h1
          · exact .inl ⟨l, vs, i, v, rfl, rfl, h1, hv, q⟩
          · exact .inr (.inl ⟨l, vs, i, v, rfl, rfl, h1, hv, q⟩)
        · exact q2.elim
      · exact q2.elim
  · exact q2.elim
end
/-- lists alone -/
def lsqOf (O : Store) : D → Option (List D)
  | .lst xs => some xs
  | .rol xs => some xs
  | .hdl n => match O[n]? with
    | some (.lst xs) => some xs
    | _ => none
  | _ => none
theorem lsqOf_ok {K : PySem.W.Frag} {ad : Str → Addr} {S : Hp} {r : Rg} {O : Store} {H : Hp} {d : D} {x : V} {xs : List D} (s : Rs K ad S r O H) (p : Rp K S r d x) (h : lsqOf O d = some xs) : ∃ a vs, x = .ref a ∧ SqL K H a vs ∧ RpAll K S r xs vs := by
  cases d with
  | lst ds =>
    obtain rfl : ds = xs := Option.some.inj h
    obtain ⟨a, vs, e, q, w⟩ := p
    exact ⟨a, vs, e, .of (s.sub _ _ q), w⟩
  | rol ds =>
    obtain rfl : ds = xs := Option.some.inj h
    obtain ⟨a, vs, e, q, w⟩ := p
    exact ⟨a, vs, e, sqL_same s.sub q, w⟩
  | tup ds => cases h
  | hdl n =>
    replace h : (match O[n]? with | some (Ob.lst xs) => some xs | _ => none) = some xs := h
    split at h
    · rename_i zs e
      obtain rfl : zs = xs := Option.some.inj h
      obtain ⟨a, e1, e2, _, vs, e3, e4⟩ := hdl_at s p e
      exact ⟨a, vs, e1, .of e3, e4⟩
    · cases h
  | non => cases h
  | bl b => cases h
  | int i => cases h
  | str z => cases h
/-- a slice's ends -/
abbrev OM := Loc → Store → Res (Option Int)
def oNone : OM := fun _ O => .ok none O
def oSome (m : EM) : OM := fun L O => (m L O).bind fun d O1 => match d with
  | .int i => .ok (some i) O1
  | _ => .bad
def cutD {α : Type} (xs : List α) (lo hi : Option Int) : List α := (xs.drop (HT.sIx xs.length 0 lo)).take (HT.sIx xs.length xs.length hi - HT.sIx xs.length 0 lo)
def gSl (h : Bool) (x : D) (lo hi : Option Int) (O : Store) : Res D := match x with
  | .str s => if s.length ≤ 1000000 then .ok (.str (cutS s lo hi)) O else .bad
  | .tup ds => .ok (.tup (cutD ds lo hi)) O
  | _ => match lsqOf O x with
    | some ds => newL h (cutD ds lo hi) O
    | none => .bad
def mSl (h : Bool) (m : EM) (lo hi : OM) : EM := fun L O => (m L O).bind fun x O1 => (lo L O1).bind fun i O2 => (hi L O2).bind fun j O3 => gSl h x i j O3
section
variable {X : Cx} {ad : Str → Addr} {J : JP} {W : WX} {pos p2 : Pos} {a e : Expr} {ma : EM} {lo hi : Option Expr} {ml mh : OM}
def tO (K : PySem.W.Frag) (ad : Str → Addr) (J : JP) (W : WX) (m : OM) : TO := fun σ H Q => ∃ S r L O, J.p σ S ∧ Rl K S r L σ ∧ Rs K ad S r O H ∧ Post K ad (fun _ _ a v => v = a) W σ S r Q (m L O)
theorem po_imp {t t' : TO} (h : PO X lo t) (k : ∀ σ H Q, t' σ H Q → t σ H Q) : PO X lo t' := ⟨fun pins s σ H Q I q => h.run pins s σ H Q I (k σ H Q q)⟩
theorem do_none : PO X none (tO X.K ad J W oNone) := by
  refine po_imp po_none ?_
  rintro σ H Q ⟨S, r, L, O, j, rl, rs, p⟩
  exact p S r H none (Ext.refl _ _) rs rfl
theorem do_some (he : PE X e (tE X.K ad J W ma)) : PO X (some e) (tO X.K ad J W (oSome ma)) := by
  refine po_imp (po_some he) ?_
  rintro σ H Q ⟨S, r, L, O, j, rl, rs, p⟩
  refine ⟨S, r, L, O, j, rl, rs, (Post.bind p).imp ?_⟩
  rintro x H1 ⟨S1, r1, d, O1, e1, s1, p1, q1⟩
  cases d with
  | int i => exact ⟨i, p1, q1 S1 r1 H1 _ (Ext.refl _ _) s1 rfl⟩
  | non => exact q1.elim
  | bl i => exact q1.elim
  | str s => exact q1.elim
  | lst s => exact q1.elim
  | rol s => exact q1.elim
  | tup s => exact q1.elim
  | hdl s => exact q1.elim
theorem cut_rp {K : PySem.W.Frag} {S : Hp} {r : Rg} {ds : List D} {vs : List V} (h : RpAll K S r ds vs) (lo hi : Option Int) : RpAll K S r (cutD ds lo hi) (cutV vs lo hi) := by
  unfold cutD cutV
  rw [h.length]
  exact (h.drop _).take _
theorem de_sl {hm : Bool} (ha : PE X a (tE X.K ad J W ma)) (hl : PO X lo (tO X.K ad J W ml)) (hh : PO X hi (tO X.K ad J W mh)) : PE X (.Subscript a (.Slice lo hi none p2) pos) (tE X.K ad J W (mSl hm ma ml mh)) := by
  refine pe_imp (pe_slice (SlR.or sl_list (SlR.or sl_tupA sl_str)) ha hl hh) ?_
  rintro σ H Q ⟨S, r, L, O, j, rl, rs, p⟩
  refine ⟨S, r, L, O, j, rl, rs, (Post.bind p).imp ?_⟩
  rintro x H1 ⟨S1, r1, d, O1, e1, s1, p1, q1⟩
  refine ⟨S1, r1, L, O1, J.mono e1.s j, rl.mono e1, s1, (Post.bind q1).imp ?_⟩
  rintro i H2 ⟨S2, r2, i', O2, e2, s2, rfl, q2⟩
  refine ⟨S2, r2, L, O2, J.mono (e1.trans e2).s j, rl.mono (e1.trans e2), s2, (Post.bind q2).imp ?_⟩
  rintro k H3 ⟨S3, r3, k', O3, e3, s3, rfl, q3⟩
  replace p1 := Rp.mono (e2.trans e3) d x p1
  unfold gSl at q3
  split at q3
  · rename_i s
    rw [show x = .str s from p1]
    split at q3
    · rename_i hl
      exact .inr (.inr ⟨s, rfl, million hl, q3 S3 r3 H3 _ (Ext.refl _ _) s3 rfl⟩)
    · exact q3.elim
  · rename_i ds
    obtain ⟨l, vs, rfl, h1, h2⟩ := p1
    have h3 := cut_rp h2 i k
    refine .inr (.inl ⟨l, vs, rfl, sqT_same s3.sub h1, fun ⟨z1, z2⟩ => ?_, fun _ => newT_post s3 h3 q3⟩)
    refine q3 S3 r3 H3 _ (Ext.refl _ _) s3 ⟨l, vs, rfl, h1, ?_⟩
    have e4 : cutV vs i k = vs := by
      unfold cutV
      rw [z1, z2, List.drop_zero, Nat.sub_zero, List.take_length]
    rw [e4] at h3
    exact h3
  · split at q3
    · rename_i ds hds
      obtain ⟨l, vs, rfl, h1, h2⟩ := lsqOf_ok s3 p1 hds
      exact .inl ⟨l, vs, rfl, h1, (newL_post s3 (cut_rp h2 i k) q3).2⟩
    · exact q3.elim
end
end DK
end
section
set_option Elab.async false
set_option linter.all false
set_option autoImplicit false
set_option maxRecDepth 100000
set_option maxHeartbeats 4000000
/-! DKCall: built-ins, methods, fields, objects, by mirrors. -/
namespace DK
open PySem L2

def g1 (f : Store → D → Option (D × Store)) : Store → List D → Option (D × Store) := fun O ds => match ds with
  | [d] => f O d
  | _ => none
def g2 (f : Store → D → D → Option (D × Store)) : Store → List D → Option (D × Store) := fun O ds => match ds with
  | [d, e] => f O d e
  | _ => none
theorem g1_cases {α : Type} {f : Store → D → Option (D × Store)} {O : Store} {ds : List D} {P : Res D → Prop} (hb : P .bad → False) (h : P (ofO (g1 f O ds))) : ∃ d, ds = [d] ∧ P (ofO (f O d)) := by
  unfold g1 at h
  split at h
  · exact ⟨_, rfl, h⟩
  · exact (hb h).elim
theorem g2_cases {f : Store → D → D → Option (D × Store)} {O : Store} {ds : List D} {P : Res D → Prop} (hb : P .bad → False) (h : P (ofO (g2 f O ds))) : ∃ d e, ds = [d, e] ∧ P (ofO (f O d e)) := by
  unfold g2 at h
  split at h
  · exact ⟨_, _, rfl, h⟩
  · exact (hb h).elim

/-! ### len, int, abs, str, list, .. -/
def gLen : Store → D → Option (D × Store) := fun O d => match d with
  | .str s => if s.length ≤ 1000000 then some (.int s.length, O) else none
  | .hdl n => match O[n]? with
    | some (.lst xs) => some (.int xs.length, O)
    | some (.dct xs) => some (.int xs.length, O)
    | _ => none
  | _ => match seqOf O d with
    | some xs => some (.int xs.length, O)
    | none => none
def gInt : Store → D → Option (D × Store) := fun O d => match d with
  | .int i => some (.int i, O)
  | .bl b => some (.int (if b then 1 else 0), O)
  | .str s => if s.length ≤ 640 then (match PySem.intText? s with
    | some n => some (.int n, O)
    | none => none) else none
  | _ => none
def gAbs : Store → D → Option (D × Store) := fun O d => match d with
  | .int i => some (.int (if i < 0 then -i else i), O)
  | _ => none
def gMax2 : Store → D → D → Option (D × Store) := fun O d e => match d, e with
  | .int i, .int j => some (.int (if j > i then j else i), O)
  | _, _ => none
def gMin2 : Store → D → D → Option (D × Store) := fun O d e => match d, e with
  | .int i, .int j => some (.int (if j < i then j else i), O)
  | _, _ => none
def gStr : Store → D → Option (D × Store) := fun O d => match d with
  | .int i => if i.natAbs.log2 < 1920 then some (.str (toString i), O) else none
  | .str s => some (.str s, O)
  | _ => none
def gList (h : Bool) : Store → D → Option (D × Store) := fun O d => match seqOf O d with
  | some xs => newLO h xs O
  | none => none
def intsOf : List D → Option (List Int)
  | [] => some []
  | .int i :: ds => (intsOf ds).map (i :: ·)
  | _ => none
def gSum : Store → D → Option (D × Store) := fun O d => match lsqOf O d with
  | some xs => match intsOf xs with
    | some ns => some (.int ns.sum, O)
    | none => none
  | none => none
def maxI : List Int → Option Int
  | [] => none
  | x :: xs => some (xs.foldl (fun a b => if b > a then b else a) x)
def minI : List Int → Option Int
  | [] => none
  | x :: xs => some (xs.foldl (fun a b => if b < a then b else a) x)
def gMaxL : Store → D → Option (D × Store) := fun O d => match lsqOf O d with
  | some xs => match (intsOf xs).bind maxI with
    | some n => some (.int n, O)
    | none => none
  | none => none
def gMinL : Store → D → Option (D × Store) := fun O d => match lsqOf O d with
  | some xs => match (intsOf xs).bind minI with
    | some n => some (.int n, O)
    | none => none
  | none => none
def boolsOf : List D → Option (List Bool)
  | [] => some []
  | .bl i :: ds => (boolsOf ds).map (i :: ·)
  | _ => none
def gAny : Store → D → Option (D × Store) := fun O d => match lsqOf O d with
  | some xs => match boolsOf xs with
    | some ns => some (.bl (ns.any id), O)
    | none => none
  | none => none
def gAll : Store → D → Option (D × Store) := fun O d => match lsqOf O d with
  | some xs => match boolsOf xs with
    | some ns => some (.bl (ns.all id), O)
    | none => none
  | none => none
theorem intsOf_rp {K : PySem.W.Frag} {S : Hp} {r : Rg} : ∀ {ds : List D} {vs : List V} {ns : List Int}, RpAll K S r ds vs → intsOf ds = some ns → vs = ns.map V.int
  | [], vs, ns, h, e => by cases e; exact h
  | .int i :: ds, vs, ns, h, e => by
    obtain ⟨v, vr, rfl, rfl, h2⟩ := h
    have e : (intsOf ds).map (i :: ·) = some ns := e
    obtain ⟨ms, e1, rfl⟩ := Option.map_eq_some_iff.mp e
    rw [intsOf_rp h2 e1]
    rfl
  | .non :: _, _, _, _, e => by cases e
  | .bl _ :: _, _, _, _, e => by cases e
  | .str _ :: _, _, _, _, e => by cases e
  | .lst _ :: _, _, _, _, e => by cases e
  | .rol _ :: _, _, _, _, e => by cases e
  | .tup _ :: _, _, _, _, e => by cases e
  | .hdl _ :: _, _, _, _, e => by cases e
theorem boolsOf_rp {K : PySem.W.Frag} {S : Hp} {r : Rg} : ∀ {ds : List D} {vs : List V} {ns : List Bool}, RpAll K S r ds vs → boolsOf ds = some ns → vs = ns.map V.bl
  | [], vs, ns, h, e => by cases e; exact h
  | .bl i :: ds, vs, ns, h, e => by
    obtain ⟨v, vr, rfl, rfl, h2⟩ := h
    have e : (boolsOf ds).map (i :: ·) = some ns := e
    obtain ⟨ms, e1, rfl⟩ := Option.map_eq_some_iff.mp e
    rw [boolsOf_rp h2 e1]
    rfl
  | .non :: _, _, _, _, e => by cases e
  | .int _ :: _, _, _, _, e => by cases e
  | .str _ :: _, _, _, _, e => by cases e
  | .lst _ :: _, _, _, _, e => by cases e
  | .rol _ :: _, _, _, _, e => by cases e
  | .tup _ :: _, _, _, _, e => by cases e
  | .hdl _ :: _, _, _, _, e => by cases e
theorem maxI_is {ns : List Int} {m m' : Int} (h : maxI ns = some m) (h1 : m' ∈ ns) (h2 : ∀ y, y ∈ ns → y ≤ m') : m' = m := by
  have key : ∀ (l : List Int) (a : Int), (a ≤ l.foldl (fun a b => if b > a then b else a) a) ∧ (∀ y ∈ l, y ≤ l.foldl (fun a b => if b > a then b else a) a) ∧ (l.foldl (fun a b => if b > a then b else a) a = a ∨ l.foldl (fun a b => if b > a then b else a) a ∈ l) := by
    intro l
    induction l with
    | nil => intro a; exact ⟨Int.le_refl a, fun y hy => by simp at hy, .inl rfl⟩
    | cons b l ih =>
      intro a
      obtain ⟨i1, i2, i3⟩ := ih (if b > a then b else a)
      rw [List.foldl_cons]
      refine ⟨?_, fun y hy => ?_, ?_⟩
      · refine Int.le_trans ?_ i1
        split <;> omega
      · rcases List.mem_cons.mp hy with rfl | hy
        · refine Int.le_trans ?_ i1
          split <;> omega
        · exact i2 y hy
      · rcases i3 with i3 | i3
        · rw [i3]
          split
          · exact .inr List.mem_cons_self
          · exact .inl rfl
        · exact .inr (List.mem_cons_of_mem _ i3)
  cases ns with
  | nil => cases h
  | cons a l =>
    cases h
    obtain ⟨i1, i2, i3⟩ := key l a
    refine Int.le_antisymm ?_ (h2 _ ?_)
    · rcases List.mem_cons.mp h1 with rfl | h1
      · exact i1
      · exact i2 _ h1
    · rcases i3 with i3 | i3
      · rw [i3]; exact List.mem_cons_self
      · exact List.mem_cons_of_mem _ i3
theorem minI_is {ns : List Int} {m m' : Int} (h : minI ns = some m) (h1 : m' ∈ ns) (h2 : ∀ y, y ∈ ns → m' ≤ y) : m' = m := by
  have key : ∀ (l : List Int) (a : Int), (l.foldl (fun a b => if b < a then b else a) a ≤ a) ∧ (∀ y ∈ l, l.foldl (fun a b => if b < a then b else a) a ≤ y) ∧ (l.foldl (fun a b => if b < a then b else a) a = a ∨ l.foldl (fun a b => if b < a then b else a) a ∈ l) := by
    intro l
    induction l with
    | nil => intro a; exact ⟨Int.le_refl a, fun y hy => by simp at hy, .inl rfl⟩
    | cons b l ih =>
      intro a
      obtain ⟨i1, i2, i3⟩ := ih (if b < a then b else a)
      rw [List.foldl_cons]
      refine ⟨?_, fun y hy => ?_, ?_⟩
      · refine Int.le_trans i1 ?_
        split <;> omega
      · rcases List.mem_cons.mp hy with rfl | hy
        · refine Int.le_trans i1 ?_
          split <;> omega
        · exact i2 y hy
      · rcases i3 with i3 | i3
        · rw [i3]
          split
          · exact .inr List.mem_cons_self
          · exact .inl rfl
        · exact .inr (List.mem_cons_of_mem _ i3)
  cases ns with
  | nil => cases h
  | cons a l =>
    cases h
    obtain ⟨i1, i2, i3⟩ := key l a
    refine Int.le_antisymm (h2 _ ?_) ?_
    · rcases i3 with i3 | i3
      · rw [i3]; exact List.mem_cons_self
      · exact List.mem_cons_of_mem _ i3
    · rcases List.mem_cons.mp h1 with rfl | h1
      · exact i1
      · exact i2 _ h1
section
variable {X : Cx} {ad : Str → Addr}
theorem cd_1 {f : Value} {rr : List V → Hp → VK → Prop} {g : Store → D → Option (D × Store)} (hc : CallR X f rr)
    (h : ∀ (S : Hp) (r : Rg) (O : Store) (H : Hp) (x : V) (d : D) (W : WX) (σ : L2.St) (Q : VK), Rs X.K ad S r O H → Rp X.K S r d x → Post X.K ad (fun S r => Rp X.K S r) W σ S r Q (ofO (g O d)) → rr [x] H Q) : CallD X ad f (g1 g) where
  ok := by
    refine ⟨rr, hc, fun S r O H vs ds W σ Q rs p q => ?_⟩
    unfold g1 at q
    split at q
    · rename_i d
      obtain ⟨v, vr, rfl, h1, rfl⟩ := p
      exact h S r O H v d W σ Q rs h1 q
    · exact q.elim
theorem cd_2 {f : Value} {rr : List V → Hp → VK → Prop} {g : Store → D → D → Option (D × Store)} (hc : CallR X f rr)
    (h : ∀ (S : Hp) (r : Rg) (O : Store) (H : Hp) (x y : V) (d e : D) (W : WX) (σ : L2.St) (Q : VK), Rs X.K ad S r O H → Rp X.K S r d x → Rp X.K S r e y → Post X.K ad (fun S r => Rp X.K S r) W σ S r Q (ofO (g O d e)) → rr [x, y] H Q) : CallD X ad f (g2 g) where
  ok := by
    refine ⟨rr, hc, fun S r O H vs ds W σ Q rs p q => ?_⟩
    unfold g2 at q
    split at q
    · rename_i d e
      obtain ⟨v, vr, rfl, h1, u, ur, rfl, h2, rfl⟩ := p
      exact h S r O H v u d e W σ Q rs h1 h2 q
    · exact q.elim
theorem cd_len : CallD X ad (.builtin "len") (g1 gLen) := cd_1 (CallR.or call_len call_lenD) fun S r O H x d W σ Q rs p q => by
  have seqCase : ∀ {xs : List D}, seqOf O d = some xs → Post X.K ad (fun S r => Rp X.K S r) W σ S r Q (ofO (some (D.int xs.length, O))) → ((∃ y n, [x] = [y] ∧ LenV X.K y H n ∧ Q (.int n) H) ∨ (∃ a kvs, [x] = [V.ref a] ∧ H a = some (.dK kvs) ∧ Q (.int kvs.length) H)) := fun {xs} e q => by
    obtain ⟨a, vs, rfl, h1, h2⟩ := seqOf_ok rs p e
    refine .inl ⟨_, vs.length, rfl, ?_, by rw [h2.length]; exact q S r H _ (Ext.refl _ _) rs rfl⟩
    rcases h1 with h1 | h1
    · exact .inl ⟨vs, h1, rfl⟩
    · exact .inr ⟨vs, h1, rfl⟩
  unfold gLen at q
  split at q
  · rename_i s
    rw [show x = .str s from p]
    split at q
    · rename_i hl
      exact .inl ⟨_, s.length, rfl, ⟨million hl, rfl⟩, q S r H _ (Ext.refl _ _) rs rfl⟩
    · exact q.elim
  · rename_i n
    split at q
    · rename_i xs hx
      refine seqCase ?_ q
      show (match O[n]? with | some (Ob.lst xs) => some xs | _ => none) = some xs
      rw [hx]
    · rename_i xs hx
      obtain ⟨a, rfl, h1, _, vs, h2, h3⟩ := hdl_at rs p hx
      have hl : ∀ {ks : List (Key × D)} {us : List (Key × V)}, RpP X.K S r ks us → us.length = ks.length := fun {ks} => by
        induction ks with
        | nil => intro us h; rw [show us = [] from h]; rfl
        | cons k ks ih => intro us h; obtain ⟨_, _, rfl, _, h⟩ := h; rw [List.length_cons, List.length_cons, ih h]
      exact .inr ⟨a, vs, rfl, h2, by rw [hl h3]; exact q S r H _ (Ext.refl _ _) rs rfl⟩
    · exact q.elim
  · split at q
    · rename_i xs hx
      exact seqCase hx q
    · exact q.elim
theorem cd_int : CallD X ad (.type "int") (g1 gInt) := cd_1 (CallR.or call_int1 call_int_str) fun S r O H x d W σ Q rs p q => by
  unfold gInt at q
  split at q
  · rename_i i
    rw [show x = .int i from p]
    exact .inl (.inl ⟨i, rfl, q S r H _ (Ext.refl _ _) rs rfl⟩)
  · rename_i b
    rw [show x = .bl b from p]
    exact .inl (.inr ⟨b, rfl, q S r H _ (Ext.refl _ _) rs rfl⟩)
  · rename_i s
    rw [show x = .str s from p]
    split at q
    · rename_i hl
      split at q
      · rename_i n hn
        exact .inr ⟨s, n, rfl, hn, hl, q S r H _ (Ext.refl _ _) rs rfl⟩
      · exact q.elim
    · exact q.elim
  · exact q.elim
theorem cd_abs : CallD X ad (.builtin "abs") (g1 gAbs) := cd_1 call_abs fun S r O H x d W σ Q rs p q => by
  unfold gAbs at q
  split at q
  · rename_i i
    rw [show x = .int i from p]
    exact ⟨i, rfl, q S r H _ (Ext.refl _ _) rs rfl⟩
  · exact q.elim
theorem cd_max2 (hc : X.calm = true) : CallD X ad (.builtin "max") (g2 gMax2) := cd_2 (call_max2 hc) fun S r O H x y d e W σ Q rs p1 p2 q => by
  unfold gMax2 at q
  split at q
  · rename_i i j
    rw [show x = .int i from p1, show y = .int j from p2]
    exact ⟨i, j, rfl, q S r H _ (Ext.refl _ _) rs rfl⟩
  · exact q.elim
theorem cd_min2 (hc : X.calm = true) : CallD X ad (.builtin "min") (g2 gMin2) := cd_2 (call_min2 hc) fun S r O H x y d e W σ Q rs p1 p2 q => by
  unfold gMin2 at q
  split at q
  · rename_i i j
    rw [show x = .int i from p1, show y = .int j from p2]
    exact ⟨i, j, rfl, q S r H _ (Ext.refl _ _) rs rfl⟩
  · exact q.elim
theorem cd_str : CallD X ad (.type "str") (g1 gStr) := cd_1 (CallR.or call_str_int SkE.call_str_str) fun S r O H x d W σ Q rs p q => by
  unfold gStr at q
  split at q
  · rename_i i
    rw [show x = .int i from p]
    split at q
    · rename_i hl
      exact .inl ⟨i, rfl, hl, q S r H _ (Ext.refl _ _) rs rfl⟩
    · exact q.elim
  · rename_i i
    rw [show x = .str i from p]
    exact .inr ⟨i, rfl, q S r H _ (Ext.refl _ _) rs rfl⟩
  · exact q.elim
theorem cd_list (h : Bool) : CallD X ad (.type "list") (g1 (gList h)) := cd_1 call_list_of fun S r O H x d W σ Q rs p q => by
  unfold gList at q
  split at q
  · rename_i xs hx
    obtain ⟨a, vs, rfl, h1, h2⟩ := seqOf_ok rs p hx
    rw [ofO_newLO] at q
    exact ⟨a, vs, rfl, h1, (newL_post rs h2 q).2⟩
  · exact q.elim
theorem cd_sum (hc : X.calm = true) : CallD X ad (.builtin "sum") (g1 gSum) := cd_1 (cr_sum hc) fun S r O H x d W σ Q rs p q => by
  unfold gSum at q
  split at q
  · rename_i xs hx
    obtain ⟨a, vs, rfl, h1, h2⟩ := lsqOf_ok rs p hx
    split at q
    · rename_i ns hn
      rw [intsOf_rp h2 hn] at h1
      exact ⟨a, ns, rfl, h1, q S r H _ (Ext.refl _ _) rs rfl⟩
    · exact q.elim
  · exact q.elim
theorem cd_maxL (hc : X.calm = true) : CallD X ad (.builtin "max") (g1 gMaxL) := cd_1 (cr_max hc) fun S r O H x d W σ Q rs p q => by
  unfold gMaxL at q
  split at q
  · rename_i xs hx
    obtain ⟨a, vs, rfl, h1, h2⟩ := lsqOf_ok rs p hx
    split at q
    · rename_i n hn
      obtain ⟨ns, e1, e2⟩ := Option.bind_eq_some_iff.mp hn
      rw [intsOf_rp h2 e1] at h1
      refine ⟨a, ns, rfl, h1, ?_, fun m hm hy => ?_⟩
      · cases ns with
        | nil => cases e2
        | cons z zs => exact Nat.succ_pos _
      · rw [maxI_is e2 hm hy]
        exact q S r H _ (Ext.refl _ _) rs rfl
    · exact q.elim
  · exact q.elim
theorem cd_minL (hc : X.calm = true) : CallD X ad (.builtin "min") (g1 gMinL) := cd_1 (cr_min hc) fun S r O H x d W σ Q rs p q => by
  unfold gMinL at q
  split at q
  · rename_i xs hx
    obtain ⟨a, vs, rfl, h1, h2⟩ := lsqOf_ok rs p hx
    split at q
    · rename_i n hn
      obtain ⟨ns, e1, e2⟩ := Option.bind_eq_some_iff.mp hn
      rw [intsOf_rp h2 e1] at h1
      refine ⟨a, ns, rfl, h1, ?_, fun m hm hy => ?_⟩
      · cases ns with
        | nil => cases e2
        | cons z zs => exact Nat.succ_pos _
      · rw [minI_is e2 hm hy]
        exact q S r H _ (Ext.refl _ _) rs rfl
    · exact q.elim
  · exact q.elim
theorem cd_any (hc : X.calm = true) : CallD X ad (.builtin "any") (g1 gAny) := cd_1 (cr_any hc) fun S r O H x d W σ Q rs p q => by
  unfold gAny at q
  split at q
  · rename_i xs hx
    obtain ⟨a, vs, rfl, h1, h2⟩ := lsqOf_ok rs p hx
    split at q
    · rename_i ns hn
      rw [boolsOf_rp h2 hn] at h1
      exact ⟨a, ns, rfl, h1, q S r H _ (Ext.refl _ _) rs rfl⟩
    · exact q.elim
  · exact q.elim
theorem cd_all (hc : X.calm = true) : CallD X ad (.builtin "all") (g1 gAll) := cd_1 (cr_all hc) fun S r O H x d W σ Q rs p q => by
  unfold gAll at q
  split at q
  · rename_i xs hx
    obtain ⟨a, vs, rfl, h1, h2⟩ := lsqOf_ok rs p hx
    split at q
    · rename_i ns hn
      rw [boolsOf_rp h2 hn] at h1
      exact ⟨a, ns, rfl, h1, q S r H _ (Ext.refl _ _) rs rfl⟩
    · exact q.elim
  · exact q.elim
theorem ud_neg : UnD X ad (unaryOp .USub) (fun O d => match d with | .int i => some (.int (-i), O) | _ => none) where
  ok := by
    refine ⟨_, un_neg, fun S r O H x d W σ Q rs p q => ?_⟩
    split at q
    · rename_i i
      rw [show x = .int i from p]
      exact ⟨i, rfl, q S r H _ (Ext.refl _ _) rs rfl⟩
    · exact q.elim
end
def mNeg (m : EM) : EM := fun L O => (m L O).bind fun d O1 => match d with
  | .int i => .ok (.int (-i)) O1
  | _ => .bad

/-! ### isinstance -/
def tyD (O : Store) : D → Option String
  | .non => some "NoneType"
  | .bl _ => some "bool"
  | .int _ => some "int"
  | .str _ => some "str"
  | .lst _ => some "list"
  | .rol _ => some "list"
  | .tup _ => some "tuple"
  | .hdl n => match O[n]? with
    | some (.lst _) => some "list"
    | some (.dct _) => some "dict"
    | _ => none
/-- isinstance(x, T) -/
def mIsi (T : String) (m : EM) : EM := fun L O => (m L O).bind fun d O1 => match tyD O1 d with
  | some t => match kitB t T with
    | some b => .ok (.bl b) O1
    | none => .bad
  | none => .bad
def kitL (t : String) : List String → Option Bool
  | [] => some false
  | T :: Ts => match kitB t T with
    | some true => some true
    | some false => kitL t Ts
    | none => none
def mIsiT (Ts : List String) (m : EM) : EM := fun L O => (m L O).bind fun d O1 => match tyD O1 d with
  | some t => match kitL t Ts with
    | some b => .ok (.bl b) O1
    | none => .bad
  | none => .bad
section
variable {X : Cx} {ad : Str → Addr} {J : JP} {W : WX} {pos p p2 p3 p4 p5 : Pos} {a b e : Expr} {es : List Expr} {m : EM} {mt : AM}
theorem tyD_ok {S : Hp} {r : Rg} {O : Store} {H : Hp} {d : D} {x : V} {t : String} (rs : Rs X.K ad S r O H) (px : Rp X.K S r d x) (h : tyD O d = some t) : TyX X.K H x (.type t) := by
  cases d with
  | non => cases h; rw [show x = .non from px]; exact .base .non
  | bl b => cases h; rw [show x = .bl b from px]; exact .base (.bl b)
  | int b => cases h; rw [show x = .int b from px]; exact .base (.int b)
  | str b => cases h; rw [show x = .str b from px]; exact .base (.str b)
  | lst s =>
    cases h
    obtain ⟨a, vs, rfl, q, _⟩ := px
    exact .base (.lst (rs.sub _ _ q))
  | rol s =>
    cases h
    obtain ⟨a, vs, rfl, q, _⟩ := px
    rcases sqL_same rs.sub q with (q | ⟨o, q⟩) | ⟨o, its, n, q, c, _⟩
    · exact .base (.lst q)
    · exact .base (.frz q)
    · exact .kList q c
  | tup s =>
    cases h
    obtain ⟨a, vs, rfl, q, _⟩ := px
    rcases sqT_same rs.sub q with (q | ⟨o, q⟩) | ⟨o, its, n, q, c, _⟩
    · exact .base (.tup q)
    · exact .fTuple q
    · exact .kTuple q c
  | hdl n =>
    replace h : (match O[n]? with | some (Ob.lst _) => some "list" | some (Ob.dct _) => some "dict" | _ => none) = some t := h
    split at h
    · rename_i zs e
      cases h
      obtain ⟨a, rfl, _, _, vs, q, _⟩ := hdl_at rs px e
      exact .base (.lst q)
    · rename_i zs e
      cases h
      obtain ⟨a, rfl, _, _, vs, q, _⟩ := hdl_at rs px e
      exact .base (.dK q)
    · cases h
theorem de_isi {T : String} {x : Str} (hg : Gl X "isinstance") (hm : X.mg "isinstance" = none) (hv : bootBuiltins "isinstance" = some (.builtin "isinstance")) (hg2 : Gl X x) (hm2 : X.mg x = none) (hv2 : bootBuiltins x = some (.type T)) (he : PE X e (tE X.K ad J W m))
    (hn : x ≠ "__name__" := by decide) (hd : (x == ("__debug__" : Str)) = false := by decide)
    (hs1 : starEach (e :: [.Name x p2]) X.env = (false, eval e X.env) :: starEach [.Name x p2] X.env := by rfl) (hs2 : starEach (.Name x p2 :: []) X.env = (false, eval (.Name x p2) X.env) :: starEach [] X.env := by rfl)
    (hpl : (backTo pos (starEach [.Name x p2] X.env)).any (·.1) = false := by rfl) : PE X (.Call (.Name "isinstance" p) [e, .Name x p2] [] pos) (tE X.K ad J W (mIsi T m)) := by
  refine pe_imp (pe_callB call_isi hg hm hv (pa_cons he (pa_cons (pe_bltn (v := .ty T) hg2 hm2 hv2 rfl hn hd) pa_nil hs2) hs1) (by decide) (by decide) hs1 hpl) ?_
  rintro σ H Q ⟨S, r, L, O, j, rl, rs, q⟩
  refine ⟨S, r, L, O, j, rl, rs, (Post.bind q).imp ?_⟩
  rintro x H1 ⟨S1, r1, d, O1, e1, s1, p1, q1⟩
  split at q1
  · rename_i t ht
    split at q1
    · rename_i b hb
      exact ⟨x, .ty T, _, .type T, b, rfl, .ty T, tyD_ok s1 p1 ht, kit_ty hb, q1 S1 r1 H1 _ (Ext.refl _ _) s1 rfl⟩
    · exact q1.elim
  · exact q1.elim
/-- the classes written in a tuple -/
inductive TyEs (X : Cx) : List Expr → List String → Prop where
  | nil : TyEs X [] []
  | cons {x : Str} {q : Pos} {T : String} {es : List Expr} {Ts : List String} (hg2 : Gl X x) (hm2 : X.mg x = none) (hv2 : bootBuiltins x = some (.type T)) (hn : x ≠ "__name__") (hd : (x == ("__debug__" : Str)) = false)
      (hs : starEach (.Name x q :: es) X.env = (false, eval (.Name x q) X.env) :: starEach es X.env) (h : TyEs X es Ts) : TyEs X (.Name x q :: es) (T :: Ts)
def tTys (Ts : List String) : TA := fun _ H Q => Q (Ts.map V.ty) H
theorem TyEs.pa {es : List Expr} {Ts : List String} (h : TyEs X es Ts) : PA X es (tTys Ts) := by
  induction h with
  | nil => exact pa_imp pa_nil fun _ _ _ q => q
  | cons hg2 hm2 hv2 hn hd hs h ih => exact pa_imp (pa_cons (pe_bltn (v := .ty _) hg2 hm2 hv2 rfl hn hd) ih hs) fun _ _ _ q => q
theorem kitL_ok {K : PySem.W.Frag} {t : String} : ∀ {Ts : List String} {b : Bool}, kitL t Ts = some b → PySem.W.kitAny K (.type t) (Ts.map Value.type) = some b
  | [], b, h => h
  | T :: Ts, b, h => by
    unfold kitL at h
    split at h
    · rename_i hk
      exact kitAny_cons (kit_ty hk) (fun z => nomatch z) fun _ => (Option.some.inj h).symm
    · rename_i hk
      exact kitAny_cons (kit_ty hk) (fun _ => kitL_ok h) fun z => nomatch z
    · cases h
theorem paired_ty : ∀ Ts : List String, Paired ClsV (Ts.map V.ty) (Ts.map Value.type)
  | [] => .nil
  | T :: Ts => .cons (.ty T) (paired_ty Ts)
theorem de_isiT {Ts : List String} {k : Nat} (hg : Gl X "isinstance") (hm : X.mg "isinstance" = none) (hv : bootBuiltins "isinstance" = some (.builtin "isinstance")) (ht : TyEs X es Ts) (hl : Ts.length ≤ 1000) (he : PE X e (tE X.K ad J W m))
    (hs1 : starEach (e :: [.Tuple es k p2]) X.env = (false, eval e X.env) :: starEach [.Tuple es k p2] X.env := by rfl) (hs2 : starEach (.Tuple es k p2 :: []) X.env = (false, eval (.Tuple es k p2) X.env) :: starEach [] X.env := by rfl)
    (hpl : (backTo pos (starEach [.Tuple es k p2] X.env)).any (·.1) = false := by rfl) : PE X (.Call (.Name "isinstance" p) [e, .Tuple es k p2] [] pos) (tE X.K ad J W (mIsiT Ts m)) := by
  refine pe_imp (pe_callB call_isiT hg hm hv (pa_cons he (pa_cons (pe_tup ht.pa) pa_nil hs2) hs1) (by decide) (by decide) hs1 hpl) ?_
  rintro σ H Q ⟨S, r, L, O, j, rl, rs, q⟩
  refine ⟨S, r, L, O, j, rl, rs, (Post.bind q).imp ?_⟩
  rintro x H1 ⟨S1, r1, d, O1, e1, s1, p1, q1⟩
  refine ⟨by rw [List.length_map]; exact million (by omega), fun tp hp => ?_⟩
  split at q1
  · rename_i t ht
    split at q1
    · rename_i b hb
      have s2 := s1.junk (o := .tup (Ts.map V.ty)) hp
      exact ⟨x, tp, Ts.map V.ty, _, Ts.map Value.type, b, rfl, upd_same, paired_ty Ts, tyD_ok s2 p1 ht, kitL_ok hb, q1 S1 r1 _ _ (Ext.refl _ _) s2 rfl⟩
    · exact q1.elim
  · exact q1.elim
theorem de_neg (ha : PE X a (tE X.K ad J W m)) : PE X (.UnaryOp .USub a pos) (tE X.K ad J W (mNeg m)) := by
  refine pe_imp (pe_un un_neg ha) ?_
  rintro σ H Q ⟨S, r, L, O, j, rl, rs, q⟩
  refine ⟨S, r, L, O, j, rl, rs, (Post.bind q).imp ?_⟩
  rintro x H1 ⟨S1, r1, d, O1, e1, s1, p1, q1⟩
  cases d with
  | int i => exact ⟨i, p1, q1 S1 r1 H1 _ (Ext.refl _ _) s1 rfl⟩
  | non => exact q1.elim
  | bl i => exact q1.elim
  | str s => exact q1.elim
  | lst s => exact q1.elim
  | rol s => exact q1.elim
  | tup s => exact q1.elim
  | hdl s => exact q1.elim
end
end DK
end
section
set_option Elab.async false
set_option linter.all false
set_option autoImplicit false
set_option maxRecDepth 100000
set_option maxHeartbeats 4000000
/-! DKObj: lists that change, objects, exceptions, comprehensions, by mirrors. -/
namespace DK
open PySem L2

/-! ### lists that change -/
/-- xs.append(e), the list one of the store -/
def mApp (m e : EM) : EM := fun L O => (m L O).bind fun x O1 => match x with
  | .hdl n => match lstOf O1 (.hdl n) with
    | some _ => (e L O1).bind fun y O2 => match lstOf O2 (.hdl n) with
      | some xs => if xs.length ≤ 1000000 then .ok .non (O2.set n (.lst (xs ++ [y]))) else .bad
      | none => .bad
    | none => .bad
  | _ => .bad
/-- o[i] = v, the list one of the store -/
def bSubL (mo mi : EM) : BM := fun d L O => match mo L O with
  | .ok (.hdl n) O1 => match mi L O1 with
    | .ok (.int i) O2 => match lstOf O2 (.hdl n) with
      | some xs => match ixN xs.length i with
        | some k => some (L, O2.set n (.lst (xs.set k d)))
        | none => none
      | none => none
    | _ => none
  | _ => none
section
variable {X : Cx} {ad : Str → Addr} {J : JP} {W : WX} {pos p p2 apos cpos : Pos} {a b e o : Expr} {es : List Expr} {m me mo mi : EM} {mt : AM}
theorem hdl_lst {S : Hp} {r : Rg} {O : Store} {H : Hp} {n : Nat} {a : Addr} {xs : List D} (rs : Rs X.K ad S r O H) (hr : r.l[n]? = some a) (h : lstOf O (.hdl n) = some xs) : S a = none ∧ ∃ vs, H a = some (.lst vs) ∧ RpAll X.K S r xs vs := by
  replace h : (match O[n]? with | some (Ob.lst xs) => some xs | _ => none) = some xs := h
  split at h
  · rename_i zs hz
    obtain rfl : zs = xs := Option.some.inj h
    exact rs.ob n a _ hr hz
  · cases h
theorem set_lst {S : Hp} {r : Rg} {O : Store} {H : Hp} {n : Nat} {a : Addr} {vs us : List V} {ys : List D} (rs : Rs X.K ad S r O H) (hr : r.l[n]? = some a) (hz : S a = none) (h : RpAll X.K S r ys us) : Rs X.K ad S r (O.set n (.lst ys)) (upd H a (.lst us)) :=
  rs.write hr hz ⟨hz, us, upd_same, h⟩
theorem de_app (hm : PE X o (tE X.K ad J W m)) (he : PE X e (tE X.K ad J W me)) (hbase : attributeBase o "append" X.env (eval o X.env) = eval o X.env := by rfl)
    (hfew : ((backTo cpos (starEach (e :: []) X.env)).all (fun x => !x.1) && (backToKw cpos (keywordEach [] X.env)).all (fun x => x.1.isSome)
      && decide ((e :: []).length + ([] : List Keyword).length + (if ([] : List Keyword).isEmpty then 0 else 1) < 30)) = true := by rfl)
    (hline : (apos.endLine == cpos.line) = true := by rfl) (hs : starEach (e :: []) X.env = (false, eval e X.env) :: starEach [] X.env := by rfl) (hplain : (backTo cpos (starEach [] X.env)).any (·.1) = false := by rfl) :
    PE X (.Call (.Attribute o "append" apos) [e] [] cpos) (tE X.K ad J W (mApp m me)) := by
  refine pe_imp (pe_bm PySem.F.plainAttrs_list PySem.F.slot_list_append PySem.F.type_list_append mt_append hm (pa_cons he pa_nil hs) hbase hfew hline hs hplain) ?_
  rintro σ H Q ⟨S, r, L, O, j, rl, rs, q⟩
  refine ⟨S, r, L, O, j, rl, rs, (Post.bind q).imp ?_⟩
  rintro x H1 ⟨S1, r1, d, O1, e1, s1, p1, q1⟩
  cases d with
  | hdl n =>
    obtain ⟨l, rfl, hl⟩ := p1
    replace q1 : Post X.K ad (fun S r => Rp X.K S r) W σ S1 r1 Q (match lstOf O1 (.hdl n) with
      | some _ => (me L O1).bind fun y O2 => match lstOf O2 (.hdl n) with
        | some xs => if xs.length ≤ 1000000 then .ok .non (O2.set n (.lst (xs ++ [y]))) else .bad
        | none => .bad
      | none => .bad) := q1
    split at q1
    · rename_i zs hz
      obtain ⟨_, vs, g1, g2⟩ := hdl_lst s1 hl hz
      refine ⟨.inl ⟨rfl, vs, .of g1⟩, S1, r1, L, O1, J.mono e1.s j, rl.mono e1, s1, (Post.bind q1).imp ?_⟩
      rintro y H2 ⟨S2, r2, d, O2, e2, s2, p2, q2⟩
      have hl2 := pre_get e2.r hl
      replace q2 : Post X.K ad (fun S r => Rp X.K S r) W σ S2 r2 Q (match lstOf O2 (.hdl n) with | some xs => if xs.length ≤ 1000000 then .ok .non (O2.set n (.lst (xs ++ [d]))) else .bad | none => .bad) := q2
      split at q2
      · rename_i xs hx
        obtain ⟨z2, us, g3, g4⟩ := hdl_lst s2 hl2 hx
        split at q2
        · rename_i hlen
          exact ⟨l, us, y, rfl, rfl, g3, by rw [g4.length]; exact million_lt hlen, q2 S2 r2 _ _ (Ext.refl _ _) (set_lst (vs := us) s2 hl2 z2 (g4.append (.cons p2 .nil))) rfl⟩
        · exact q2.elim
      · exact q2.elim
    · exact q1.elim
  | non => exact q1.elim
  | bl i => exact q1.elim
  | int i => exact q1.elim
  | str s => exact q1.elim
  | lst s => exact q1.elim
  | rol s => exact q1.elim
  | tup s => exact q1.elim
theorem dg_subL (ho : PE X o (tE X.K ad J W mo)) (hi : PE X e (tE X.K ad J W mi))
    (ha : ∀ v, assign (.Subscript o e pos) X.env v = (do
      let ov ← holding [v] (eval o X.env)
      let iv ← holding [v, ov] (eval e X.env)
      standAt pos
      holding [v, ov, iv] (setItem ov iv v)
      release [v, ov, iv] []) := by intro _; rfl) : PG X (.Subscript o e pos) (tG X.K ad J (bSubL mo mi)) := by
  refine pg_imp (pg_sub ho hi set_list ha) ?_
  rintro v σ H Q ⟨S, r, L, O, d, j, rl, rs, rp, q⟩
  refine ⟨S, r, L, O, j, rl, rs, ?_⟩
  replace q : PostB X.K ad J S r Q (match mo L O with
    | .ok (.hdl n) O1 => match mi L O1 with
      | .ok (.int i) O2 => match lstOf O2 (.hdl n) with
        | some xs => match ixN xs.length i with
          | some k => some (L, O2.set n (.lst (xs.set k d)))
          | none => none
        | none => none
      | _ => none
    | _ => none) := q
  generalize mo L O = z at q
  cases z with
  | exc x O1 => exact q.elim
  | bad => exact q.elim
  | ok y O1 =>
    intro S1 r1 H1 u e1 s1 p1
    cases y with
    | hdl n =>
      obtain ⟨l, rfl, hl⟩ := p1
      refine ⟨S1, r1, L, O1, J.mono e1.s j, rl.mono e1, s1, ?_⟩
      replace q : PostB X.K ad J S r Q (match mi L O1 with
        | .ok (.int i) O2 => match lstOf O2 (.hdl n) with
          | some xs => match ixN xs.length i with
            | some k => some (L, O2.set n (.lst (xs.set k d)))
            | none => none
          | none => none
        | _ => none) := q
      generalize mi L O1 = z at q
      cases z with
      | exc x O2 => exact q.elim
      | bad => exact q.elim
      | ok y O2 =>
        intro S2 r2 H2 u2 e2 s2 p2
        cases y with
        | int i =>
          rw [show u2 = .int i from p2]
          have hl2 := pre_get e2.r hl
          replace q : PostB X.K ad J S r Q (match lstOf O2 (.hdl n) with
            | some xs => match ixN xs.length i with
              | some k => some (L, O2.set n (.lst (xs.set k d)))
              | none => none
            | none => none) := q
          split at q
          · rename_i xs hx
            obtain ⟨z2, us, g3, g4⟩ := hdl_lst s2 hl2 hx
            split at q
            · rename_i k hk
              refine ⟨l, us, i, k, rfl, rfl, g3, by rw [g4.length]; exact hk, ?_⟩
              exact q S2 r2 σ _ (e1.trans e2) (J.mono (e1.trans e2).s j) (rl.mono (e1.trans e2)) (set_lst (vs := us) s2 hl2 z2 (g4.set k (Rp.mono (e1.trans e2) d v rp)))
            · exact q.elim
          · exact q.elim
        | non => exact q.elim
        | bl i => exact q.elim
        | hdl i => exact q.elim
        | str s => exact q.elim
        | lst s => exact q.elim
        | rol s => exact q.elim
        | tup s => exact q.elim
    | non => exact q.elim
    | bl i => exact q.elim
    | int i => exact q.elim
    | str s => exact q.elim
    | lst s => exact q.elim
    | rol s => exact q.elim
    | tup s => exact q.elim
end
/-- a, b = a list -/
def bLst (n : Nat) (c : BsM) : BM := fun d L O => match lsqOf O d with
  | some ds => if ds.length = n then c ds L O else none
  | none => none
section
variable {X : Cx} {ad : Str → Addr} {J : JP} {W : WX} {pos : Pos} {es : List Expr} {bs : BsM}
theorem dg_lst {k n : Nat} (hc : X.calm = true) (h : PGs X es (tGs X.K ad J bs)) (hn : (assignEach es X.env).length = n := by rfl) (hst : (assignEach es X.env).findIdx? (·.1) = none := by rfl) : PG X (.Tuple es k pos) (tG X.K ad J (bLst n bs)) := by
  refine pg_imp (pg_lst hc h hn hst) ?_
  rintro v σ H Q ⟨S, r, L, O, d, j, rl, rs, rp, q⟩
  replace q : PostB X.K ad J S r Q (match lsqOf O d with | some ds => if ds.length = n then bs ds L O else none | none => none) := q
  split at q
  · rename_i ds hd
    obtain ⟨a, vs, rfl, q1, q2⟩ := lsqOf_ok rs rp hd
    split at q
    · rename_i hl
      exact ⟨a, vs, rfl, q1, by rw [q2.length]; exact hl, S, r, L, O, ds, j, rl, rs, q2, q⟩
    · exact q.elim
  · exact q.elim
end

/-! ### objects -/
def mFld (c f : Str) (m : EM) : EM := fun L O => (m L O).bind fun x O1 => match x with
  | .hdl n => match O1[n]? with
    | some (.ins c' fs) => if c' = c then (match fs.lookup f with
      | some d => .ok d O1
      | none => .bad) else .bad
    | _ => .bad
  | _ => .bad
def putD (f : Str) (d : D) : List (Str × D) → List (Str × D)
  | [] => [(f, d)]
  | (g, e) :: r => if g = f then (g, d) :: r else (g, e) :: putD f d r
/-- o.f = e : the value first -/
def sFldM (c f : Str) (mo mv : EM) : SM := fun L O => ofRes L (mv L O) fun y O1 => ofRes L (mo L O1) fun x O2 => match x with
  | .hdl n => match O2[n]? with
    | some (.ins c' fs) => if c' = c ∧ fs.length < 1000 then .next L (O2.set n (.ins c' (putD f y fs))) else .bad
    | _ => .bad
  | _ => .bad
def mMeth (c m : Str) (f : FM) (dds : List D) (mo : EM) (t : AM) : EM := fun L O => (mo L O).bind fun x O1 => match x with
  | .hdl n => match O1[n]? with
    | some (.ins c' fs) => if c' = c ∧ fs.lookup m = none then (t L O1).bind fun xs O2 => f (.hdl n :: (xs ++ dds)) O2 else .bad
    | _ => .bad
  | _ => .bad
def mMake (c : Str) (f : FM) (dds : List D) (t : AM) : EM := fun L O => (t L O).bind fun xs O1 => (f (.hdl O1.length :: (xs ++ dds)) (O1 ++ [.ins c []])).bind fun d O2 => match d with
  | .non => .ok (.hdl O1.length) O2
  | _ => .bad
section
variable {K : PySem.W.Frag} {S : Hp} {r : Rg}
theorem RpP.lookup {f : Str} : ∀ {fs : List (Str × D)} {gs : List (Str × V)} {d : D}, RpP K S r fs gs → fs.lookup f = some d → ∃ v, gs.lookup f = some v ∧ Rp K S r d v
  | [], gs, d, h, e => by cases e
  | (g, x) :: fs, gs, d, h, e => by
    obtain ⟨v, gr, rfl, h1, h2⟩ := h
    rw [List.lookup_cons] at e ⊢
    cases hb : f == g with
    | true =>
      rw [hb] at e
      cases e
      exact ⟨v, rfl, h1⟩
    | false =>
      rw [hb] at e
      exact RpP.lookup h2 e
theorem RpP.lookup0 {f : Str} : ∀ {fs : List (Str × D)} {gs : List (Str × V)}, RpP K S r fs gs → fs.lookup f = none → gs.lookup f = none
  | [], gs, h, e => by rw [show gs = [] from h]; rfl
  | (g, x) :: fs, gs, h, e => by
    obtain ⟨v, gr, rfl, h1, h2⟩ := h
    rw [List.lookup_cons] at e ⊢
    cases hb : f == g with
    | true => rw [hb] at e; cases e
    | false => rw [hb] at e; exact RpP.lookup0 h2 e
theorem RpP.length {κ : Type} : ∀ {fs : List (κ × D)} {gs : List (κ × V)}, RpP K S r fs gs → gs.length = fs.length
  | [], gs, h => by rw [show gs = [] from h]; rfl
  | (g, x) :: fs, gs, h => by
    obtain ⟨v, gr, rfl, h1, h2⟩ := h
    rw [List.length_cons, List.length_cons, RpP.length h2]
theorem RpP.put {f : Str} {d : D} {v : V} (hv : Rp K S r d v) : ∀ {fs : List (Str × D)} {gs : List (Str × V)}, RpP K S r fs gs → RpP K S r (putD f d fs) (putF f v gs)
  | [], gs, h => by
    rw [show gs = [] from h]
    exact ⟨v, [], rfl, hv, rfl⟩
  | (g, x) :: fs, gs, h => by
    obtain ⟨u, gr, rfl, h1, h2⟩ := h
    unfold putD putF
    split
    · exact ⟨v, gr, rfl, hv, h2⟩
    · exact ⟨u, putF f v gr, rfl, h1, RpP.put hv h2⟩
end
section
variable {X : Cx} {ad : Str → Addr} {J : JP} {W : WX} {pos pos' p p2 apos cpos : Pos} {a b e o : Expr} {es : List Expr} {m me mo mi mv : EM} {mt : AM} {c f : Str}
theorem de_fld (he : PE X e (tE X.K ad J W m)) (hc : Cls X.K (ad c)) (hn : NoAttr X.K (ad c) f) (hb : attributeBase e f X.env (eval e X.env) = eval e X.env := by rfl) : PE X (.Attribute e f pos) (tE X.K ad J W (mFld c f m)) := by
  refine pe_imp (pe_fld he hb) ?_
  rintro σ H Q ⟨S, r, L, O, j, rl, rs, q⟩
  refine ⟨S, r, L, O, j, rl, rs, (Post.bind q).imp ?_⟩
  rintro x H1 ⟨S1, r1, d, O1, e1, s1, p1, q1⟩
  cases d with
  | hdl n =>
    replace q1 : Post X.K ad (fun S r => Rp X.K S r) W σ S1 r1 Q (match O1[n]? with
      | some (.ins c' fs) => if c' = c then (match fs.lookup f with
        | some d => .ok d O1
        | none => .bad) else .bad
      | _ => .bad) := q1
    split at q1
    · rename_i c' fs ho
      split at q1
      · rename_i hcc
        subst hcc
        split at q1
        · rename_i d hd
          obtain ⟨l, rfl, _, _, dx, gs, g1, g2⟩ := hdl_at s1 p1 ho
          obtain ⟨v, hv, pv⟩ := g2.lookup hd
          exact ⟨l, ad c', dx, gs, v, rfl, g1, hc, hn, hv, q1 S1 r1 H1 v (Ext.refl _ _) s1 pv⟩
        · exact q1.elim
      · exact q1.elim
    · exact q1.elim
  | non => exact q1.elim
  | bl i => exact q1.elim
  | int i => exact q1.elim
  | str s => exact q1.elim
  | lst s => exact q1.elim
  | rol s => exact q1.elim
  | tup s => exact q1.elim
theorem ds_fld (ho : PE X o (tE X.K ad J W mo)) (he : PE X e (tE X.K ad J W mv)) (hc : Cls X.K (ad c)) (hn : NoAttr X.K (ad c) f) (hs : swapsWith e (some (.Attribute o f pos')) pos.line X.env = pure false := by rfl) : PS X (.Assign [.Attribute o f pos'] e pos) (tS X.K ad J W (sFldM c f mo mv)) := by
  refine ps_imp (ps_fld ho he hs) ?_
  rintro En σ H ⟨S, r, L, O, j, rl, rs, q⟩
  refine ⟨S, r, L, O, j, rl, rs, (bindS j rl q).imp ?_⟩
  rintro y H1 ⟨S1, r1, dy, O1, e1, s1, p1, q1⟩
  refine ⟨S1, r1, L, O1, J.mono e1.s j, rl.mono e1, s1, (bindS (J.mono e1.s j) (rl.mono e1) q1).imp ?_⟩
  rintro x H2 ⟨S2, r2, d, O2, e2, s2, p2, q2⟩
  cases d with
  | hdl n =>
    replace q2 : PostS X.K ad J W S2 r2 En (match O2[n]? with
      | some (.ins c' fs) => if c' = c ∧ fs.length < 1000 then .next L (O2.set n (.ins c' (putD f dy fs))) else .bad
      | _ => .bad) := q2
    split at q2
    · rename_i c' fs ho
      split at q2
      · rename_i hcc
        obtain ⟨rfl, hl⟩ := hcc
        obtain ⟨l, rfl, hr, hz, dx, gs, g1, g2⟩ := hdl_at s2 p2 ho
        refine ⟨l, ad c', dx, gs, rfl, g1, hc, hn, by rw [g2.length]; exact hl, ?_⟩
        exact q2 S2 r2 σ _ (Ext.refl _ _) (J.mono (e1.trans e2).s j) (rl.mono (e1.trans e2)) (s2.write hr hz ⟨hz, dx, _, upd_same, RpP.put (Rp.mono e2 _ _ p1) g2⟩)
      · exact q2.elim
    · exact q2.elim
  | non => exact q2.elim
  | bl i => exact q2.elim
  | int i => exact q2.elim
  | str s => exact q2.elim
  | lst s => exact q2.elim
  | rol s => exact q2.elim
  | tup s => exact q2.elim
/-- a method's call, at the slots -/
theorem meth_run {pins : List (Addr × Obj)} {s : Shared} {σ : L2.St} {H : Hp} {Q : VK} {k : Nat} {g : Addr} {fd : FuncData} {ps : List Str} {sp : Sp} {dvs : List V} {ds : List Value} {E : L2.St → XK} {nm : Str} {C : Addr} {t : TA} {ta : TE} {pl : Sem Bool}
    (he : PE X o ta) (hc : Cls X.K C) (hm : Meth X.K C nm g) (F : FnOk X.prog X.w X.K X.mg X.base (L2.CX X.prog X.w) k g fd ps sp) (hr : Room k X.A) (hb : Binds X.K fd ps ds) (hd : Vals dvs ds) (hx : ∀ σ, PassesAt (L2.CX X.prog X.w) X σ (E σ)) (ha : PA X (e :: es) t)
    (hst : starEach (e :: es) X.env = (false, eval e X.env) :: starEach es X.env) (hpl : (backTo pos (starEach es X.env)).any (·.1) = false)
    (ht : eval (.Call (.Attribute o nm apos) (e :: es) [] pos) X.env = (do
      let ov ← eval o X.env
      standAt apos.atName
      let (f, first) ← holding [ov] (getMethod ov nm pl)
      callWith pos f first (backTo pos (starEach (e :: es) X.env)) (backToKw pos (keywordEach [] X.env))))
    (I : Inv X pins σ H s) (h : ta σ H fun x H1 => ∃ a dx fs, x = .ref a ∧ H1 a = some (.ins C dx fs) ∧ fs.lookup nm = none ∧ t σ H1 fun vs H2 => sp (x :: (vs ++ dvs)) H2 Q (E σ)) :
    wpAny (model X.prog X.w) X.A (eval (.Call (.Attribute o nm apos) (e :: es) [] pos) X.env) (EP X pins σ Q) X.xe s := by
  refine PySem.W.methodCall_KW (pl := pl) (thn (he.run pins s σ H _ I h) ?_) ht
  rintro u s1 ⟨x, H1, I1, rx, a, dx, fs, ex, ea, l, q⟩
  subst ex
  obtain rfl : u = Value.ref a := rx
  refine getmeth_ok I1 ea hc hm l ?_
  refine PySem.W.callWith_K (first := [.ref a]) (h₀ := X.base) I.ok.mod.kin hm.kp (thn (ha.run pos pins s1 σ H1 _ I1 q) ?_) hst hpl
  rintro us s2 ⟨vs, H2, I2, rr, q2⟩
  exact ⟨I2.kIn, run_fnSD (us := .ref a :: us) (vs := .ref a :: vs) F hr hb hd (hx σ) I2 (.cons rfl rr) q2⟩
theorem meth_run0 {pins : List (Addr × Obj)} {s : Shared} {σ : L2.St} {H : Hp} {Q : VK} {k : Nat} {g : Addr} {fd : FuncData} {ps : List Str} {sp : Sp} {dvs : List V} {ds : List Value} {E : L2.St → XK} {nm : Str} {C : Addr} {ta : TE} {pl : Sem Bool}
    (he : PE X o ta) (hc : Cls X.K C) (hm : Meth X.K C nm g) (F : FnOk X.prog X.w X.K X.mg X.base (L2.CX X.prog X.w) k g fd ps sp) (hr : Room k X.A) (hb : Binds X.K fd ps ds) (hd : Vals dvs ds) (hx : ∀ σ, PassesAt (L2.CX X.prog X.w) X σ (E σ))
    (ht : eval (.Call (.Attribute o nm apos) [] [] pos) X.env = (do
      let ov ← eval o X.env
      standAt apos.atName
      let (f, first) ← holding [ov] (getMethod ov nm pl)
      callWith pos f first (backTo pos (starEach [] X.env)) (backToKw pos (keywordEach [] X.env))))
    (I : Inv X pins σ H s) (h : ta σ H fun x H1 => ∃ a dx fs, x = .ref a ∧ H1 a = some (.ins C dx fs) ∧ fs.lookup nm = none ∧ sp (x :: dvs) H1 Q (E σ)) :
    wpAny (model X.prog X.w) X.A (eval (.Call (.Attribute o nm apos) [] [] pos) X.env) (EP X pins σ Q) X.xe s := by
  refine PySem.W.methodCall_KW (pl := pl) (thn (he.run pins s σ H _ I h) ?_) ht
  rintro u s1 ⟨x, H1, I1, rx, a, dx, fs, ex, ea, l, q⟩
  subst ex
  obtain rfl : u = Value.ref a := rx
  refine getmeth_ok I1 ea hc hm l ?_
  exact PySem.W.callWith_K0 (first := [.ref a]) I1.kIn hm.kp (run_fnSD (us := [.ref a]) (vs := [.ref a]) F hr hb hd (hx σ) I1 (.cons rfl .nil) q)
theorem meth_imp {nm : Str} {n : Nat} {fm : FM} {dvs : List V} {dds : List D} (hdd : ∀ S r, RpAll X.K S r dds dvs) : ∀ σ H Q, tE X.K ad J W (mMeth c nm (arity n fm) dds mo mt) σ H Q →
    (tE X.K ad J W mo) σ H fun x H1 => ∃ a dx fs, x = .ref a ∧ H1 a = some (.ins (ad c) dx fs) ∧ fs.lookup nm = none ∧ (tA X.K ad J W mt) σ H1 fun vs H2 => spM X.K ad n fm (x :: (vs ++ dvs)) H2 Q (WE W σ) := by
  rintro σ H Q ⟨S, r, L, O, j, rl, rs, q⟩
  refine ⟨S, r, L, O, j, rl, rs, (Post.bind q).imp ?_⟩
  rintro x H1 ⟨S1, r1, d, O1, e1, s1, p1, q1⟩
  cases d with
  | hdl n' =>
    replace q1 : Post X.K ad (fun S r => Rp X.K S r) W σ S1 r1 Q (match O1[n']? with
      | some (.ins c' fs) => if c' = c ∧ fs.lookup nm = none then (mt L O1).bind fun xs O2 => arity n fm (.hdl n' :: (xs ++ dds)) O2 else .bad
      | _ => .bad) := q1
    split at q1
    · rename_i c' fs ho
      split at q1
      · rename_i hcc
        obtain ⟨rfl, hl⟩ := hcc
        obtain ⟨l, rfl, hr, hz, dx, gs, g1, g2⟩ := hdl_at s1 p1 ho
        refine ⟨l, dx, gs, rfl, g1, g2.lookup0 hl, S1, r1, L, O1, J.mono e1.s j, rl.mono e1, s1, (Post.bind q1).imp ?_⟩
        rintro vs H2 ⟨S2, r2, ds, O2, e2, s2, p2, q2⟩
        exact spM_ar s2 (.cons (Rp.mono e2 (.hdl n') _ p1) (p2.append (hdd S2 r2))) q2
      · exact q1.elim
    · exact q1.elim
  | non => exact q1.elim
  | bl i => exact q1.elim
  | int i => exact q1.elim
  | str s => exact q1.elim
  | lst s => exact q1.elim
  | rol s => exact q1.elim
  | tup s => exact q1.elim
theorem de_meth {nm : Str} {k n : Nat} {g : Addr} {fd : FuncData} {ps : List Str} {fm : FM} {dvs : List V} {dds : List D} {ds : List Value} {pl : Sem Bool} (he : PE X o (tE X.K ad J W mo)) (hc : Cls X.K (ad c)) (hm : Meth X.K (ad c) nm g) (F : FnOk X.prog X.w X.K X.mg X.base (L2.CX X.prog X.w) k g fd ps (spM X.K ad n fm))
    (hr : Room k X.A) (hb : Binds X.K fd ps ds) (hd : Vals dvs ds) (hdd : ∀ S r, RpAll X.K S r dds dvs) (tk : Takes X W) (ha : PA X (e :: es) (tA X.K ad J W mt))
    (hst : starEach (e :: es) X.env = (false, eval e X.env) :: starEach es X.env := by rfl) (hpl : (backTo pos (starEach es X.env)).any (·.1) = false := by rfl)
    (ht : eval (.Call (.Attribute o nm apos) (e :: es) [] pos) X.env = (do
      let ov ← eval o X.env
      standAt apos.atName
      let (f, first) ← holding [ov] (getMethod ov nm pl)
      callWith pos f first (backTo pos (starEach (e :: es) X.env)) (backToKw pos (keywordEach [] X.env))) := by rfl) :
    PE X (.Call (.Attribute o nm apos) (e :: es) [] pos) (tE X.K ad J W (mMeth c nm (arity n fm) dds mo mt)) :=
  ⟨fun pins s σ H Q I h => meth_run he hc hm F hr hb hd (fun σ => passAt tk σ) ha hst hpl ht I (meth_imp hdd σ H Q h)⟩
theorem de_meth0 {nm : Str} {k n : Nat} {g : Addr} {fd : FuncData} {ps : List Str} {fm : FM} {dvs : List V} {dds : List D} {ds : List Value} {pl : Sem Bool} (he : PE X o (tE X.K ad J W mo)) (hc : Cls X.K (ad c)) (hm : Meth X.K (ad c) nm g) (F : FnOk X.prog X.w X.K X.mg X.base (L2.CX X.prog X.w) k g fd ps (spM X.K ad n fm))
    (hr : Room k X.A) (hb : Binds X.K fd ps ds) (hd : Vals dvs ds) (hdd : ∀ S r, RpAll X.K S r dds dvs) (tk : Takes X W)
    (ht : eval (.Call (.Attribute o nm apos) [] [] pos) X.env = (do
      let ov ← eval o X.env
      standAt apos.atName
      let (f, first) ← holding [ov] (getMethod ov nm pl)
      callWith pos f first (backTo pos (starEach [] X.env)) (backToKw pos (keywordEach [] X.env))) := by rfl) :
    PE X (.Call (.Attribute o nm apos) [] [] pos) (tE X.K ad J W (mMeth c nm (arity n fm) dds mo mNil)) :=
  ⟨fun pins s σ H Q I h => meth_run0 he hc hm F hr hb hd (fun σ => passAt tk σ) ht I (by
    obtain ⟨S, r, L, O, j, rl, rs, q⟩ := meth_imp (mt := mNil) hdd σ H Q h
    refine ⟨S, r, L, O, j, rl, rs, q.imp ?_⟩
    rintro x H1 ⟨a, dx, fs, ex, ea, l, S1, r1, L1, O1, j1, rl1, rs1, q1⟩
    exact ⟨a, dx, fs, ex, ea, l, q1 S1 r1 H1 [] (Ext.refl _ _) rs1 rfl⟩)⟩
/-- an object is made, at the slots -/
theorem make_run {pins : List (Addr × Obj)} {s : Shared} {σ : L2.St} {H : Hp} {Q : VK} {k : Nat} {C g : Addr} {fd : FuncData} {ps : List Str} {sp : Sp} {dvs : List V} {ds : List Value} {E : XK} {us : List Value} {vs : List V} (M : Mk X.K C g) (F : FnOk X.prog X.w X.K X.mg X.base (L2.CX X.prog X.w) k g fd ps sp) (hr : Room (k + 1) X.A)
    (hb : Binds X.K fd ps ds) (hd : Vals dvs ds) (hx : PassesAt (L2.CX X.prog X.w) X σ E) (I : Inv X pins σ H s) (rr : Vals vs us)
    (h : ∀ x dx, H x = none → H dx = none → dx ≠ x → sp (.ref x :: (vs ++ dvs)) (upd (upd H dx (.own x)) x (.ins C dx [])) (fun v H2 => v = .non ∧ Q (.ref x) H2) E) :
    wpAny (model X.prog X.w) X.A (call (.ref C) us) (EP X pins σ Q) X.xe s := by
  let n := s.heap.objs.size
  have I2 := Inv.made (C := C) I
  have hq := h (n + 1) n (I.hok.fresh (Nat.le_succ n)) (I.hok.fresh (Nat.le_refl n)) (Nat.ne_of_lt (Nat.lt_succ_self n))
  have r2 : Vals (V.ref (n + 1) :: (vs ++ dvs)) (Value.ref (n + 1) :: (us ++ ds)) := .cons rfl (rr.append hd)
  have hl : ((Value.ref (n + 1) :: us) ++ ds).length = ps.length := by
    rw [← F.len _ _ _ _ hq]
    exact r2.length.symm
  have inner := F.run _ X.stack _ _ ⟨Value.ref (n + 1) :: us, []⟩ (Value.ref (n + 1) :: (us ++ ds)) _ _ E (hr.make C us []) (I2.env0.make C us []) (hb _ (Value.ref (n + 1) :: us) I2.kIn hl) r2 hq
  refine wpAny_call (make_map (f := g) I.kIn M.makes M.init (beq_iff_eq.mp M.fn) (codeAny_mono inner ?_))
  intro res s' hres
  cases res with
  | error e => exact hx pins _ _ e s' I2 hres
  | ok fl =>
    cases fl with
    | ret u =>
      obtain ⟨v, H', I3, rv, ev, q3⟩ := I2.after hres
      subst ev
      exact ⟨rv, V.ref (n + 1), H', I3, rfl, q3⟩
    | next => exact hres.elim
    | brk => exact hres.elim
    | cont => exact hres.elim
/-- the new object joins the store -/
theorem make_post {n : Nat} {fm : FM} {S : Hp} {r : Rg} {O : Store} {H : Hp} {xs : List D} {vs : List V} {σ : L2.St} {Q : VK} (rs : Rs X.K ad S r O H) (p : RpAll X.K S r xs vs)
    (q : Post X.K ad (fun S r => Rp X.K S r) W σ S r Q ((arity n fm (.hdl O.length :: xs) (O ++ [.ins c []])).bind fun d O2 => match d with | .non => .ok (.hdl O.length) O2 | _ => .bad)) :
    ∀ x dx, H x = none → H dx = none → dx ≠ x → spM X.K ad n fm (.ref x :: vs) (upd (upd H dx (.own x)) x (.ins (ad c) dx [])) (fun v H2 => v = .non ∧ Q (.ref x) H2) (WE W σ) := by
  intro x dx hx hdx hne
  have hx2 : (upd H dx (.own x)) x = none := by rw [upd_ne (Ne.symm hne)]; exact hx
  have s2 : Rs X.K ad S (r.push x) (O ++ [.ins c []]) (upd (upd H dx (.own x)) x (.ins (ad c) dx [])) := (rs.junk hdx).push hx2 ⟨rs.fresh hx, dx, [], upd_same, rfl⟩
  have e2 := Ext.push S r x
  have hself : Rp X.K S (r.push x) (.hdl O.length) (.ref x) := by
    refine ⟨x, rfl, ?_⟩
    show (r.l ++ [x])[O.length]? = some x
    rw [← rs.len, List.getElem?_append_right (Nat.le_refl _)]
    simp
  refine spM_ar (σ := σ) s2 (.cons hself (RpAll.mono e2 _ _ p)) ?_
  refine (Post.bind (Post.mono e2 q)).imp ?_
  rintro v H2 ⟨S3, r3, d, O3, e3, s3, p3, q3⟩
  cases d with
  | non => exact ⟨p3, q3 S3 r3 H2 _ (Ext.refl _ _) s3 (Rp.mono e3 (.hdl O.length) _ hself)⟩
  | hdl i => exact q3.elim
  | bl i => exact q3.elim
  | int i => exact q3.elim
  | str s => exact q3.elim
  | lst s => exact q3.elim
  | rol s => exact q3.elim
  | tup s => exact q3.elim
theorem de_make {x : Str} {k n : Nat} {g : Addr} {fd : FuncData} {ps : List Str} {fm : FM} {dvs : List V} {dds : List D} {ds : List Value} (M : Mk X.K (ad c) g) (F : FnOk X.prog X.w X.K X.mg X.base (L2.CX X.prog X.w) k g fd ps (spM X.K ad n fm)) (hr : Room (k + 1) X.A) (hg : Gl X x) (hm : X.mg x = some (.ref (ad c)))
    (hb : Binds X.K fd ps ds) (hd : Vals dvs ds) (hdd : ∀ S r, RpAll X.K S r dds dvs) (tk : Takes X W) (ha : PA X (e :: es) (tA X.K ad J W mt)) (hdb : (x == ("__debug__" : Str)) = false := by decide)
    (he : starEach (e :: es) X.env = (false, eval e X.env) :: starEach es X.env := by rfl) (hpl : (backTo pos (starEach es X.env)).any (·.1) = false := by rfl) : PE X (.Call (.Name x p) (e :: es) [] pos) (tE X.K ad J W (mMake c (arity n fm) dds mt)) := by
  refine ⟨fun pins s σ H Q I h => ?_⟩
  refine wpAny_Call_Name_kw (ld_glob I hg hm ?_ hdb)
  obtain ⟨S, r, L, O, j, rl, rs, q⟩ := h
  refine PySem.W.callWith_K (h₀ := X.base) I.ok.mod.kin M.kp (thn (ha.run pos pins s σ H _ I ⟨S, r, L, O, j, rl, rs, Post.bind q⟩) ?_) he hpl
  rintro us s1 ⟨vs, H1, I1, rr, S1, r1, ds, O1, e1, s1', p1, q1⟩
  exact ⟨I1.kIn, make_run M F hr hb hd (passAt tk σ) I1 rr (make_post s1' (p1.append (hdd S1 r1)) q1)⟩
theorem de_make0 {x : Str} {k n : Nat} {g : Addr} {fd : FuncData} {ps : List Str} {fm : FM} {dvs : List V} {dds : List D} {ds : List Value} (M : Mk X.K (ad c) g) (F : FnOk X.prog X.w X.K X.mg X.base (L2.CX X.prog X.w) k g fd ps (spM X.K ad n fm)) (hr : Room (k + 1) X.A) (hg : Gl X x) (hm : X.mg x = some (.ref (ad c)))
    (hb : Binds X.K fd ps ds) (hd : Vals dvs ds) (hdd : ∀ S r, RpAll X.K S r dds dvs) (tk : Takes X W) (hdb : (x == ("__debug__" : Str)) = false := by decide) : PE X (.Call (.Name x p) [] [] pos) (tE X.K ad J W (mMake c (arity n fm) dds mNil)) := by
  refine ⟨fun pins s σ H Q I h => ?_⟩
  refine wpAny_Call_Name_kw (ld_glob I hg hm ?_ hdb)
  obtain ⟨S, r, L, O, j, rl, rs, q⟩ := h
  refine PySem.W.callWith_K0 I.kIn M.kp ?_
  exact make_run (us := []) (vs := []) M F hr hb hd (passAt tk σ) I .nil (make_post rs (hdd S r) q)
end
end DK
end
section
set_option Elab.async false
set_option linter.all false
set_option autoImplicit false
set_option maxRecDepth 100000
set_option maxHeartbeats 4000000
/-! DKExc: raise, try, comprehensions, by mirrors. -/
namespace DK
open PySem L2

abbrev WF : WX := fun _ _ _ _ => False
theorem takesF {X : Cx} : Takes X WF := takes0

/-! ### raise, try -/
def sRaise (c : Str) (t : AM) : SM := fun L O => ofRes L (t L O) fun ds O1 => if ds.length ≤ 1000 then .exc ⟨c, none⟩ L O1 else .bad
def sTryAs (subc : Str → Option Bool) (i : Nat) (b : SM) (suite : Str → SM) : SM := fun L O => match b L O with
  | .next L1 O1 => .next L1 O1
  | .ret d O1 => .ret d O1
  | .brk L1 O1 => .brk L1 O1
  | .cnt L1 O1 => .cnt L1 O1
  | .exc ⟨c, none⟩ L1 O1 => match subc c with
    | some true => if i < L1.length then (match suite c (L1.set i none) O1 with
      | .next L2 O2 => .next (L2.set i none) O2
      | .ret d O2 => .ret d O2
      | .brk L2 O2 => .brk (L2.set i none) O2
      | .cnt L2 O2 => .cnt (L2.set i none) O2
      | _ => .bad) else .bad
    | some false => .exc ⟨c, none⟩ L1 O1
    | none => .bad
  | .exc ⟨_, some _⟩ _ _ => .bad
  | .bad => .bad
def sTry (subc : Str → Option Bool) (b : SM) (suite : Str → SM) : SM := fun L O => match b L O with
  | .next L1 O1 => .next L1 O1
  | .ret d O1 => .ret d O1
  | .brk L1 O1 => .brk L1 O1
  | .cnt L1 O1 => .cnt L1 O1
  | .exc ⟨c, none⟩ L1 O1 => match subc c with
    | some true => (match suite c L1 O1 with
      | .next L2 O2 => .next L2 O2
      | .ret d O2 => .ret d O2
      | .brk L2 O2 => .brk L2 O2
      | .cnt L2 O2 => .cnt L2 O2
      | _ => .bad)
    | some false => .exc ⟨c, none⟩ L1 O1
    | none => .bad
  | .exc ⟨_, some _⟩ _ _ => .bad
  | .bad => .bad
abbrev Jx (i : Nat) (a : Addr) : JP := ⟨fun σ _ => σ[i]? = some (some (.ref a)), fun _ h => h⟩
section
variable {X : Cx} {ad : Str → Addr} {J : JP} {W : WX} {pos pos' p p2 np : Pos} {e : Expr} {es : List Expr} {mt : AM} {c : Str} {body suite : List Stmt} {b0 : Stmt} {sb : SM} {ss : Str → SM}
theorem ds_raise {x : Str} {bmB : List Value} {B newId initId : String} (hc : X.calm = true) (tk : Takes X W) (F : ExcBaseFacts B newId initId bmB) (q : PySem.W.excIn X.K (ad c) bmB newId = true) (gC : X.mg x = some (.ref (ad c))) (kC : PySem.W.keepIn X.K (.ref (ad c)) = true) (r : Raises X (.ref (ad c))) (hg : Gl X x)
    (ha : PA X (e :: es) (tA X.K ad J W mt)) (hdb : (x == ("__debug__" : Str)) = false := by decide) (he : starEach (e :: es) X.env = (false, eval e X.env) :: starEach es X.env := by rfl) (hpl : (backTo p2 (starEach es X.env)).any (·.1) = false := by rfl) :
    PS X (.Raise (some (.Call (.Name x p) (e :: es) [] p2)) none pos) (tS X.K ad J W (sRaise c mt)) := by
  refine ps_imp (ps_raise hc tk (pmk_ownA F q gC kC r hg ha hdb he hpl)) ?_
  rintro En σ H ⟨S, r, L, O, j, rl, rs, z⟩
  refine ⟨S, r, L, O, j, rl, rs, (bindS j rl z).imp ?_⟩
  rintro vs H1 ⟨S1, r1, ds, O1, e1, s1, p1, q1⟩
  replace q1 : PostS X.K ad J W S1 r1 En (if ds.length ≤ 1000 then .exc ⟨c, none⟩ L O1 else .bad) := q1
  split at q1
  · rename_i hl
    exact ⟨by rw [p1.length]; exact million (by omega), q1 S1 r1 σ H1 none (Ext.refl _ _) (J.mono e1.s j) (rl.mono e1) s1 rfl⟩
  · exact q1.elim
/-- a statement whose mirror is told by what is at hand -/
theorem pss_ex {α : Type} {st : List Stmt} {P : α → Prop} {t : α → TS} (h : ∀ x, P x → PSs X st (t x)) : PSs X st (fun En σ H => ∃ x, P x ∧ t x En σ H) := ⟨fun pins s σ H En I ⟨x, hp, q⟩ => (h x hp).run pins s σ H En I q⟩
theorem ds_try_as {x n : Str} {i : Nat} {cv : Value} {subc : Str → Option Bool} (hs : X.stack = X.env :: X.outer) (hf : X.env.frame = some X.env.locals) (hN : X.N.Nodup) (hi : X.N[i]? = some n) (hln : X.env.kindOf n = some .local) (hc : Names X x cv) (tk : Takes X W)
    (hsub : ∀ nm b, subc nm = some b → PySem.W.exmOne X.K (.ref (ad nm)) cv = some b)
    (hb : ∀ (W : WX) (pn : List (Addr × Obj)) (xe : Value → Shared → Prop), Takes (X.tr pn xe) W → PassesOwn (model X.prog X.w) X.A X.env xe → PSs (X.tr pn xe) body (tS X.K ad JT W sb))
    (hsu : ∀ (nm : Str) (a : Addr) (oe : Obj) (pn : List (Addr × Obj)), subc nm = some true → Zc (.ref (ad nm)) none oe → (∃ vs, oe.data = .fields vs) → PSs (X.suite a ((a, oe) :: pn)) (b0 :: suite) (tS X.K ad (Jx i a) WF (ss nm))) :
    PS X (.Try body [.ExceptHandler (some (.Name x np)) (some n) (b0 :: suite) pos'] [] [] pos) (tS X.K ad JT W (sTryAs subc i sb ss)) := by
  refine ps_imp (ps_try_as (i := i) (tb := fun W => tS X.K ad JT W sb) (ts := fun a cls d En σ H => ∃ nm : Str, (cls = .ref (ad nm) ∧ d = none ∧ subc nm = some true) ∧ tS X.K ad (Jx i a) WF (ss nm) En σ H) hs hf hN hi hln hc tk hb ?_) ?_
  · intro a oe cls d pn hz hfl
    exact pss_ex fun nm hp => by
      obtain ⟨rfl, rfl, h3⟩ := hp
      exact hsu nm a oe pn h3 hz hfl
  rintro En σ H ⟨S, r, L, O, j, rl, rs, z⟩
  refine ⟨S, r, L, O, j, rl, rs, ?_⟩
  unfold sTryAs at z
  generalize sb L O = y at z
  cases y with
  | next L O => exact z
  | ret L O => exact z
  | brk L O => exact z
  | cnt L O => exact z
  | bad => exact z.elim
  | exc x L1 O1 =>
    obtain ⟨nm, fs⟩ := x
    cases fs with
    | some fs => exact z.elim
    | none =>
      replace z : PostS X.K ad JT W S r En (match subc nm with
        | some true => if i < L1.length then (match ss nm (L1.set i none) O1 with
          | .next L2 O2 => .next (L2.set i none) O2
          | .ret d O2 => .ret d O2
          | .brk L2 O2 => .brk (L2.set i none) O2
          | .cnt L2 O2 => .cnt (L2.set i none) O2
          | _ => .bad) else .bad
        | some false => .exc ⟨nm, none⟩ L1 O1
        | none => .bad) := z
      intro S1 r1 σ1 H1 d e1 j1 l1 s1 hd
      obtain rfl : d = none := hd
      cases hsc : subc nm with
      | none => rw [hsc] at z; exact z.elim
      | some b =>
        rw [hsc] at z
        refine ⟨b, hsub nm b hsc, fun hbt a ha => ?_, fun hbf => ?_⟩
        · subst hbt
          replace z : PostS X.K ad JT W S r En (if i < L1.length then (match ss nm (L1.set i none) O1 with
            | .next L2 O2 => .next (L2.set i none) O2
            | .ret d O2 => .ret d O2
            | .brk L2 O2 => .brk (L2.set i none) O2
            | .cnt L2 O2 => .cnt (L2.set i none) O2
            | _ => .bad) else .bad) := z
          refine ⟨nm, ⟨rfl, rfl, hsc⟩, S1, r1, L1.set i none, O1, ?_, l1.wipe i _, s1, ?_⟩
          · split at z
            · rename_i hil
              exact List.getElem?_set_self (by rw [l1.len]; exact hil)
            · exact z.elim
          · split at z
            · generalize ss nm (L1.set i none) O1 = y at z
              cases y with
              | next L2 O2 => exact fun S2 r2 σ2 H2 e2 j2 l2 s2 => z S2 r2 _ H2 (e1.trans e2) trivial (l2.wipe i none) s2
              | ret d O2 => exact fun S2 r2 H2 v e2 s2 p2 => z S2 r2 H2 v (e1.trans e2) s2 p2
              | brk L2 O2 => exact fun S2 r2 σ2 H2 e2 j2 l2 s2 => z S2 r2 _ H2 (e1.trans e2) trivial (l2.wipe i none) s2
              | cnt L2 O2 => exact fun S2 r2 σ2 H2 e2 j2 l2 s2 => z S2 r2 _ H2 (e1.trans e2) trivial (l2.wipe i none) s2
              | exc x L2 O2 => exact z.elim
              | bad => exact z.elim
            · exact z.elim
        · subst hbf
          exact z S1 r1 σ1 H1 none e1 j1 l1 s1 rfl
theorem ds_try {x : Str} {cv : Value} {subc : Str → Option Bool} (hs : X.stack = X.env :: X.outer) (hf : X.env.frame = some X.env.locals) (hc : Names X x cv) (tk : Takes X W)
    (hsub : ∀ nm b, subc nm = some b → PySem.W.exmOne X.K (.ref (ad nm)) cv = some b)
    (hb : ∀ (W : WX) (pn : List (Addr × Obj)) (xe : Value → Shared → Prop), Takes (X.tr pn xe) W → PassesOwn (model X.prog X.w) X.A X.env xe → PSs (X.tr pn xe) body (tS X.K ad JT W sb))
    (hsu : ∀ (nm : Str) (a : Addr) (oe : Obj) (pn : List (Addr × Obj)), subc nm = some true → Zc (.ref (ad nm)) none oe → (∃ vs, oe.data = .fields vs) → PSs (X.suite a ((a, oe) :: pn)) (b0 :: suite) (tS X.K ad JT WF (ss nm))) :
    PS X (.Try body [.ExceptHandler (some (.Name x np)) none (b0 :: suite) pos'] [] [] pos) (tS X.K ad JT W (sTry subc sb ss)) := by
  refine ps_imp (ps_try_only (tb := fun W => tS X.K ad JT W sb) (ts := fun a cls d En σ H => ∃ nm : Str, (cls = .ref (ad nm) ∧ d = none ∧ subc nm = some true) ∧ tS X.K ad JT WF (ss nm) En σ H) hs hf hc tk hb ?_) ?_
  · intro a oe cls d pn hz hfl
    exact pss_ex fun nm hp => by
      obtain ⟨rfl, rfl, h3⟩ := hp
      exact hsu nm a oe pn h3 hz hfl
  rintro En σ H ⟨S, r, L, O, j, rl, rs, z⟩
  refine ⟨S, r, L, O, j, rl, rs, ?_⟩
  unfold sTry at z
  generalize sb L O = y at z
  cases y with
  | next L O => exact z
  | ret L O => exact z
  | brk L O => exact z
  | cnt L O => exact z
  | bad => exact z.elim
  | exc x L1 O1 =>
    obtain ⟨nm, fs⟩ := x
    cases fs with
    | some fs => exact z.elim
    | none =>
      replace z : PostS X.K ad JT W S r En (match subc nm with
        | some true => (match ss nm L1 O1 with
          | .next L2 O2 => .next L2 O2
          | .ret d O2 => .ret d O2
          | .brk L2 O2 => .brk L2 O2
          | .cnt L2 O2 => .cnt L2 O2
          | _ => .bad)
        | some false => .exc ⟨nm, none⟩ L1 O1
        | none => .bad) := z
      intro S1 r1 σ1 H1 d e1 j1 l1 s1 hd
      obtain rfl : d = none := hd
      cases hsc : subc nm with
      | none => rw [hsc] at z; exact z.elim
      | some b =>
        rw [hsc] at z
        refine ⟨b, hsub nm b hsc, fun hbt a ha => ?_, fun hbf => ?_⟩
        · subst hbt
          refine ⟨nm, ⟨rfl, rfl, hsc⟩, S1, r1, L1, O1, trivial, l1, s1, ?_⟩
          generalize ss nm L1 O1 = y at z
          cases y with
          | next L2 O2 => exact fun S2 r2 σ2 H2 e2 j2 l2 s2 => z S2 r2 _ H2 (e1.trans e2) trivial l2 s2
          | ret d O2 => exact fun S2 r2 H2 v e2 s2 p2 => z S2 r2 H2 v (e1.trans e2) s2 p2
          | brk L2 O2 => exact fun S2 r2 σ2 H2 e2 j2 l2 s2 => z S2 r2 _ H2 (e1.trans e2) trivial l2 s2
          | cnt L2 O2 => exact fun S2 r2 σ2 H2 e2 j2 l2 s2 => z S2 r2 _ H2 (e1.trans e2) trivial l2 s2
          | exc x L2 O2 => exact z.elim
          | bad => exact z.elim
        · subst hbf
          exact z S1 r1 σ1 H1 none e1 j1 l1 s1 rfl
/-- isinstance(e, C) in an except suite, e what is handled -/
theorem de_isE {a : Addr} {oe : Obj} {pn : List (Addr × Obj)} {nm x ex : Str} {i : Nat} {v : V} {cv : Value} {b : Bool} (C : ExcC X.K (ad nm)) (hz : Zc (.ref (ad nm)) none oe) (hf : ∃ vs, oe.data = .fields vs) (hv : PE (X.suite a ((a, oe) :: pn)) (.Name ex p) (tVar i)) (hC : PE (X.suite a ((a, oe) :: pn)) (.Name x p2) (tC v))
    (hcv : ∀ u, RelV v u → u = cv) (hk : PySem.W.kitOne X.K (.ref (ad nm)) cv = some b) (hg : Gl X "isinstance") (hm : X.mg "isinstance" = none) (hbv : bootBuiltins "isinstance" = some (.builtin "isinstance"))
    (hs1 : starEach (.Name ex p :: [.Name x p2]) X.env = (false, eval (.Name ex p) X.env) :: starEach [.Name x p2] X.env := by rfl) (hs2 : starEach (.Name x p2 :: []) X.env = (false, eval (.Name x p2) X.env) :: starEach [] X.env := by rfl)
    (hpl : (backTo pos (starEach [.Name x p2] X.env)).any (·.1) = false := by rfl) :
    PE (X.suite a ((a, oe) :: pn)) (.Call (.Name "isinstance" np) [.Name ex p, .Name x p2] [] pos) (tE X.K ad (Jx i a) WF (mC (.bl b))) := by
  refine pe_imp (pe_callB (X := X.suite a ((a, oe) :: pn)) (call_isE C hz hf) hg hm hbv (pa_cons hv (pa_cons hC pa_nil hs2) hs1) (by decide) (by decide) hs1 hpl) ?_
  rintro σ H Q ⟨S, r, L, O, j, rl, rs, q⟩
  exact ⟨.ref a, j, v, cv, b, rfl, hcv, hk, q S r H _ (Ext.refl _ _) rs rfl⟩
end

/-! ### comprehensions -/
def wipeL (L : Loc) : List Nat → Loc
  | [] => L
  | v :: vs => (wipeL L vs).set v none
def lcTurn (vs : List Nat) (b : BM) (tt : TM) (el : EM) (L : Loc) (d : D) (O : Store) (acc : List D) : Option (Store × List D) := match b d (wipeL L vs) O with
  | some p => match tt p.1 p.2 with
    | .ok true O2 => match el p.1 O2 with
      | .ok y O3 => if acc.length ≤ 900000 then some (O3, acc ++ [y]) else none
      | _ => none
    | .ok false O2 => some (O2, acc)
    | _ => none
  | none => none
def lcG (nx : Nat → Store → Option (Option D)) (turn : D → Store → List D → Option (Store × List D)) : Nat → Nat → Store → List D → Option (Store × List D)
  | 0, i, O, acc => match nx i O with
    | some none => some (O, acc)
    | _ => none
  | k + 1, i, O, acc => match nx i O with
    | some none => some (O, acc)
    | some (some d) => match turn d O acc with
      | some p => lcG nx turn k (i + 1) p.1 p.2
      | none => none
    | none => none
def mYes : TM := fun _ O => .ok true O
def lcEnd (h : Bool) : Option (Store × List D) → Res D
  | some p => newL h p.2 p.1
  | none => .bad
/-- over a list -/
def mLcL (h : Bool) (src : EM) (vs : List Nat) (b : BM) (tt : TM) (el : EM) : EM := fun L O => (src L O).bind fun d O1 => match lsqOf O1 d with
  | some xs => lcEnd h (lcG (fun i O => (lsqOf O d).map (·[i]?)) (lcTurn vs b tt el L) xs.length 0 O1 [])
  | none => .bad
def mLcT (h : Bool) (src : EM) (vs : List Nat) (b : BM) (tt : TM) (el : EM) : EM := fun L O => (src L O).bind fun d O1 => match d with
  | .tup xs => lcEnd h (lcG (fun i _ => some xs[i]?) (lcTurn vs b tt el L) xs.length 0 O1 [])
  | _ => .bad
def mLcR1 (h : Bool) (t : AM) (vs : List Nat) (b : BM) (tt : TM) (el : EM) : EM := fun L O => (t L O).bind fun ds O1 => match int1 ds with
  | some j => lcEnd h (lcG (fun i _ => some (rangeD 0 j.toNat)[i]?) (lcTurn vs b tt el L) j.toNat 0 O1 [])
  | none => .bad
def mLcR2 (h : Bool) (t : AM) (vs : List Nat) (b : BM) (tt : TM) (el : EM) : EM := fun L O => (t L O).bind fun ds O1 => match int2 ds with
  | some p => lcEnd h (lcG (fun i _ => some (rangeD p.1 (p.2 - p.1).toNat)[i]?) (lcTurn vs b tt el L) (p.2 - p.1).toNat 0 O1 [])
  | none => .bad
/-- what a block may not touch -/
def Cl (vs : List Nat) (J : JP) : Prop := ∀ (σ : L2.St) (v : V) (S : Hp) (i : Nat), i ∈ vs → J.p σ S → J.p (σ.set i (some v)) S
section
variable {X : Cx} {ad : Str → Addr} {J : JP} {W : WX} {pos p q : Pos} {a b tg elt iter : Expr} {ifs : List Expr} {m me : EM} {mt : AM} {bm : BM} {tm : TM} {own : List (Str × Nat)} {scope : Scope}
theorem wipe_rl {K : PySem.W.Frag} {S : Hp} {r : Rg} {L : Loc} {σ : L2.St} (h : Rl K S r L σ) : ∀ vs : List Nat, Rl K S r (wipeL L vs) (wipe σ vs)
  | [] => h
  | v :: vs => by
    unfold wipeL wipe
    exact (wipe_rl h vs).wipe v none
abbrev Jw (vs : List Nat) (σ0 : L2.St) : JP := ⟨fun σ _ => wipe σ vs = σ0, fun _ h => h⟩
theorem wipe_cl {σ0 : L2.St} {vs : List Nat} : Cl vs (Jw vs σ0) := fun σ v _ i hi h => by
  have key : ∀ (vs : List Nat) (σ : L2.St), i ∈ vs → wipe (σ.set i (some v)) vs = wipe σ vs := fun vs => by
    induction vs with
    | nil => intro σ hi; simp at hi
    | cons w ws ih =>
      intro σ hi
      unfold wipe
      by_cases hw : i ∈ ws
      · rw [ih σ hw]
      · have e : i = w := by
          rcases List.mem_cons.mp hi with e | e
          · exact e
          · exact absurd e hw
        subst e
        have comm : ∀ (us : List Nat) (σ : L2.St), i ∉ us → wipe (σ.set i (some v)) us = (wipe σ us).set i (some v) := fun us => by
          induction us with
          | nil => intro σ _; rfl
          | cons u us ih2 =>
            intro σ hu
            unfold wipe
            rw [ih2 σ (fun z => hu (List.mem_cons_of_mem _ z)), List.set_comm _ _ (fun z => hu (by rw [z]; exact List.mem_cons_self))]
        rw [comm ws σ hw, List.set_set]
  show wipe (σ.set i (some v)) vs = σ0
  rw [key vs σ hi]
  exact h
/-- what is told for every J that lets the block's names change -/
def tGx (K : PySem.W.Frag) (ad : Str → Addr) (vs : List Nat) (b : BM) : TG := fun v σ H Q => ∃ J', Cl vs J' ∧ tG K ad J' b v σ H Q
def tTx (K : PySem.W.Frag) (ad : Str → Addr) (vs : List Nat) (m : TM) : TT := fun σ H Q => ∃ J', Cl vs J' ∧ tT K ad J' WF m σ H Q
def tEx (K : PySem.W.Frag) (ad : Str → Addr) (vs : List Nat) (m : EM) : TE := fun σ H Q => ∃ J', Cl vs J' ∧ tE K ad J' WF m σ H Q
theorem gx_of {Y : Cx} {vs : List Nat} (h : ∀ J', Cl vs J' → PG Y tg (tG Y.K ad J' bm)) : PG Y tg (tGx Y.K ad vs bm) := ⟨fun pins s σ H v u Q I r ⟨J', hJ, z⟩ => (h J' hJ).run pins s σ H v u Q I r z⟩
theorem tx_of {Y : Cx} {vs : List Nat} (h : ∀ J', Cl vs J' → PTs Y ifs (tT Y.K ad J' WF tm)) : PTs Y ifs (tTx Y.K ad vs tm) := ⟨fun pins s σ H Q I ⟨J', hJ, z⟩ => (h J' hJ).run pins s σ H Q I z⟩
theorem ex_of {Y : Cx} {vs : List Nat} (h : ∀ J', Cl vs J' → PE Y elt (tE Y.K ad J' WF me)) : PE Y elt (tEx Y.K ad vs me) := ⟨fun pins s σ H Q I ⟨J', hJ, z⟩ => (h J' hJ).run pins s σ H Q I z⟩
theorem dts_nil {Y : Cx} : PTs Y [] (tT Y.K ad J W mYes) := ⟨fun pins s σ H Q I ⟨S, r, L, O, j, rl, rs, z⟩ => pts_nil.run pins s σ H Q I (z S r H true (Ext.refl _ _) rs rfl)⟩
theorem dts_one {Y : Cx} (h : PT Y a (tT Y.K ad J W tm)) : PTs Y [a] (tT Y.K ad J W tm) := pts_one h
/-- a comprehension's loop -/
theorem lc_post {It' : It} {nx : Nat → Store → Option (Option D)} {hm : Bool} {vs : List Nat} {S1 : Hp} {r1 : Rg} {L : Loc} {σ : L2.St} {Q : VK} {k : Nat} {O1 : Store} {H1 : Hp}
    (hgo : ∀ (i : Nat) (S : Hp) (r : Rg) (O : Store) (H : Hp) (d : D), Same S1 S → r1.l <+: r.l → Rs X.K ad S r O H → nx i O = some (some d) → It'.go i H ∧ ∀ x H', It'.yld i H x H' → H' = H ∧ Rp X.K S r d x)
    (hst : ∀ (i : Nat) (S : Hp) (r : Rg) (O : Store) (H : Hp), Same S1 S → r1.l <+: r.l → Rs X.K ad S r O H → nx i O = some none → It'.stop i H)
    (rl : Rl X.K S1 r1 L σ) (rs : Rs X.K ad S1 r1 O1 H1) (z : Post X.K ad (fun S r => Rp X.K S r) W σ S1 r1 Q (lcEnd hm (lcG nx (lcTurn vs bm tm me L) k 0 O1 []))) :
    ∀ Dn, H1 Dn = none → ∃ W' : Nat → Nat → Hp → Prop, (∃ m, W' 0 m (upd H1 Dn (.lst []))) ∧ ∀ i m H, W' i m H →
      (It'.stop i H ∧ Q (.ref Dn) H) ∨ (It'.go i H ∧ ∃ Nx : Hp → Prop, (∀ H', Nx H' → ∃ m', m' < m ∧ W' (i + 1) m' H') ∧ ∀ x H', It'.yld i H x H' → tGx X.K ad vs bm x (wipe σ vs) H' fun σ2 H2 => wipe σ2 vs = wipe σ vs ∧ tTx X.K ad vs tm σ2 H2 fun b H3 =>
        if b = true then tEx X.K ad vs me σ2 H3 fun y H4 => ∃ acc, H4 Dn = some (.lst acc) ∧ acc.length < sizeLine ∧ Nx (upd H4 Dn (.lst (acc ++ [y]))) else Nx H3) := by
  intro Dn hDn
  have hfr : r1.fr Dn = none := rs.fr.free hDn
  have ww : wipe (wipe σ vs) vs = wipe σ vs := by
    have key : ∀ (us : List Nat) (τ : L2.St), (∀ u ∈ us, ∀ w, τ[u]? = some w → w = none) → wipe τ us = τ := fun us => by
      induction us with
      | nil => intro τ _; rfl
      | cons u us ih =>
        intro τ h
        unfold wipe
        rw [ih τ fun u' hu' => h u' (List.mem_cons_of_mem _ hu')]
        refine List.ext_getElem? fun n => ?_
        by_cases hn : u = n
        · subst hn
          by_cases hl : u < τ.length
          · rw [List.getElem?_set_self hl]
            have := h u List.mem_cons_self τ[u] (List.getElem?_eq_getElem hl)
            rw [List.getElem?_eq_getElem hl, this]
          · rw [List.getElem?_eq_none (by rw [List.length_set]; omega), List.getElem?_eq_none (by omega)]
        · rw [List.getElem?_set_ne hn]
    refine key vs _ fun u hu w hw => ?_
    cases w with
    | none => rfl
    | some w => exact absurd hu (wipe_some hw).2
  refine ⟨fun i m H => ∃ S r O acc us, Same S1 S ∧ r1.l <+: r.l ∧ r.fr = r1.fr ∧ Rs X.K ad S (r.at (upd r1.fr Dn (.lst us))) O H ∧ RpAll X.K S r acc us ∧ Post X.K ad (fun S r => Rp X.K S r) W σ S1 r1 Q (lcEnd hm (lcG nx (lcTurn vs bm tm me L) m i O acc)),
    ⟨k, S1, r1, O1, [], [], Same.refl _, List.prefix_rfl, rfl, rs.hold hDn, rfl, z⟩, ?_⟩
  rintro i m H ⟨S, r, O, acc, us, es, el, ef, rs, ra, z⟩
  have fin : nx i O = some none → Post X.K ad (fun S r => Rp X.K S r) W σ S1 r1 Q (lcEnd hm (some (O, acc))) → It'.stop i H ∧ Q (.ref Dn) H := fun hn z => by
    refine ⟨hst i S (r.at (upd r1.fr Dn (.lst us))) O H es el rs hn, ?_⟩
    have rs' : Rs X.K ad S (r.at (upd r.fr Dn (.lst us))) O H := by rw [ef]; exact rs
    obtain ⟨q1, q2, q3, q4⟩ := rs'.unhold (by rw [ef]; exact hfr)
    have e0 : Ext S1 r1 S r := ⟨es, ef, el⟩
    replace z : Post X.K ad (fun S r => Rp X.K S r) W σ S1 r1 Q (newL hm acc O) := z
    unfold newL at z
    split at z
    · cases hm with
      | true =>
        rw [if_pos rfl] at z
        refine z S (r.push Dn) H _ (e0.trans (Ext.push S r Dn)) (q1.pushAt ⟨q3, us, q2, RpAll.mono (Ext.push S r Dn) _ _ ra⟩ q4 (by rw [ef]; exact hfr)) ⟨Dn, rfl, ?_⟩
        show (r.l ++ [Dn])[O.length]? = some Dn
        rw [← q1.len, List.getElem?_append_right (Nat.le_refl _)]
        simp
      | false =>
        rw [if_neg Bool.false_ne_true] at z
        exact z (upd S Dn (.lst us)) r H _ (e0.trans (Ext.new q3)) (q1.sealAt q2 q3 q4 (by rw [ef]; exact hfr)) ⟨Dn, us, rfl, upd_same, RpAll.mono (Ext.new q3) _ _ ra⟩
    · exact z.elim
  have next : ∀ m', m = m' + 1 → ∀ d, nx i O = some (some d) → Post X.K ad (fun S r => Rp X.K S r) W σ S1 r1 Q (lcEnd hm (match lcTurn vs bm tm me L d O acc with | some p => lcG nx (lcTurn vs bm tm me L) m' (i + 1) p.1 p.2 | none => none)) →
      (It'.go i H ∧ ∃ Nx : Hp → Prop, (∀ H', Nx H' → ∃ m'', m'' < m ∧ (∃ S r O acc us, Same S1 S ∧ r1.l <+: r.l ∧ r.fr = r1.fr ∧ Rs X.K ad S (r.at (upd r1.fr Dn (.lst us))) O H' ∧ RpAll X.K S r acc us ∧ Post X.K ad (fun S r => Rp X.K S r) W σ S1 r1 Q (lcEnd hm (lcG nx (lcTurn vs bm tm me L) m'' (i + 1) O acc)))) ∧
        ∀ x H', It'.yld i H x H' → tGx X.K ad vs bm x (wipe σ vs) H' fun σ2 H2 => wipe σ2 vs = wipe σ vs ∧ tTx X.K ad vs tm σ2 H2 fun b H3 =>
          if b = true then tEx X.K ad vs me σ2 H3 fun y H4 => ∃ acc, H4 Dn = some (.lst acc) ∧ acc.length < sizeLine ∧ Nx (upd H4 Dn (.lst (acc ++ [y]))) else Nx H3) := by
    intro m' hm' d hd z
    obtain ⟨g1, g2⟩ := hgo i S (r.at (upd r1.fr Dn (.lst us))) O H d es el rs hd
    refine ⟨g1, _, fun H' hN => ⟨m', by omega, hN⟩, fun x H' hy => ?_⟩
    obtain ⟨rfl, px⟩ := g2 x H' hy
    let rr := r.at (upd r1.fr Dn (.lst us))
    have rlw : Rl X.K S rr (wipeL L vs) (wipe σ vs) := ⟨(wipe_rl rl vs).len, fun n d hn => by
      obtain ⟨v, q1, q2⟩ := (wipe_rl rl vs).at_ n d hn
      exact ⟨v, q1, Rp.monoW (r' := rr) es el d v q2⟩⟩
    refine ⟨Jw vs (wipe σ vs), wipe_cl, S, rr, wipeL L vs, O, d, ww, rlw, rs, px, ?_⟩
    unfold lcTurn at z
    generalize bm d (wipeL L vs) O = w at z
    cases w with
    | none => exact z.elim
    | some w =>
      intro S2 r2 σ2 H2 e2 j2 l2 s2
      refine ⟨j2, Jw vs (wipe σ vs), wipe_cl, S2, r2, w.1, w.2, j2, l2, s2, ?_⟩
      replace z : Post X.K ad (fun S r => Rp X.K S r) W σ S1 r1 Q (lcEnd hm (match (match tm w.1 w.2 with
        | .ok true O2 => match me w.1 O2 with
          | .ok y O3 => if acc.length ≤ 900000 then some (O3, acc ++ [y]) else none
          | _ => none
        | .ok false O2 => some (O2, acc)
        | _ => none) with | some p => lcG nx (lcTurn vs bm tm me L) m' (i + 1) p.1 p.2 | none => none)) := z
      generalize tm w.1 w.2 = t at z
      cases t with
      | exc x O3 => exact z.elim
      | bad => exact z.elim
      | ok k O3 =>
        intro S3 r3 H3 k' e3 s3 ek
        obtain rfl : k' = k := ek
        cases k' with
        | false =>
          rw [if_neg Bool.false_ne_true]
          have e23 := e2.trans e3
          have hr3 : r3 = (r3.at r1.fr).at (upd r1.fr Dn (.lst us)) := by
            obtain ⟨l3, f3⟩ := r3
            have : f3 = upd r1.fr Dn (.lst us) := e23.f
            subst this
            rfl
          rw [hr3] at s3
          exact ⟨S3, r3.at r1.fr, O3, acc, us, es.trans e23.s, List.IsPrefix.trans el e23.r, rfl, s3, RpAll.monoW (r := r) (r' := r3.at r1.fr) e23.s e23.r _ _ ra, z⟩
        | true =>
          rw [if_pos rfl]
          refine ⟨Jw vs (wipe σ vs), wipe_cl, S3, r3, w.1, O3, j2, l2.mono e3, s3, ?_⟩
          replace z : Post X.K ad (fun S r => Rp X.K S r) W σ S1 r1 Q (lcEnd hm (match (match me w.1 O3 with
            | .ok y O3 => if acc.length ≤ 900000 then some (O3, acc ++ [y]) else none
            | _ => none) with | some p => lcG nx (lcTurn vs bm tm me L) m' (i + 1) p.1 p.2 | none => none)) := z
          generalize me w.1 O3 = t at z
          cases t with
          | exc x O3 => exact z.elim
          | bad => exact z.elim
          | ok y O4 =>
            intro S4 r4 H4 v e4 s4 pv
            have e24 := (e2.trans e3).trans e4
            have hr4 : r4 = (r4.at r1.fr).at (upd r1.fr Dn (.lst us)) := by
              obtain ⟨l4, f4⟩ := r4
              have : f4 = upd r1.fr Dn (.lst us) := e24.f
              subst this
              rfl
            rw [hr4] at s4
            replace z : Post X.K ad (fun S r => Rp X.K S r) W σ S1 r1 Q (lcEnd hm (match (if acc.length ≤ 900000 then some (O4, acc ++ [y]) else none) with | some p => lcG nx (lcTurn vs bm tm me L) m' (i + 1) p.1 p.2 | none => none)) := z
            split at z
            · rename_i hacc
              split at hacc
              · rename_i hlen
                cases hacc
                refine ⟨us, s4.fr Dn _ upd_same, by rw [ra.length]; exact million_lt (by omega), S4, r4.at r1.fr, O4, acc ++ [y], us ++ [v], es.trans e24.s, List.IsPrefix.trans el e24.r, rfl, s4.rehold, ?_, z⟩
                exact (RpAll.monoW (r := r) (r' := r4.at r1.fr) e24.s e24.r _ _ ra).append (.cons (Rp.monoW (r := r4) (r' := r4.at r1.fr) (Same.refl _) List.prefix_rfl _ _ pv) .nil)
              · cases hacc
            · exact z.elim
  cases hn : nx i O with
  | none =>
    have e : lcG nx (lcTurn vs bm tm me L) m i O acc = none := by
      cases m with
      | zero => unfold lcG; rw [hn]
      | succ m => unfold lcG; rw [hn]
    rw [e] at z
    exact z.elim
  | some o =>
    cases o with
    | none =>
      have e : lcG nx (lcTurn vs bm tm me L) m i O acc = some (O, acc) := by
        cases m with
        | zero => unfold lcG; rw [hn]
        | succ m => unfold lcG; rw [hn]
      rw [e] at z
      exact .inl (fin hn z)
    | some d =>
      cases m with
      | zero =>
        have e : lcG nx (lcTurn vs bm tm me L) 0 i O acc = none := by unfold lcG; rw [hn]
        rw [e] at z
        exact z.elim
      | succ m =>
        have e : lcG nx (lcTurn vs bm tm me L) (m + 1) i O acc = (match lcTurn vs bm tm me L d O acc with | some p => lcG nx (lcTurn vs bm tm me L) m (i + 1) p.1 p.2 | none => none) := by
          show (match nx i O with | some none => some (O, acc) | some (some d) => (match lcTurn vs bm tm me L d O acc with | some p => lcG nx (lcTurn vs bm tm me L) m (i + 1) p.1 p.2 | none => none) | none => none) = _
          rw [hn]
        rw [e] at z
        exact .inr (next m rfl d hn z)
theorem lcL_imp {hm : Bool} : ∀ σ H Q, (tE X.K ad J W (mLcL hm m (own.map (·.2)) bm tm me)) σ H Q → tLc (iList X.K (tE X.K ad J W m)) (tGx X.K ad (own.map (·.2)) bm) (tTx X.K ad (own.map (·.2)) tm) (tEx X.K ad (own.map (·.2)) me) (own.map (·.2)) σ H Q := by
  rintro σ H Q ⟨S, r, L, O, j, rl, rs, z⟩
  refine ⟨S, r, L, O, j, rl, rs, (Post.bind z).imp ?_⟩
  rintro x H1 ⟨S1, r1, d, O1, e1, s1, p1, q1⟩
  replace q1 : Post X.K ad (fun S r => Rp X.K S r) W σ S1 r1 Q (match lsqOf O1 d with
    | some xs => lcEnd hm (lcG (fun i O => (lsqOf O d).map (·[i]?)) (lcTurn (own.map (·.2)) bm tm me L) xs.length 0 O1 [])
    | none => .bad) := q1
  split at q1
  · rename_i xs hx
    obtain ⟨a, vs, rfl, h1, h2⟩ := lsqOf_ok s1 p1 hx
    refine ⟨a, rfl, ⟨vs, h1⟩, lc_post (fun i S r O H d' es el rs hn => ?_) (fun i S r O H es el rs hn => ?_) (rl.mono e1) s1 q1⟩
    · obtain ⟨ys, hy, e⟩ := Option.map_eq_some_iff.mp (show (lsqOf O d).map (·[i]?) = some (some d') from hn)
      obtain ⟨a', us, ea, g1, g2⟩ := lsqOf_ok rs (Rp.monoW es el d _ p1) hy
      cases ea
      obtain ⟨v, hv, pv⟩ := g2.get e
      exact ⟨⟨us, v, g1, hv⟩, fun x H' hyy => ⟨hyy.1, by rw [Option.some.inj ((hyy.2 us g1).symm.trans hv)]; exact pv⟩⟩
    · obtain ⟨ys, hy, e⟩ := Option.map_eq_some_iff.mp (show (lsqOf O d).map (·[i]?) = some none from hn)
      obtain ⟨a', us, ea, g1, g2⟩ := lsqOf_ok rs (Rp.monoW es el d _ p1) hy
      cases ea
      exact ⟨us, g1, by rw [g2.length]; exact List.getElem?_eq_none_iff.mp e⟩
  · exact q1.elim
theorem de_lcL {hm : Bool} (hc : X.calm = true) (hN : X.N.Nodup) (hi : PE X iter (tE X.K ad J W m)) (ok : BlkOk X.N X.env.scope scope own)
    (hg : ∀ (s : Shared) (H : Hp) (C : Addr) (cl : List (Str × Addr)) (fp : List Addr) (J' : JP), Cl (own.map (·.2)) J' → PG (X.blk s H scope (PySem.compEnvC scope cl C X.env) fp) tg (tG X.K ad J' bm))
    (ht : ∀ (s : Shared) (H : Hp) (C : Addr) (cl : List (Str × Addr)) (fp : List Addr) (J' : JP), Cl (own.map (·.2)) J' → PTs (X.blk s H scope (PySem.compEnvC scope cl C X.env) fp) ifs (tT X.K ad J' WF tm))
    (he : ∀ (s : Shared) (H : Hp) (C : Addr) (cl : List (Str × Addr)) (fp : List Addr) (J' : JP), Cl (own.map (·.2)) J' → PE (X.blk s H scope (PySem.compEnvC scope cl C X.env) fp) elt (tE X.K ad J' WF me)) (hs : ∀ x, foldedSetIterable iter X.env x = pure x := by intro _; rfl) :
    PE X (.ListComp elt [⟨tg, iter, ifs, 0⟩] scope pos) (tE X.K ad J W (mLcL hm m (own.map (·.2)) bm tm me)) :=
  pe_imp (pe_lc hc hN (pi_list hi) ok (g := tGx X.K ad (own.map (·.2)) bm) (tt := tTx X.K ad (own.map (·.2)) tm) (te := tEx X.K ad (own.map (·.2)) me) (fun s H C cl fp => gx_of (hg s H C cl fp)) (fun s H C cl fp => tx_of (ht s H C cl fp)) (fun s H C cl fp => ex_of (he s H C cl fp)) hs) lcL_imp
theorem ds_setLcL {y : Str} {py spos : Pos} {iy : Nat} {hm : Bool} (hc : X.calm = true) (hN : X.N.Nodup) (hi : PE X iter (tE X.K ad J W m)) (ok : BlkOk X.N X.env.scope scope own)
    (hg : ∀ (s : Shared) (H : Hp) (C : Addr) (cl : List (Str × Addr)) (fp : List Addr) (J' : JP), Cl (own.map (·.2)) J' → PG (X.blk s H scope (PySem.compEnvC scope cl C X.env) fp) tg (tG X.K ad J' bm))
    (ht : ∀ (s : Shared) (H : Hp) (C : Addr) (cl : List (Str × Addr)) (fp : List Addr) (J' : JP), Cl (own.map (·.2)) J' → PTs (X.blk s H scope (PySem.compEnvC scope cl C X.env) fp) ifs (tT X.K ad J' WF tm))
    (he : ∀ (s : Shared) (H : Hp) (C : Addr) (cl : List (Str × Addr)) (fp : List Addr) (J' : JP), Cl (own.map (·.2)) J' → PE (X.blk s H scope (PySem.compEnvC scope cl C X.env) fp) elt (tE X.K ad J' WF me)) (hs : ∀ x, foldedSetIterable iter X.env x = pure x := by intro _; rfl) (hy : X.N[iy]? = some y) (hyl : X.env.scope.names.lookup y = some .local) (hsw : swapsWith (.ListComp elt [⟨tg, iter, ifs, 0⟩] scope pos) (some (.Name y py)) spos.line X.env = pure true) (hJ : ∀ (σ : L2.St) (v : Option V) (S : Hp), J.p σ S → J.p (σ.set iy v) S := by intro _ _ _ _; trivial) :
    PS X (.Assign [.Name y py] (.ListComp elt [⟨tg, iter, ifs, 0⟩] scope pos) spos) (tS X.K ad J W (sAsg (mLcL hm m (own.map (·.2)) bm tm me) (bName iy))) := by
  refine ps_imp (ps_setLc hc hN hy hyl hsw (pi_list hi) ok (g := tGx X.K ad (own.map (·.2)) bm) (tt := tTx X.K ad (own.map (·.2)) tm) (te := tEx X.K ad (own.map (·.2)) me) (fun s H C cl fp => gx_of (hg s H C cl fp)) (fun s H C cl fp => tx_of (ht s H C cl fp)) (fun s H C cl fp => ex_of (he s H C cl fp)) hs) ?_
  rintro En σ H h
  refine lcL_imp (hm := hm) (W := W) (J := J) σ H _ ?_
  refine asg_imp (t := gName iy) ?_ En σ H h
  rintro v σ H Q ⟨S, r, L, O, d, j, rl, rs, rp, p⟩
  exact p S r _ H (Ext.refl _ _) (hJ _ _ _ j) (rl.set iy rp) rs
theorem lcT_imp {hm : Bool} : ∀ σ H Q, (tE X.K ad J W (mLcT hm m (own.map (·.2)) bm tm me)) σ H Q → tLc (iTup X.K (tE X.K ad J W m)) (tGx X.K ad (own.map (·.2)) bm) (tTx X.K ad (own.map (·.2)) tm) (tEx X.K ad (own.map (·.2)) me) (own.map (·.2)) σ H Q := by
  rintro σ H Q ⟨S, r, L, O, j, rl, rs, z⟩
  refine ⟨S, r, L, O, j, rl, rs, (Post.bind z).imp ?_⟩
  rintro x H1 ⟨S1, r1, d, O1, e1, s1, p1, q1⟩
  cases d with
  | tup xs =>
    obtain ⟨a, vs, rfl, h1, h2⟩ := p1
    refine ⟨a, rfl, ⟨vs, sqT_same s1.sub h1⟩, lc_post (nx := fun i _ => some xs[i]?) (fun i S r O H d' es el rs hn => ?_) (fun i S r O H es el rs hn => ?_) (rl.mono e1) s1 q1⟩
    · have g1 : SqT X.K H a vs := sqT_same rs.sub (sqT_same es h1)
      obtain ⟨v, hv, pv⟩ := (RpAll.monoW es el _ _ h2).get (Option.some.inj hn)
      exact ⟨⟨vs, v, g1, hv⟩, fun x H' hyy => ⟨hyy.1, by rw [Option.some.inj ((hyy.2 vs g1).symm.trans hv)]; exact pv⟩⟩
    · exact ⟨vs, sqT_same rs.sub (sqT_same es h1), by rw [h2.length]; exact List.getElem?_eq_none_iff.mp (Option.some.inj hn)⟩
  | hdl n => exact q1.elim
  | lst n => exact q1.elim
  | rol n => exact q1.elim
  | non => exact q1.elim
  | bl b => exact q1.elim
  | int i => exact q1.elim
  | str s => exact q1.elim
theorem de_lcT {hm : Bool} (hc : X.calm = true) (hN : X.N.Nodup) (hi : PE X iter (tE X.K ad J W m)) (ok : BlkOk X.N X.env.scope scope own)
    (hg : ∀ (s : Shared) (H : Hp) (C : Addr) (cl : List (Str × Addr)) (fp : List Addr) (J' : JP), Cl (own.map (·.2)) J' → PG (X.blk s H scope (PySem.compEnvC scope cl C X.env) fp) tg (tG X.K ad J' bm))
    (ht : ∀ (s : Shared) (H : Hp) (C : Addr) (cl : List (Str × Addr)) (fp : List Addr) (J' : JP), Cl (own.map (·.2)) J' → PTs (X.blk s H scope (PySem.compEnvC scope cl C X.env) fp) ifs (tT X.K ad J' WF tm))
    (he : ∀ (s : Shared) (H : Hp) (C : Addr) (cl : List (Str × Addr)) (fp : List Addr) (J' : JP), Cl (own.map (·.2)) J' → PE (X.blk s H scope (PySem.compEnvC scope cl C X.env) fp) elt (tE X.K ad J' WF me)) (hs : ∀ x, foldedSetIterable iter X.env x = pure x := by intro _; rfl) :
    PE X (.ListComp elt [⟨tg, iter, ifs, 0⟩] scope pos) (tE X.K ad J W (mLcT hm m (own.map (·.2)) bm tm me)) :=
  pe_imp (pe_lc hc hN (pi_tup hi) ok (g := tGx X.K ad (own.map (·.2)) bm) (tt := tTx X.K ad (own.map (·.2)) tm) (te := tEx X.K ad (own.map (·.2)) me) (fun s H C cl fp => gx_of (hg s H C cl fp)) (fun s H C cl fp => tx_of (ht s H C cl fp)) (fun s H C cl fp => ex_of (he s H C cl fp)) hs) lcT_imp
theorem ds_setLcT {y : Str} {py spos : Pos} {iy : Nat} {hm : Bool} (hc : X.calm = true) (hN : X.N.Nodup) (hi : PE X iter (tE X.K ad J W m)) (ok : BlkOk X.N X.env.scope scope own)
    (hg : ∀ (s : Shared) (H : Hp) (C : Addr) (cl : List (Str × Addr)) (fp : List Addr) (J' : JP), Cl (own.map (·.2)) J' → PG (X.blk s H scope (PySem.compEnvC scope cl C X.env) fp) tg (tG X.K ad J' bm))
    (ht : ∀ (s : Shared) (H : Hp) (C : Addr) (cl : List (Str × Addr)) (fp : List Addr) (J' : JP), Cl (own.map (·.2)) J' → PTs (X.blk s H scope (PySem.compEnvC scope cl C X.env) fp) ifs (tT X.K ad J' WF tm))
    (he : ∀ (s : Shared) (H : Hp) (C : Addr) (cl : List (Str × Addr)) (fp : List Addr) (J' : JP), Cl (own.map (·.2)) J' → PE (X.blk s H scope (PySem.compEnvC scope cl C X.env) fp) elt (tE X.K ad J' WF me)) (hs : ∀ x, foldedSetIterable iter X.env x = pure x := by intro _; rfl) (hy : X.N[iy]? = some y) (hyl : X.env.scope.names.lookup y = some .local) (hsw : swapsWith (.ListComp elt [⟨tg, iter, ifs, 0⟩] scope pos) (some (.Name y py)) spos.line X.env = pure true) (hJ : ∀ (σ : L2.St) (v : Option V) (S : Hp), J.p σ S → J.p (σ.set iy v) S := by intro _ _ _ _; trivial) :
    PS X (.Assign [.Name y py] (.ListComp elt [⟨tg, iter, ifs, 0⟩] scope pos) spos) (tS X.K ad J W (sAsg (mLcT hm m (own.map (·.2)) bm tm me) (bName iy))) := by
  refine ps_imp (ps_setLc hc hN hy hyl hsw (pi_tup hi) ok (g := tGx X.K ad (own.map (·.2)) bm) (tt := tTx X.K ad (own.map (·.2)) tm) (te := tEx X.K ad (own.map (·.2)) me) (fun s H C cl fp => gx_of (hg s H C cl fp)) (fun s H C cl fp => tx_of (ht s H C cl fp)) (fun s H C cl fp => ex_of (he s H C cl fp)) hs) ?_
  rintro En σ H h
  refine lcT_imp (hm := hm) (W := W) (J := J) σ H _ ?_
  refine asg_imp (t := gName iy) ?_ En σ H h
  rintro v σ H Q ⟨S, r, L, O, d, j, rl, rs, rp, p⟩
  exact p S r _ H (Ext.refl _ _) (hJ _ _ _ j) (rl.set iy rp) rs
theorem lc_range {hm : Bool} {vs : List Nat} {lo : Int} {n : Nat} {S1 : Hp} {r1 : Rg} {L : Loc} {σ : L2.St} {Q : VK} {O1 : Store} {H1 : Hp} (rl : Rl X.K S1 r1 L σ) (rs : Rs X.K ad S1 r1 O1 H1) (z : Post X.K ad (fun S r => Rp X.K S r) W σ S1 r1 Q (lcEnd hm (lcG (fun i _ => some (rangeD lo n)[i]?) (lcTurn vs bm tm me L) n 0 O1 []))) :
    ∀ Dn, H1 Dn = none → ∃ W' : Nat → Nat → Hp → Prop, (∃ m, W' 0 m (upd H1 Dn (.lst []))) ∧ ∀ i m H, W' i m H →
      ((Itr lo n).stop i H ∧ Q (.ref Dn) H) ∨ ((Itr lo n).go i H ∧ ∃ Nx : Hp → Prop, (∀ H', Nx H' → ∃ m', m' < m ∧ W' (i + 1) m' H') ∧ ∀ x H', (Itr lo n).yld i H x H' → tGx X.K ad vs bm x (wipe σ vs) H' fun σ2 H2 => wipe σ2 vs = wipe σ vs ∧ tTx X.K ad vs tm σ2 H2 fun b H3 =>
        if b = true then tEx X.K ad vs me σ2 H3 fun y H4 => ∃ acc, H4 Dn = some (.lst acc) ∧ acc.length < sizeLine ∧ Nx (upd H4 Dn (.lst (acc ++ [y]))) else Nx H3) := by
  have hl : (rangeD lo n).length = n := by unfold rangeD; rw [List.length_map, List.length_range]
  refine lc_post (It' := Itr lo n) (nx := fun i _ => some (rangeD lo n)[i]?) (fun i S r O H d' es el rs hn => ?_) (fun i S r O H es el rs hn => ?_) rl rs z
  · have hn' : (rangeD lo n)[i]? = some d' := Option.some.inj hn
    have hi : i < n := by rw [← hl]; exact (List.getElem?_eq_some_iff.mp hn').1
    refine ⟨hi, fun x H' hy => ⟨hy.1, ?_⟩⟩
    unfold rangeD at hn'
    rw [List.getElem?_map, List.getElem?_range hi] at hn'
    cases hn'
    exact hy.2
  · have := List.getElem?_eq_none_iff.mp (Option.some.inj hn)
    rw [hl] at this
    exact this
theorem lcR1_imp {hm : Bool} : ∀ σ H Q, (tE X.K ad J W (mLcR1 hm mt (own.map (·.2)) bm tm me)) σ H Q → tLc (iRng1 (tA X.K ad J W mt)) (tGx X.K ad (own.map (·.2)) bm) (tTx X.K ad (own.map (·.2)) tm) (tEx X.K ad (own.map (·.2)) me) (own.map (·.2)) σ H Q := by
  rintro σ H Q ⟨S, r, L, O, j, rl, rs, z⟩
  refine ⟨S, r, L, O, j, rl, rs, (Post.bind z).imp ?_⟩
  rintro vs H1 ⟨S1, r1, ds, O1, e1, s1, p1, q1⟩
  have q2 : Post X.K ad (fun S r => Rp X.K S r) W σ S1 r1 Q (match int1 ds with | some j => lcEnd hm (lcG (fun i _ => some (rangeD 0 j.toNat)[i]?) (lcTurn (own.map (·.2)) bm tm me L) j.toNat 0 O1 []) | none => .bad) := q1
  clear q1
  revert q2
  cases hj : int1 ds with
  | none => exact fun z => z.elim
  | some jj =>
    intro q1
    obtain ⟨rfl, b1, b2⟩ := int1_ok hj
    obtain ⟨v, vr, rfl, rfl, rfl⟩ := p1
    exact ⟨jj, rfl, by omega, by omega, lc_range (rl.mono e1) s1 q1⟩
theorem de_lcR1 {hm : Bool} {p q : Pos} (hc : X.calm = true) (hN : X.N.Nodup) (hg0 : Gl X "range") (hmr : X.mg "range" = none) (ha : PA X [a] (tA X.K ad J W mt)) (ok : BlkOk X.N X.env.scope scope own)
    (hg : ∀ (s : Shared) (H : Hp) (C : Addr) (cl : List (Str × Addr)) (fp : List Addr) (J' : JP), Cl (own.map (·.2)) J' → PG (X.blk s H scope (PySem.compEnvC scope cl C X.env) fp) tg (tG X.K ad J' bm))
    (ht : ∀ (s : Shared) (H : Hp) (C : Addr) (cl : List (Str × Addr)) (fp : List Addr) (J' : JP), Cl (own.map (·.2)) J' → PTs (X.blk s H scope (PySem.compEnvC scope cl C X.env) fp) ifs (tT X.K ad J' WF tm))
    (he : ∀ (s : Shared) (H : Hp) (C : Addr) (cl : List (Str × Addr)) (fp : List Addr) (J' : JP), Cl (own.map (·.2)) J' → PE (X.blk s H scope (PySem.compEnvC scope cl C X.env) fp) elt (tE X.K ad J' WF me))
    (hs0 : starEach [a] X.env = [(false, eval a X.env)] := by rfl) (hs : ∀ x, foldedSetIterable (.Call (.Name "range" p) [a] [] q) X.env x = pure x := by intro _; rfl) :
    PE X (.ListComp elt [⟨tg, .Call (.Name "range" p) [a] [] q, ifs, 0⟩] scope pos) (tE X.K ad J W (mLcR1 hm mt (own.map (·.2)) bm tm me)) :=
  pe_imp (pe_lc hc hN (pi_range1 hg0 hmr ha hs0) ok (g := tGx X.K ad (own.map (·.2)) bm) (tt := tTx X.K ad (own.map (·.2)) tm) (te := tEx X.K ad (own.map (·.2)) me) (fun s H C cl fp => gx_of (hg s H C cl fp)) (fun s H C cl fp => tx_of (ht s H C cl fp)) (fun s H C cl fp => ex_of (he s H C cl fp)) hs) lcR1_imp
theorem ds_setLcR1 {y : Str} {py spos : Pos} {iy : Nat} {hm : Bool} {p q : Pos} (hc : X.calm = true) (hN : X.N.Nodup) (hg0 : Gl X "range") (hmr : X.mg "range" = none) (ha : PA X [a] (tA X.K ad J W mt)) (ok : BlkOk X.N X.env.scope scope own)
    (hg : ∀ (s : Shared) (H : Hp) (C : Addr) (cl : List (Str × Addr)) (fp : List Addr) (J' : JP), Cl (own.map (·.2)) J' → PG (X.blk s H scope (PySem.compEnvC scope cl C X.env) fp) tg (tG X.K ad J' bm))
    (ht : ∀ (s : Shared) (H : Hp) (C : Addr) (cl : List (Str × Addr)) (fp : List Addr) (J' : JP), Cl (own.map (·.2)) J' → PTs (X.blk s H scope (PySem.compEnvC scope cl C X.env) fp) ifs (tT X.K ad J' WF tm))
    (he : ∀ (s : Shared) (H : Hp) (C : Addr) (cl : List (Str × Addr)) (fp : List Addr) (J' : JP), Cl (own.map (·.2)) J' → PE (X.blk s H scope (PySem.compEnvC scope cl C X.env) fp) elt (tE X.K ad J' WF me))
    (hs0 : starEach [a] X.env = [(false, eval a X.env)] := by rfl) (hs : ∀ x, foldedSetIterable (.Call (.Name "range" p) [a] [] q) X.env x = pure x := by intro _; rfl) (hy : X.N[iy]? = some y) (hyl : X.env.scope.names.lookup y = some .local) (hsw : swapsWith (.ListComp elt [⟨tg, .Call (.Name "range" p) [a] [] q, ifs, 0⟩] scope pos) (some (.Name y py)) spos.line X.env = pure true) (hJ : ∀ (σ : L2.St) (v : Option V) (S : Hp), J.p σ S → J.p (σ.set iy v) S := by intro _ _ _ _; trivial) :
    PS X (.Assign [.Name y py] (.ListComp elt [⟨tg, .Call (.Name "range" p) [a] [] q, ifs, 0⟩] scope pos) spos) (tS X.K ad J W (sAsg (mLcR1 hm mt (own.map (·.2)) bm tm me) (bName iy))) := by
  refine ps_imp (ps_setLc hc hN hy hyl hsw (pi_range1 hg0 hmr ha hs0) ok (g := tGx X.K ad (own.map (·.2)) bm) (tt := tTx X.K ad (own.map (·.2)) tm) (te := tEx X.K ad (own.map (·.2)) me) (fun s H C cl fp => gx_of (hg s H C cl fp)) (fun s H C cl fp => tx_of (ht s H C cl fp)) (fun s H C cl fp => ex_of (he s H C cl fp)) hs) ?_
  rintro En σ H h
  refine lcR1_imp (hm := hm) (W := W) (J := J) σ H _ ?_
  refine asg_imp (t := gName iy) ?_ En σ H h
  rintro v σ H Q ⟨S, r, L, O, d, j, rl, rs, rp, p⟩
  exact p S r _ H (Ext.refl _ _) (hJ _ _ _ j) (rl.set iy rp) rs
theorem lcR2_imp {hm : Bool} : ∀ σ H Q, (tE X.K ad J W (mLcR2 hm mt (own.map (·.2)) bm tm me)) σ H Q → tLc (iRng2 (tA X.K ad J W mt)) (tGx X.K ad (own.map (·.2)) bm) (tTx X.K ad (own.map (·.2)) tm) (tEx X.K ad (own.map (·.2)) me) (own.map (·.2)) σ H Q := by
  rintro σ H Q ⟨S, r, L, O, j, rl, rs, z⟩
  refine ⟨S, r, L, O, j, rl, rs, (Post.bind z).imp ?_⟩
  rintro vs H1 ⟨S1, r1, ds, O1, e1, s1, p1, q1⟩
  have q2 : Post X.K ad (fun S r => Rp X.K S r) W σ S1 r1 Q (match int2 ds with | some p => lcEnd hm (lcG (fun i _ => some (rangeD p.1 (p.2 - p.1).toNat)[i]?) (lcTurn (own.map (·.2)) bm tm me L) (p.2 - p.1).toNat 0 O1 []) | none => .bad) := q1
  clear q1
  revert q2
  cases hj : int2 ds with
  | none => exact fun z => z.elim
  | some jj =>
    intro q1
    obtain ⟨rfl, ⟨b1, b2⟩, b3, b4⟩ := int2_ok hj
    obtain ⟨v, vr, rfl, rfl, u, ur, rfl, rfl, rfl⟩ := p1
    exact ⟨jj.1, jj.2, rfl, ⟨by omega, by omega, by omega, by omega⟩, lc_range (rl.mono e1) s1 q1⟩
theorem de_lcR2 {hm : Bool} {p q : Pos} (hc : X.calm = true) (hN : X.N.Nodup) (hg0 : Gl X "range") (hmr : X.mg "range" = none) (ha : PA X [a, b] (tA X.K ad J W mt)) (ok : BlkOk X.N X.env.scope scope own)
    (hg : ∀ (s : Shared) (H : Hp) (C : Addr) (cl : List (Str × Addr)) (fp : List Addr) (J' : JP), Cl (own.map (·.2)) J' → PG (X.blk s H scope (PySem.compEnvC scope cl C X.env) fp) tg (tG X.K ad J' bm))
    (ht : ∀ (s : Shared) (H : Hp) (C : Addr) (cl : List (Str × Addr)) (fp : List Addr) (J' : JP), Cl (own.map (·.2)) J' → PTs (X.blk s H scope (PySem.compEnvC scope cl C X.env) fp) ifs (tT X.K ad J' WF tm))
    (he : ∀ (s : Shared) (H : Hp) (C : Addr) (cl : List (Str × Addr)) (fp : List Addr) (J' : JP), Cl (own.map (·.2)) J' → PE (X.blk s H scope (PySem.compEnvC scope cl C X.env) fp) elt (tE X.K ad J' WF me))
    (hs0 : starEach [a, b] X.env = [(false, eval a X.env), (false, eval b X.env)] := by rfl) (hs2 : starEach [b] X.env = [(false, eval b X.env)] := by rfl) (hs : ∀ x, foldedSetIterable (.Call (.Name "range" p) [a, b] [] q) X.env x = pure x := by intro _; rfl) :
    PE X (.ListComp elt [⟨tg, .Call (.Name "range" p) [a, b] [] q, ifs, 0⟩] scope pos) (tE X.K ad J W (mLcR2 hm mt (own.map (·.2)) bm tm me)) :=
  pe_imp (pe_lc hc hN (pi_range2 hg0 hmr ha hs0 hs2) ok (g := tGx X.K ad (own.map (·.2)) bm) (tt := tTx X.K ad (own.map (·.2)) tm) (te := tEx X.K ad (own.map (·.2)) me) (fun s H C cl fp => gx_of (hg s H C cl fp)) (fun s H C cl fp => tx_of (ht s H C cl fp)) (fun s H C cl fp => ex_of (he s H C cl fp)) hs) lcR2_imp
theorem ds_setLcR2 {y : Str} {py spos : Pos} {iy : Nat} {hm : Bool} {p q : Pos} (hc : X.calm = true) (hN : X.N.Nodup) (hg0 : Gl X "range") (hmr : X.mg "range" = none) (ha : PA X [a, b] (tA X.K ad J W mt)) (ok : BlkOk X.N X.env.scope scope own)
    (hg : ∀ (s : Shared) (H : Hp) (C : Addr) (cl : List (Str × Addr)) (fp : List Addr) (J' : JP), Cl (own.map (·.2)) J' → PG (X.blk s H scope (PySem.compEnvC scope cl C X.env) fp) tg (tG X.K ad J' bm))
    (ht : ∀ (s : Shared) (H : Hp) (C : Addr) (cl : List (Str × Addr)) (fp : List Addr) (J' : JP), Cl (own.map (·.2)) J' → PTs (X.blk s H scope (PySem.compEnvC scope cl C X.env) fp) ifs (tT X.K ad J' WF tm))
    (he : ∀ (s : Shared) (H : Hp) (C : Addr) (cl : List (Str × Addr)) (fp : List Addr) (J' : JP), Cl (own.map (·.2)) J' → PE (X.blk s H scope (PySem.compEnvC scope cl C X.env) fp) elt (tE X.K ad J' WF me))
    (hs0 : starEach [a, b] X.env = [(false, eval a X.env), (false, eval b X.env)] := by rfl) (hs2 : starEach [b] X.env = [(false, eval b X.env)] := by rfl) (hs : ∀ x, foldedSetIterable (.Call (.Name "range" p) [a, b] [] q) X.env x = pure x := by intro _; rfl) (hy : X.N[iy]? = some y) (hyl : X.env.scope.names.lookup y = some .local) (hsw : swapsWith (.ListComp elt [⟨tg, .Call (.Name "range" p) [a, b] [] q, ifs, 0⟩] scope pos) (some (.Name y py)) spos.line X.env = pure true) (hJ : ∀ (σ : L2.St) (v : Option V) (S : Hp), J.p σ S → J.p (σ.set iy v) S := by intro _ _ _ _; trivial) :
    PS X (.Assign [.Name y py] (.ListComp elt [⟨tg, .Call (.Name "range" p) [a, b] [] q, ifs, 0⟩] scope pos) spos) (tS X.K ad J W (sAsg (mLcR2 hm mt (own.map (·.2)) bm tm me) (bName iy))) := by
  refine ps_imp (ps_setLc hc hN hy hyl hsw (pi_range2 hg0 hmr ha hs0 hs2) ok (g := tGx X.K ad (own.map (·.2)) bm) (tt := tTx X.K ad (own.map (·.2)) tm) (te := tEx X.K ad (own.map (·.2)) me) (fun s H C cl fp => gx_of (hg s H C cl fp)) (fun s H C cl fp => tx_of (ht s H C cl fp)) (fun s H C cl fp => ex_of (he s H C cl fp)) hs) ?_
  rintro En σ H h
  refine lcR2_imp (hm := hm) (W := W) (J := J) σ H _ ?_
  refine asg_imp (t := gName iy) ?_ En σ H h
  rintro v σ H Q ⟨S, r, L, O, d, j, rl, rs, rp, p⟩
  exact p S r _ H (Ext.refl _ _) (hJ _ _ _ j) (rl.set iy rp) rs
end
end DK
end
section
set_option Elab.async false
set_option linter.all false
set_option autoImplicit false
set_option maxRecDepth 100000
set_option maxHeartbeats 4000000
/-! DKMore: loops over a text, methods of texts, repr. -/
namespace DK
open PySem L2

def charsD (s : Str) : List D := s.cps.toList.map fun c => .str ⟨#[c]⟩
theorem chars_rp {K : PySem.W.Frag} {S : Hp} {r : Rg} : ∀ cs : List Nat, RpAll K S r (cs.map fun c => D.str ⟨#[c]⟩) (cs.map fun c => V.str ⟨#[c]⟩)
  | [] => rfl
  | _ :: cs => ⟨_, _, rfl, rfl, chars_rp cs⟩
def sForS (m : EM) (b : BM) (body : SM) : SM := fun L O => ofRes L (m L O) fun d O1 => match d with
  | .str s => loopD (turnOf b body) (charsD s) L O1
  | _ => .bad
def mLcS (h : Bool) (src : EM) (vs : List Nat) (b : BM) (tt : TM) (el : EM) : EM := fun L O => (src L O).bind fun d O1 => match d with
  | .str s => lcEnd h (lcG (fun i _ => some (charsD s)[i]?) (lcTurn vs b tt el L) (charsD s).length 0 O1 [])
  | _ => .bad
section
variable {X : Cx} {ad : Str → Addr} {J : JP} {W : WX} {pos : Pos} {a b c e tg iter elt : Expr} {es ifs : List Expr} {m me : EM} {mt : AM} {tm : TM} {st : Stmt} {rest body els : List Stmt} {s1 s2 : SM} {bm : BM} {bs : BsM} {scope : Scope} {own : List (Str × Nat)}
theorem its_at {x : Str} {i : Nat} {v : V} (h : (x.cps.toList.map fun c => V.str ⟨#[c]⟩)[i]? = some v) : ∃ c, x.cps[i]? = some c ∧ v = .str ⟨#[c]⟩ := by
  rw [List.getElem?_map] at h
  obtain ⟨c, hc, rfl⟩ := Option.map_eq_some_iff.mp h
  exact ⟨c, by rw [← Array.getElem?_toList]; exact hc, rfl⟩
theorem ds_forS (hp : PassesOwn (model X.prog X.w) X.A X.env X.xe) (hc : X.calm = true) (hi : PE X iter (tE X.K ad J W m)) (hg : PG X tg (tG X.K ad J bm)) (hb : PSs X body (tS X.K ad J W s1)) (hs : ∀ x, foldedSetIterable iter X.env x = pure x := by intro _; rfl) :
    PS X (.For tg iter body [] pos) (tS X.K ad J W (sForS m bm s1)) := by
  refine ps_imp (ps_for hp hc (pi_str hi) hg hb hs) ?_
  rintro En σ H ⟨S, r, L, O, j, rl, rs, p⟩
  refine ⟨S, r, L, O, j, rl, rs, (bindS j rl p).imp ?_⟩
  rintro x H1 ⟨S1, r1, d, O1, e1, q1, p1, k1⟩
  have rl1 := rl.mono e1
  cases d with
  | str s =>
    refine ⟨s, p1, for_still (It' := Its s) (charsD s) (chars_rp s.cps.toList) (fun i H S x e e' hx => ?_) (fun i H S x y H' e e' hx hy => ?_) (fun i H S e e' hl => ?_) (J.mono e1.s j) rl1 q1 k1⟩
    · obtain ⟨c, hc, _⟩ := its_at hx
      exact (Array.getElem?_eq_some_iff.mp hc).1
    · obtain ⟨c, hc, rfl⟩ := its_at hx
      obtain ⟨h1, c2, h2, h3⟩ := hy
      rw [hc] at h2
      cases h2
      exact ⟨h3, h1⟩
    · rw [List.length_map] at hl
      exact hl
  | hdl n => exact k1.elim
  | lst n => exact k1.elim
  | rol n => exact k1.elim
  | tup n => exact k1.elim
  | non => exact k1.elim
  | bl b => exact k1.elim
  | int i => exact k1.elim
theorem lcS_imp {hm : Bool} : ∀ σ H Q, (tE X.K ad J W (mLcS hm m (own.map (·.2)) bm tm me)) σ H Q → tLc (iStr (tE X.K ad J W m)) (tGx X.K ad (own.map (·.2)) bm) (tTx X.K ad (own.map (·.2)) tm) (tEx X.K ad (own.map (·.2)) me) (own.map (·.2)) σ H Q := by
  rintro σ H Q ⟨S, r, L, O, j, rl, rs, z⟩
  refine ⟨S, r, L, O, j, rl, rs, (Post.bind z).imp ?_⟩
  rintro x H1 ⟨S1, r1, d, O1, e1, s1, p1, q1⟩
  cases d with
  | str s =>
    refine ⟨s, p1, lc_post (nx := fun i _ => some (charsD s)[i]?) (fun i S r O H d' es el rs hn => ?_) (fun i S r O H es el rs hn => ?_) (rl.mono e1) s1 q1⟩
    · have hn' : (charsD s)[i]? = some d' := Option.some.inj hn
      unfold charsD at hn'
      rw [List.getElem?_map] at hn'
      obtain ⟨c, hc, rfl⟩ := Option.map_eq_some_iff.mp hn'
      rw [Array.getElem?_toList] at hc
      refine ⟨(Array.getElem?_eq_some_iff.mp hc).1, fun x H' hyy => ⟨hyy.1, ?_⟩⟩
      obtain ⟨_, c2, h2, h3⟩ := hyy
      rw [hc] at h2
      cases h2
      exact h3
    · have := List.getElem?_eq_none_iff.mp (Option.some.inj hn)
      unfold charsD at this
      rw [List.length_map] at this
      exact this
  | hdl n => exact q1.elim
  | lst n => exact q1.elim
  | rol n => exact q1.elim
  | tup n => exact q1.elim
  | non => exact q1.elim
  | bl b => exact q1.elim
  | int i => exact q1.elim
theorem de_lcS {hm : Bool} (hc : X.calm = true) (hN : X.N.Nodup) (hi : PE X iter (tE X.K ad J W m)) (ok : BlkOk X.N X.env.scope scope own)
    (hg : ∀ (s : Shared) (H : Hp) (C : Addr) (cl : List (Str × Addr)) (fp : List Addr) (J' : JP), Cl (own.map (·.2)) J' → PG (X.blk s H scope (PySem.compEnvC scope cl C X.env) fp) tg (tG X.K ad J' bm))
    (ht : ∀ (s : Shared) (H : Hp) (C : Addr) (cl : List (Str × Addr)) (fp : List Addr) (J' : JP), Cl (own.map (·.2)) J' → PTs (X.blk s H scope (PySem.compEnvC scope cl C X.env) fp) ifs (tT X.K ad J' WF tm))
    (he : ∀ (s : Shared) (H : Hp) (C : Addr) (cl : List (Str × Addr)) (fp : List Addr) (J' : JP), Cl (own.map (·.2)) J' → PE (X.blk s H scope (PySem.compEnvC scope cl C X.env) fp) elt (tE X.K ad J' WF me)) (hs : ∀ x, foldedSetIterable iter X.env x = pure x := by intro _; rfl) :
    PE X (.ListComp elt [⟨tg, iter, ifs, 0⟩] scope pos) (tE X.K ad J W (mLcS hm m (own.map (·.2)) bm tm me)) :=
  pe_imp (pe_lc hc hN (pi_str hi) ok (g := tGx X.K ad (own.map (·.2)) bm) (tt := tTx X.K ad (own.map (·.2)) tm) (te := tEx X.K ad (own.map (·.2)) me) (fun s H C cl fp => gx_of (hg s H C cl fp)) (fun s H C cl fp => tx_of (ht s H C cl fp)) (fun s H C cl fp => ex_of (he s H C cl fp)) hs) lcS_imp
/-! ### repr -/
def gRepr : Store → D → Option (D × Store) := fun O d => match d with
  | .bl b => some (.str (if b then "True" else "False"), O)
  | .non => some (.str "None", O)
  | .int i => if i.natAbs.log2 < 1920 then some (.str (toString i), O) else none
  | _ => none
theorem call_repr_bl : CallR X (.builtin "repr") (fun xs H Q => ∃ b : Bool, xs = [.bl b] ∧ Q (.str (if b then "True" else "False")) H) := by
  intro pins s σ H xs us Q I r h
  obtain ⟨b, rfl, q⟩ := h
  obtain ⟨u, rfl, t⟩ := vals1 r
  rw [show u = .bool b from t]
  exact PySem.P.repr_of_bool ⟨.str _, H, I.tok _, ⟨_, rfl⟩, q⟩
theorem call_repr_non : CallR X (.builtin "repr") (fun xs H Q => xs = [.non] ∧ Q (.str "None") H) := by
  intro pins s σ H xs us Q I r h
  obtain ⟨rfl, q⟩ := h
  obtain ⟨u, rfl, t⟩ := vals1 r
  rw [show u = .none from t]
  exact PySem.P.repr_of_none ⟨.str _, H, I.tok _, ⟨_, rfl⟩, q⟩
theorem cd_repr : CallD X ad (.builtin "repr") (g1 gRepr) := cd_1 (CallR.or call_repr_bl (CallR.or call_repr_non SkE.call_repr_int)) fun S r O H x d W σ Q rs p q => by
  unfold gRepr at q
  split at q
  · rename_i b
    rw [show x = .bl b from p]
    exact .inl ⟨b, rfl, q S r H _ (Ext.refl _ _) rs rfl⟩
  · rw [show x = .non from p]
    exact .inr (.inl ⟨rfl, q S r H _ (Ext.refl _ _) rs rfl⟩)
  · rename_i i
    rw [show x = .int i from p]
    split at q
    · rename_i hl
      exact .inr (.inr ⟨i, rfl, hl, q S r H _ (Ext.refl _ _) rs rfl⟩)
    · exact q.elim
  · exact q.elim
end
/-! ### methods of texts -/
structure MethS (X : Cx) (ad : Str → Addr) (id : String) (g : Store → Str → List D → Option (D × Store)) : Prop where
  ok : ∃ rr, MtR X id rr ∧ ∀ (S : Hp) (r : Rg) (O : Store) (H : Hp) (s : Str) (vs : List V) (ds : List D) (W : WX) (σ : L2.St) (Q : VK), Rs X.K ad S r O H → RpAll X.K S r ds vs →
    Post X.K ad (fun S r => Rp X.K S r) W σ S r Q (ofO (g O s ds)) → rr (.str s) vs H Q
def mBS (g : Store → Str → List D → Option (D × Store)) (mo : EM) (mt : AM) : EM := fun L O => (mo L O).bind fun d O1 => match d with
  | .str s => (mt L O1).bind fun ds O2 => ofO (g O2 s ds)
  | _ => .bad
def rows (h : Bool) (ys : List Str) (O : Store) : Option (D × Store) := newLO h (ys.map .str) O
def gSplit (h : Bool) : Store → Str → List D → Option (D × Store) := fun O a ds => match ds with
  | [.str b] => if (b.length == 0) = false ∧ a.length ≤ 1000000 then rows h (Txt.split a b) O else none
  | _ => none
def strsOf : List D → Option (List Str)
  | [] => some []
  | .str s :: ds => (strsOf ds).map (s :: ·)
  | _ => none
def gJoin : Store → Str → List D → Option (D × Store) := fun O a ds => match ds with
  | [d] => match seqOf O d with
    | some xs => match strsOf xs with
      | some ys => if (ys.map (·.length)).sum + ys.length * a.length ≤ 16777216 then some (.str (Txt.join a ys), O) else none
      | none => none
    | none => none
  | _ => none
def gTxt2 (f : Str → Str → D) : Store → Str → List D → Option (D × Store) := fun O a ds => match ds with
  | [.str b] => some (f a b, O)
  | _ => none
def gStarts := gTxt2 fun a b => .bl (Txt.startswith a b)
def gEnds := gTxt2 fun a b => .bl (Txt.endswith a b)
theorem strsOf_rp {K : PySem.W.Frag} {S : Hp} {r : Rg} : ∀ {ds : List D} {vs : List V} {ns : List Str}, RpAll K S r ds vs → strsOf ds = some ns → vs = ns.map V.str
  | [], vs, ns, h, e => by cases e; exact h
  | .str i :: ds, vs, ns, h, e => by
    obtain ⟨v, vr, rfl, rfl, h2⟩ := h
    have e : (strsOf ds).map (i :: ·) = some ns := e
    obtain ⟨ms, e1, rfl⟩ := Option.map_eq_some_iff.mp e
    rw [strsOf_rp h2 e1]
    rfl
  | .non :: _, _, _, _, e => by cases e
  | .int _ :: _, _, _, _, e => by cases e
  | .bl _ :: _, _, _, _, e => by cases e
  | .lst _ :: _, _, _, _, e => by cases e
  | .rol _ :: _, _, _, _, e => by cases e
  | .tup _ :: _, _, _, _, e => by cases e
  | .hdl _ :: _, _, _, _, e => by cases e
theorem strs_rp {K : PySem.W.Frag} {S : Hp} {r : Rg} : ∀ ys : List Str, RpAll K S r (ys.map D.str) (ys.map V.str)
  | [] => rfl
  | _ :: ys => ⟨_, _, rfl, rfl, strs_rp ys⟩
section
variable {X : Cx} {ad : Str → Addr} {J : JP} {W : WX} {apos cpos : Pos} {o e : Expr} {es : List Expr} {mo : EM} {mt : AM}
theorem de_bS {name : Str} {id : String} {g : Store → Str → List D → Option (D × Store)} (pa : PlainAttrs "str") (slot : Slot "str" name id) (hty : typeOf (.builtin id) = pure (.type "method_descriptor")) (hm : MethS X ad id g) (ho : PE X o (tE X.K ad J W mo)) (ha : PA X (e :: es) (tA X.K ad J W mt))
    (hbase : attributeBase o name X.env (eval o X.env) = eval o X.env := by rfl)
    (hfew : ((backTo cpos (starEach (e :: es) X.env)).all (fun x => !x.1) && (backToKw cpos (keywordEach [] X.env)).all (fun x => x.1.isSome)
      && decide ((e :: es).length + ([] : List Keyword).length + (if ([] : List Keyword).isEmpty then 0 else 1) < 30)) = true := by rfl)
    (hline : (apos.endLine == cpos.line) = true := by rfl) (hs : starEach (e :: es) X.env = (false, eval e X.env) :: starEach es X.env := by rfl) (hplain : (backTo cpos (starEach es X.env)).any (·.1) = false := by rfl) :
    PE X (.Call (.Attribute o name apos) (e :: es) [] cpos) (tE X.K ad J W (mBS g mo mt)) := by
  obtain ⟨rr, h1, h2⟩ := hm.ok
  refine pe_imp (pe_bm pa slot hty h1 ho ha hbase hfew hline hs hplain) ?_
  rintro σ H Q ⟨S, r, L, O, j, rl, rs, q⟩
  refine ⟨S, r, L, O, j, rl, rs, (Post.bind q).imp ?_⟩
  rintro x H1 ⟨S1, r1, d, O1, e1, s1, p1, q1⟩
  cases d with
  | str s =>
    refine ⟨by rw [show x = .str s from p1]; rfl, S1, r1, L, O1, J.mono e1.s j, rl.mono e1, s1, (Post.bind q1).imp ?_⟩
    rintro vs H2 ⟨S2, r2, ds, O2, e2, s2, p2, q2⟩
    rw [show x = .str s from p1]
    exact h2 S2 r2 O2 H2 s vs ds W σ Q s2 p2 q2
  | hdl n => exact q1.elim
  | lst n => exact q1.elim
  | rol n => exact q1.elim
  | tup n => exact q1.elim
  | non => exact q1.elim
  | bl b => exact q1.elim
  | int i => exact q1.elim
theorem rows_post {h : Bool} {ys : List Str} {S : Hp} {r : Rg} {O : Store} {H : Hp} {σ : L2.St} {Q : VK} (rs : Rs X.K ad S r O H) (q : Post X.K ad (fun S r => Rp X.K S r) W σ S r Q (ofO (rows h ys O))) : rNewStrs ys H Q := by
  unfold rows at q
  rw [ofO_newLO] at q
  exact (newL_post rs (strs_rp ys) q).2
theorem ms_split (h : Bool) : MethS X ad "str.split" (gSplit h) where
  ok := ⟨_, mt_split, fun S r O H s vs ds W σ Q rs p q => by
    unfold gSplit at q
    split at q
    · rename_i b
      obtain ⟨v, vr, rfl, rfl, rfl⟩ := p
      split at q
      · rename_i hc
        exact ⟨s, b, rfl, rfl, hc.1, by rw [sizeLine_eq]; omega, rows_post rs q⟩
      · exact q.elim
    · exact q.elim⟩
theorem ms_join : MethS X ad "str.join" gJoin where
  ok := ⟨_, mt_join, fun S r O H s vs ds W σ Q rs p q => by
    unfold gJoin at q
    split at q
    · rename_i d
      obtain ⟨v, vr, rfl, p1, rfl⟩ := p
      split at q
      · rename_i xs hx
        split at q
        · rename_i ys hy
          split at q
          · rename_i hl
            obtain ⟨a, us, rfl, h1, h2⟩ := seqOf_ok rs p1 hx
            rw [strsOf_rp h2 hy] at h1
            exact ⟨s, a, ys, rfl, rfl, h1, hl, q S r H _ (Ext.refl _ _) rs rfl⟩
          · exact q.elim
        · exact q.elim
      · exact q.elim
    · exact q.elim⟩
theorem ms_txt2 {id : String} {f : Str → Str → D} {g : Str → Str → V} (h : MtR X id (fun x xs H Q => ∃ a b, x = .str a ∧ xs = [.str b] ∧ Q (g a b) H)) (hf : ∀ a b S r, Rp X.K S r (f a b) (g a b)) : MethS X ad id (gTxt2 f) where
  ok := ⟨_, h, fun S r O H s vs ds W σ Q rs p q => by
    unfold gTxt2 at q
    split at q
    · rename_i b
      obtain ⟨v, vr, rfl, rfl, rfl⟩ := p
      exact ⟨s, b, rfl, rfl, q S r H _ (Ext.refl _ _) rs (hf s b S r)⟩
    · exact q.elim⟩
theorem ms_starts : MethS X ad "str.startswith" gStarts := ms_txt2 (g := fun a b => .bl (Txt.startswith a b)) mt_startswith fun _ _ _ _ => rfl
theorem ms_ends : MethS X ad "str.endswith" gEnds := ms_txt2 (g := fun a b => .bl (Txt.endswith a b)) mt_endswith fun _ _ _ _ => rfl
end
end DK
end
section
set_option Elab.async false
set_option linter.all false
set_option autoImplicit false
set_option maxRecDepth 100000
set_option maxHeartbeats 4000000
/-! DKMeth: methods of a list of the store (pop, insert, extend, remove, reverse), by mirrors. -/
namespace DK
open PySem L2
structure MethL (X : Cx) (ad : Str → Addr) (id : String) (g : Store → Nat → List D → List D → Option (D × Store)) : Prop where
  ok : ∃ rr, MtR X id rr ∧ ∀ (S : Hp) (r : Rg) (O : Store) (H : Hp) (n : Nat) (a : Addr) (xs : List D) (us vs : List V) (ds : List D) (W : WX) (σ : L2.St) (Q : VK), Rs X.K ad S r O H → r.l[n]? = some a → lstOf O (.hdl n) = some xs →
    H a = some (.lst us) → S a = none → RpAll X.K S r xs us → RpAll X.K S r ds vs → Post X.K ad (fun S r => Rp X.K S r) W σ S r Q (ofO (g O n xs ds)) → rr (.ref a) vs H Q
def mBL (g : Store → Nat → List D → List D → Option (D × Store)) (mo : EM) (mt : AM) : EM := fun L O => (mo L O).bind fun d O1 => match d with
  | .hdl n => match lstOf O1 (.hdl n) with
    | some _ => (mt L O1).bind fun ds O2 => match lstOf O2 (.hdl n) with
      | some xs => ofO (g O2 n xs ds)
      | none => .bad
    | none => .bad
  | _ => .bad
/-- the last item taken off -/
def gPop : Store → Nat → List D → List D → Option (D × Store) := fun O n xs ds => match ds with
  | [] => match xs[xs.length - 1]? with
    | some y => some (y, O.set n (.lst xs.dropLast))
    | none => none
  | _ => none
def gPopAt : Store → Nat → List D → List D → Option (D × Store) := fun O n xs ds => match ds with
  | [.int i] => if -(2 ^ 63) ≤ i ∧ i < 2 ^ 63 then match seqIndex? i xs.length with
      | some k => match xs[k]? with
        | some y => some (y, O.set n (.lst (xs.eraseIdx k)))
        | none => none
      | none => none
    else none
  | _ => none
def gInsert : Store → Nat → List D → List D → Option (D × Store) := fun O n xs ds => match ds with
  | [.int i, y] => if xs.length ≤ 1000000 ∧ 0 ≤ i ∧ i < 2 ^ 63 then some (.non, O.set n (.lst (xs.take i.toNat ++ [y] ++ xs.drop i.toNat))) else none
  | _ => none
def gExtend : Store → Nat → List D → List D → Option (D × Store) := fun O n xs ds => match ds with
  | [.hdl m] => match lstOf O (.hdl m) with
    | some zs => if xs.length ≤ 100000 ∧ zs.length ≤ 100000 then some (.non, O.set n (.lst (xs ++ zs))) else none
    | none => none
  | _ => none
def gReverse : Store → Nat → List D → List D → Option (D × Store) := fun O n xs ds => match ds with
  | [] => some (.non, O.set n (.lst xs.reverse))
  | _ => none
section
variable {X : Cx} {ad : Str → Addr} {J : JP} {W : WX} {pos p p2 apos cpos : Pos} {a b e o : Expr} {es : List Expr} {m me mo mi : EM} {mt : AM}
theorem rp_take {K : PySem.W.Frag} {S : Hp} {r : Rg} : ∀ {ds : List D} {vs : List V} (k : Nat), RpAll K S r ds vs → RpAll K S r (ds.take k) (vs.take k)
  | [], vs, k, h => by rw [show vs = [] from h, List.take_nil, List.take_nil]; rfl
  | d :: ds, vs, 0, h => rfl
  | d :: ds, vs, k + 1, h => by
    obtain ⟨v, vr, rfl, h1, h2⟩ := h
    exact ⟨v, _, rfl, h1, rp_take k h2⟩
theorem rp_drop {K : PySem.W.Frag} {S : Hp} {r : Rg} : ∀ {ds : List D} {vs : List V} (k : Nat), RpAll K S r ds vs → RpAll K S r (ds.drop k) (vs.drop k)
  | [], vs, k, h => by rw [show vs = [] from h, List.drop_nil, List.drop_nil]; rfl
  | d :: ds, vs, 0, h => h
  | d :: ds, vs, k + 1, h => by
    obtain ⟨v, vr, rfl, h1, h2⟩ := h
    exact rp_drop k h2
theorem rp_getI {K : PySem.W.Frag} {S : Hp} {r : Rg} : ∀ {ds : List D} {vs : List V} {k : Nat} {y : D}, RpAll K S r ds vs → ds[k]? = some y → ∃ v, vs[k]? = some v ∧ Rp K S r y v
  | [], vs, k, y, h, e => by simp at e
  | d :: ds, vs, 0, y, h, e => by
    obtain ⟨v, vr, rfl, h1, h2⟩ := h
    cases e
    exact ⟨v, rfl, h1⟩
  | d :: ds, vs, k + 1, y, h, e => by
    obtain ⟨v, vr, rfl, h1, h2⟩ := h
    exact rp_getI (ds := ds) (k := k) h2 (by simpa using e)
theorem rp_rev {K : PySem.W.Frag} {S : Hp} {r : Rg} : ∀ {ds : List D} {vs : List V}, RpAll K S r ds vs → RpAll K S r ds.reverse vs.reverse
  | [], vs, h => by rw [show vs = [] from h]; rfl
  | d :: ds, vs, h => by
    obtain ⟨v, vr, rfl, h1, h2⟩ := h
    rw [List.reverse_cons, List.reverse_cons]
    exact (rp_rev h2).append (.cons h1 .nil)
theorem rp_erase {K : PySem.W.Frag} {S : Hp} {r : Rg} {ds : List D} {vs : List V} (k : Nat) (h : RpAll K S r ds vs) : RpAll K S r (ds.eraseIdx k) (vs.eraseIdx k) := by
  rw [List.eraseIdx_eq_take_drop_succ, List.eraseIdx_eq_take_drop_succ]
  exact (rp_take k h).append (rp_drop (k + 1) h)
theorem de_bL0 {name : Str} {id : String} {g : Store → Nat → List D → List D → Option (D × Store)} (pa : PlainAttrs "list") (slot : Slot "list" name id) (hty : typeOf (.builtin id) = pure (.type "method_descriptor")) (hm : MethL X ad id g) (ho : PE X o (tE X.K ad J W mo))
    (hbase : attributeBase o name X.env (eval o X.env) = eval o X.env := by rfl) (hline : (apos.endLine == cpos.line) = true := by rfl) :
    PE X (.Call (.Attribute o name apos) [] [] cpos) (tE X.K ad J W (mBL g mo mNil)) := by
  obtain ⟨rr, h1, h2⟩ := hm.ok
  refine pe_imp (pe_bm0 pa slot hty h1 ho hbase hline) ?_
  rintro σ H Q ⟨S, r, L, O, j, rl, rs, q⟩
  refine ⟨S, r, L, O, j, rl, rs, (Post.bind q).imp ?_⟩
  rintro x H1 ⟨S1, r1, d, O1, e1, s1, p1, q1⟩
  cases d with
  | hdl n =>
    obtain ⟨l, rfl, hl⟩ := p1
    replace q1 : Post X.K ad (fun S r => Rp X.K S r) W σ S1 r1 Q (match lstOf O1 (.hdl n) with
      | some _ => (match lstOf O1 (.hdl n) with | some xs => ofO (g O1 n xs []) | none => .bad)
      | none => .bad) := q1
    split at q1
    · rename_i zs hz
      replace q1 : Post X.K ad (fun S r => Rp X.K S r) W σ S1 r1 Q (ofO (g O1 n zs [])) := q1
      obtain ⟨z, us, g1, g2⟩ := hdl_lst s1 hl hz
      exact ⟨.inl ⟨rfl, us, .of g1⟩, h2 S1 r1 O1 H1 n l zs us [] [] W σ Q s1 hl hz g1 z g2 rfl q1⟩
    · exact q1.elim
  | lst n => exact q1.elim
  | rol n => exact q1.elim
  | tup n => exact q1.elim
  | non => exact q1.elim
  | bl b => exact q1.elim
  | int i => exact q1.elim
  | str i => exact q1.elim
theorem de_bL {name : Str} {id : String} {g : Store → Nat → List D → List D → Option (D × Store)} (pa : PlainAttrs "list") (slot : Slot "list" name id) (hty : typeOf (.builtin id) = pure (.type "method_descriptor")) (hm : MethL X ad id g) (ho : PE X o (tE X.K ad J W mo)) (ha : PA X (e :: es) (tA X.K ad J W mt))
    (hbase : attributeBase o name X.env (eval o X.env) = eval o X.env := by rfl)
    (hfew : ((backTo cpos (starEach (e :: es) X.env)).all (fun x => !x.1) && (backToKw cpos (keywordEach [] X.env)).all (fun x => x.1.isSome)
      && decide ((e :: es).length + ([] : List Keyword).length + (if ([] : List Keyword).isEmpty then 0 else 1) < 30)) = true := by rfl)
    (hline : (apos.endLine == cpos.line) = true := by rfl) (hs : starEach (e :: es) X.env = (false, eval e X.env) :: starEach es X.env := by rfl) (hplain : (backTo cpos (starEach es X.env)).any (·.1) = false := by rfl) :
    PE X (.Call (.Attribute o name apos) (e :: es) [] cpos) (tE X.K ad J W (mBL g mo mt)) := by
  obtain ⟨rr, h1, h2⟩ := hm.ok
  refine pe_imp (pe_bm pa slot hty h1 ho ha hbase hfew hline hs hplain) ?_
  rintro σ H Q ⟨S, r, L, O, j, rl, rs, q⟩
  refine ⟨S, r, L, O, j, rl, rs, (Post.bind q).imp ?_⟩
  rintro x H1 ⟨S1, r1, d, O1, e1, s1, p1, q1⟩
  cases d with
  | hdl n =>
    obtain ⟨l, rfl, hl⟩ := p1
    replace q1 : Post X.K ad (fun S r => Rp X.K S r) W σ S1 r1 Q (match lstOf O1 (.hdl n) with
      | some _ => (mt L O1).bind fun ds O2 => (match lstOf O2 (.hdl n) with | some xs => ofO (g O2 n xs ds) | none => .bad)
      | none => .bad) := q1
    split at q1
    · rename_i zs hz
      obtain ⟨z, us, g1, g2⟩ := hdl_lst s1 hl hz
      refine ⟨.inl ⟨rfl, us, .of g1⟩, S1, r1, L, O1, J.mono e1.s j, rl.mono e1, s1, (Post.bind q1).imp ?_⟩
      rintro vs H2 ⟨S2, r2, ds, O2, e2, s2, p2, q2⟩
      have hl2 := pre_get e2.r hl
      replace q2 : Post X.K ad (fun S r => Rp X.K S r) W σ S2 r2 Q (match lstOf O2 (.hdl n) with | some xs => ofO (g O2 n xs ds) | none => .bad) := q2
      split at q2
      · rename_i xs hx
        obtain ⟨z2, us2, g3, g4⟩ := hdl_lst s2 hl2 hx
        exact h2 S2 r2 O2 H2 n l xs us2 vs ds W σ Q s2 hl2 hx g3 z2 g4 p2 q2
      · exact q2.elim
    · exact q1.elim
  | lst n => exact q1.elim
  | rol n => exact q1.elim
  | tup n => exact q1.elim
  | non => exact q1.elim
  | bl b => exact q1.elim
  | int i => exact q1.elim
  | str i => exact q1.elim
theorem rp_dropLast {K : PySem.W.Frag} {S : Hp} {r : Rg} {ds : List D} {vs : List V} (h : RpAll K S r ds vs) : RpAll K S r ds.dropLast vs.dropLast := by
  rw [List.dropLast_eq_take, List.dropLast_eq_take, h.length]
  exact rp_take _ h
theorem ml_pop : MethL X ad "list.pop" gPop where
  ok := ⟨_, mt_pop, fun S r O H n a xs us vs ds W σ Q rs hl hx hH z h p q => by
    unfold gPop at q
    split at q
    · cases (show vs = [] from p)
      split at q
      · rename_i y hy
        obtain ⟨v, hv, rv⟩ := rp_getI h hy
        rw [← h.length] at hv
        exact ⟨a, us, v, rfl, rfl, hH, hv, q S r _ _ (Ext.refl _ _) (set_lst (vs := us) rs hl z (rp_dropLast h)) rv⟩
      · exact q.elim
    · exact q.elim⟩
theorem ml_popAt : MethL X ad "list.pop" gPopAt where
  ok := ⟨_, mt_popAt, fun S r O H n a xs us vs ds W σ Q rs hl hx hH z h p q => by
    unfold gPopAt at q
    split at q
    · rename_i i
      obtain ⟨v, vr, rfl, rfl, rfl⟩ := p
      split at q
      · rename_i hi
        split at q
        · rename_i k hk
          split at q
          · rename_i y hy
            obtain ⟨v, hv, rv⟩ := rp_getI h hy
            rw [← h.length] at hk
            exact ⟨a, us, i, k, v, rfl, rfl, hH, hi.1, hi.2, hk, hv, q S r _ _ (Ext.refl _ _) (set_lst (vs := us) rs hl z (rp_erase k h)) rv⟩
          · exact q.elim
        · exact q.elim
      · exact q.elim
    · exact q.elim⟩
theorem ml_insert : MethL X ad "list.insert" gInsert where
  ok := ⟨_, mt_insert, fun S r O H n a xs us vs ds W σ Q rs hl hx hH z h p q => by
    unfold gInsert at q
    split at q
    · rename_i i y
      obtain ⟨v, vr, rfl, rfl, v2, vr2, rfl, p2, rfl⟩ := p
      split at q
      · rename_i hi
        exact ⟨a, us, i, v2, rfl, rfl, hH, by rw [h.length]; exact million_lt hi.1, hi.2.1, hi.2.2, q S r _ _ (Ext.refl _ _) (set_lst (vs := us) rs hl z (((rp_take _ h).append (.cons p2 .nil)).append (rp_drop _ h))) rfl⟩
      · exact q.elim
    · exact q.elim⟩
theorem ml_extend : MethL X ad "list.extend" gExtend where
  ok := ⟨_, mt_extend, fun S r O H n a xs us vs ds W σ Q rs hl hx hH z h p q => by
    unfold gExtend at q
    split at q
    · rename_i m
      obtain ⟨v, vr, rfl, ⟨b, rfl, hb⟩, rfl⟩ := p
      split at q
      · rename_i zs hz
        obtain ⟨z2, us2, g3, g4⟩ := hdl_lst rs hb hz
        split at q
        · rename_i hi
          exact ⟨a, b, us, us2, rfl, rfl, hH, g3, by rw [h.length, g4.length, sizeLine_eq]; omega, q S r _ _ (Ext.refl _ _) (set_lst (vs := us) rs hl z (h.append g4)) rfl⟩
        · exact q.elim
      · exact q.elim
    · exact q.elim⟩
theorem ml_reverse : MethL X ad "list.reverse" gReverse where
  ok := ⟨_, mt_reverse, fun S r O H n a xs us vs ds W σ Q rs hl hx hH z h p q => by
    unfold gReverse at q
    split at q
    · cases (show vs = [] from p)
      exact ⟨a, us, rfl, rfl, hH, q S r _ _ (Ext.refl _ _) (set_lst (vs := us) rs hl z (rp_rev h)) rfl⟩
    · exact q.elim⟩
end
end DK
end
section
set_option Elab.async false
set_option linter.all false
set_option autoImplicit false
set_option maxRecDepth 100000
set_option maxHeartbeats 4000000
/-! DKHead: facts of the head by names, a def's datum, the law's own end. -/
namespace DK
open PySem L2

/-! ### more facts -/
/-- these values are these texts -/
def strsB : List Value → List Str → Bool
  | [], [] => true
  | .str a _ :: vs, b :: bs => decide (a = b) && strsB vs bs
  | _, _ => false
theorem strsB_ok : ∀ {vs : List Value} {xs : List Str}, strsB vs xs = true → Vals (xs.map V.str) vs
  | [], [], _ => .nil
  | v :: vs, [], h => by cases v <;> cases h
  | [], x :: xs, h => by cases h
  | v :: vs, x :: xs, h => by
    cases v with
    | str a t =>
      obtain ⟨h1, h2⟩ := Bool.and_eq_true_iff.mp (show (decide (a = x) && strsB vs xs) = true from h)
      obtain rfl := of_decide_eq_true h1
      exact .cons ⟨t, rfl⟩ (strsB_ok h2)
    | _ => cases h
/-- a tuple of texts of the module -/
def tupB (K : PySem.W.Frag) (a : Addr) (xs : List Str) : Bool := match K.lookup a with
  | some o => (o.cls == .type "tuple") && (match o.data with
    | .seq its _ => decide (its.size ≤ sizeLine) && strsB its.toList xs
    | _ => false)
  | none => false
inductive Fx where
  | exc (x : Str)
  | kitR (x y : Str) (b : Bool)
  | kitT (x : Str) (T : String) (b : Bool)
  | own (x : Str)
  | tupS (x : Str) (xs : List Str)
  | tupD (x : Str)
def Fx.ok (K : PySem.W.Frag) : Fx → Bool
  | .exc x => (decide (PySem.W.findIn K (.ref (He.ga K x)) "__getattribute__" = some (some (.builtin "BaseException.__getattribute__")) ∧ PySem.W.findIn K (.ref (He.ga K x)) "__getattr__" = some none ∧ PySem.W.subIn K (.ref (He.ga K x)) (.type "BaseException") = some true ∧ PySem.W.hasDictIn K (He.ga K x) = true ∧ PySem.W.findIn K (.ref (He.ga K x)) "__class__" = some (some (.builtin "object.__class__"))
      ∧ PySem.W.specialIn K (.builtin "object.__class__") "__get__" = some (some (.builtin "getset_descriptor.__get__")) ∧ PySem.W.takesIn K (.builtin "object.__class__") = some true ∧ PySem.W.mroIn K (He.ga K x) (.type "object") = some true))
  | .kitR x y b => decide (PySem.W.kitOne K (.ref (He.ga K x)) (.ref (He.ga K y)) = some b)
  | .kitT x T b => decide (PySem.W.kitOne K (.ref (He.ga K x)) (.type T) = some b)
  | .own x => decide (PySem.W.findIn K (.ref (He.ga K x)) "__class__" = some (some (.builtin "object.__class__")) ∧ PySem.W.specialIn K (.builtin "object.__class__") "__get__" = some (some (.builtin "getset_descriptor.__get__"))
      ∧ PySem.W.takesIn K (.builtin "object.__class__") = some true ∧ PySem.W.mroIn K (He.ga K x) (.type "object") = some true ∧ PySem.W.kitOne K (.ref (He.ga K x)) (.ref (He.ga K x)) = some true ∧ PySem.W.kitOne K (.type "int") (.ref (He.ga K x)) = some false)
  | .tupS x xs => tupB K (He.ga K x) xs
  | .tupD x => (match K.lookup (He.ga K x) with
    | some o => (o.cls == .type "tuple") && o.dict.isNone
    | none => false)
/-- a tuple of the module, without a dict of its own -/
theorem fx_tupD {K : PySem.W.Frag} {x : Str} (h : (Fx.tupD x).ok K = true) : ∃ o, K.lookup (He.ga K x) = some o ∧ o.cls = .type "tuple" ∧ o.dict = none := by
  replace h : (match K.lookup (He.ga K x) with
    | some o => (o.cls == .type "tuple") && o.dict.isNone
    | none => false) = true := h
  split at h
  · rename_i o ho
    obtain ⟨h1, h2⟩ := Bool.and_eq_true_iff.mp h
    exact ⟨o, ho, eq_of_beq h1, Option.isNone_iff_eq_none.mp h2⟩
  · cases h
theorem fx_tupS {K : PySem.W.Frag} {x : Str} {xs : List Str} (h : (Fx.tupS x xs).ok K = true) (S : Hp) (r : Rg) : Rp K S r (.tup (xs.map .str)) (.ref (He.ga K x)) := by
  replace h : tupB K (He.ga K x) xs = true := h
  unfold tupB at h
  split at h
  · rename_i o ho
    obtain ⟨h1, h2⟩ := Bool.and_eq_true_iff.mp h
    split at h2
    · rename_i its n hd
      obtain ⟨h3, h4⟩ := Bool.and_eq_true_iff.mp h2
      have rp : ∀ ys : List Str, RpAll K S r (ys.map D.str) (ys.map V.str) := fun ys => by
        induction ys with
        | nil => rfl
        | cons y ys ih => exact ⟨_, _, rfl, rfl, ih⟩
      exact ⟨_, xs.map V.str, rfl, .inr ⟨o, its, n, ho, eq_of_beq h1, hd, of_decide_eq_true h3, strsB_ok h4⟩, rp xs⟩
    · cases h2
  · cases h
theorem fx_exc {K : PySem.W.Frag} {x : Str} (h : (Fx.exc x).ok K = true) : ExcC K (He.ga K x) := by
  obtain ⟨h1, h2, h3, h4, h5, h6, h7, h8⟩ := of_decide_eq_true h
  exact ⟨h1, h2, h3, h4, h5, h6, h7, h8⟩
theorem fx_kitR {K : PySem.W.Frag} {x y : Str} {b : Bool} (h : (Fx.kitR x y b).ok K = true) : PySem.W.kitOne K (.ref (He.ga K x)) (.ref (He.ga K y)) = some b := of_decide_eq_true h
theorem fx_kitT {K : PySem.W.Frag} {x : Str} {T : String} {b : Bool} (h : (Fx.kitT x T b).ok K = true) : PySem.W.kitOne K (.ref (He.ga K x)) (.type T) = some b := of_decide_eq_true h
def allFx (fx : List Fx) (K : PySem.W.Frag) : Bool := fx.all fun f => f.ok K
theorem fx_at {fx : List Fx} {K : PySem.W.Frag} (c : allFx fx K = true) (i : Nat) {f : Fx} (h : fx[i]? = some f := by rfl) : f.ok K = true := List.all_eq_true.mp c f (List.mem_of_getElem? h)
/-- what the head tells of K -/
structure Knows (fa : List He.Fa) (fn : List He.DefD) (fx : List Fx) (K : PySem.W.Frag) (mg : Str → Option Value) : Prop where
  c : He.SaysD fa fn K
  x : allFx fx K = true
  h : ∃ h : Heap, K.In h ∧ h.Ns mainGlobals mg
section
variable {fa : List He.Fa} {fn : List He.DefD} {fx : List Fx} {K : PySem.W.Frag} {mg : Str → Option Value} (k : Knows fa fn fx K mg)
include k
theorem Knows.glo (i : Nat) {x : Str} (e : fa[i]? = some (.glo x) := by rfl) : mg x = some (.ref (He.ga K x)) := by
  obtain ⟨h, X, G⟩ := k.h
  exact He.glo_ok X G (k.c.fact i e)
theorem Knows.free (i : Nat) {x : Str} (e : fa[i]? = some (.free x) := by rfl) : mg x = none := by
  obtain ⟨h, X, G⟩ := k.h
  exact He.free_ok X G (k.c.fact i e)
theorem Knows.int (i : Nat) {x : Str} {z : Int} (e : fa[i]? = some (.int x z) := by rfl) : ∃ t, mg x = some (.int z t) := by
  obtain ⟨h, X, G⟩ := k.h
  exact He.int_ok X G (k.c.fact i e)
theorem Knows.str (i : Nat) {x z : Str} (e : fa[i]? = some (.str x z) := by rfl) : ∃ t, mg x = some (.str z t) := by
  obtain ⟨h, X, G⟩ := k.h
  exact He.str_ok X G (k.c.fact i e)
theorem Knows.cls (i : Nat) {x : Str} (e : fa[i]? = some (.cls x) := by rfl) : Cls K (He.ga K x) := He.cls_ok (k.c.fact i e)
theorem Knows.noat (i : Nat) {x f : Str} (e : fa[i]? = some (.noat x f) := by rfl) : NoAttr K (He.ga K x) f := He.noat_ok (k.c.fact i e)
theorem Knows.meth (i : Nat) {x m : Str} (e : fa[i]? = some (.meth x m) := by rfl) : Meth K (He.ga K x) m (He.fAd K (x, some m)) := He.meth_ok (k.c.fact i e)
theorem Knows.mkr (i : Nat) {x : Str} (e : fa[i]? = some (.mkr x) := by rfl) : Mk K (He.ga K x) (He.fAd K (x, some "__init__")) := He.mkr_ok (k.c.fact i e)
theorem Knows.exc (i : Nat) {x : Str} (e : fa[i]? = some (.exc x) := by rfl) : PySem.W.excIn K (He.ga K x) He.veBase "ValueError.__new__" = true ∧ PySem.W.keepIn K (.ref (He.ga K x)) = true ∧ PySem.W.subIn K (.ref (He.ga K x)) (.type "BaseException") = some true ∧ PySem.W.typeIn K (.ref (He.ga K x)) = some (.type "type") := He.exc_ok (k.c.fact i e)
theorem Knows.exm (i : Nat) {x y : Str} {b : Bool} (e : fa[i]? = some (.exm x y b) := by rfl) : PySem.W.exmOne K (.ref (He.ga K x)) (.ref (He.ga K y)) = some b := He.exm_ok (k.c.fact i e)
end
/-- a def that the mirror tells -/
def Has (P : Program) (w : World) (K : PySem.W.Frag) (mg : Str → Option Value) (base : Heap) (k : Nat) (d : He.DefD) (ps : List Str) (fm : FM) : Prop :=
  ∃ fd, FunD K d.name d.qual d.params d.body d.scope (d.dvs K) (d.kws K) (He.fAd K d.at_) fd ∧ FnOk P w K mg base (L2.CX P w) k (He.fAd K d.at_) fd ps (spM K (He.ga K) ps.length fm)
section
variable {P : Program} {w : World} {K : PySem.W.Frag} {mg : Str → Option Value} {base : Heap} {d : He.DefD} {ps N : List Str} {fm : FM} {b : SM}
theorem has_mono {j k : Nat} (h : Has P w K mg base j d ps fm) (e : j ≤ k) : Has P w K mg base k d ps fm := by
  obtain ⟨fd, F, O⟩ := h
  exact ⟨fd, F, O.mono e⟩
theorem has_def {k : Nat} (c : ∃ fd, FunD K d.name d.qual d.params d.body d.scope (d.dvs K) (d.kws K) (He.fAd K d.at_) fd) (sc : FnScope N ps d.scope)
    (hb : ∀ (f : Addr) (cdv : Value) (A : Around) (outer : List Env) (s : Shared) (H : Hp) (E : XK), Room k (A.deeper (PyProof.Rows.envOfC d.qual d.scope s.heap.objs.size f cdv)) →
      PSs (cxOf (L2.CX P w) P w K mg base N d.qual d.scope f cdv A outer s H E) d.body (tS K (He.ga K) JT (fun c d _ H => E c d H) b)) :
    Has P w K mg base (k + 1) d ps (runF N.length b) := by
  obtain ⟨fd, F⟩ := c
  exact ⟨fd, F, fn_def F sc fun cdv A outer s H E hr => hb _ cdv A outer s H E hr⟩
/-- a def that is never asked -/
theorem has_bad {k : Nat} (c : ∃ fd, FunD K d.name d.qual d.params d.body d.scope (d.dvs K) (d.kws K) (He.fAd K d.at_) fd) : Has P w K mg base k d ps (fun _ _ => .bad) := by
  obtain ⟨fd, F⟩ := c
  refine ⟨fd, F, fun vs H Q E h => ?_, fun A outer s H args us vs Q E hr e0 hb hv h => ?_⟩
  · obtain ⟨S, r, O, ds, hl, _, hp, z⟩ := h
    exact z.elim
  · obtain ⟨S, r, O, ds, hl, _, hp, z⟩ := h
    exact z.elim
end
/-! ### the law's def: nothing is let out -/
section
variable {P : Program} {w : World} {K : PySem.W.Frag} {mg : Str → Option Value} {base : Heap} {ad : Str → Addr}
/-- the promise: the law gives True -/
def spLaw (K : PySem.W.Frag) (m : FM) : Sp := fun vs H Q _ => ∃ (a : Addr) (ns : List Int), vs = [.ref a] ∧ SqL K H a (ns.map V.int) ∧ ns.length ≤ 63 ∧ (∃ O, m [.rol (ns.map D.int)] [] = .ok (.bl true) O) ∧ ∀ H', Q (.bl true) H'
theorem ints_rp {S : Hp} {r : Rg} : ∀ ns : List Int, RpAll K S r (ns.map D.int) (ns.map V.int)
  | [] => rfl
  | n :: ns => ⟨_, _, rfl, rfl, ints_rp ns⟩
theorem law_def {x qual : Str} {params : Arguments} {bd : List Stmt} {scope : Scope} {f : Addr} {fd : FuncData} {N : List Str} {k : Nat} {b : SM} {y : Str} (F : FunD K x qual params bd scope [] [] f fd) (sc : FnScope N [y] scope)
    (hb : ∀ (cdv : Value) (A : Around) (outer : List Env) (s : Shared) (H : Hp) (E : XK), Room k (A.deeper (PyProof.Rows.envOfC qual scope s.heap.objs.size f cdv)) →
      PSs (cxOf CX0 P w K mg base N qual scope f cdv A outer s H E) bd (tS K ad JT WF b)) :
    FnOk P w K mg base CX0 (k + 1) f fd [y] (spLaw K (runF N.length b)) := by
  have hpl : 1 ≤ N.length := by have := congrArg List.length sc.pre; rw [List.length_take] at this; simp at this; omega
  refine F.ok sc (fun vs H Q E h => ?_) (fun cdv A outer s H vs Q E hr h => ?_)
  · obtain ⟨a, ns, rfl, _⟩ := h
    rfl
  · refine ⟨_, hb cdv A outer s H E hr, ?_⟩
    obtain ⟨a, ns, rfl, hS, hl, ⟨O1, hm⟩, hQ⟩ := h
    have p1 : RpAll K H ⟨[], fun _ => none⟩ [.rol (ns.map D.int)] [.ref a] := ⟨_, _, rfl, ⟨a, _, rfl, hS, ints_rp ns⟩, rfl⟩
    have rs : Rs K ad H ⟨[], fun _ => none⟩ [] H := ⟨Same.refl H, rfl, List.nodup_nil, fun n a o h => (by simp at h), fun b u e => (by cases e), fun a o e => (by cases e)⟩
    refine ⟨H, ⟨[], fun _ => none⟩, _, [], trivial, start_rl (ds := [.rol (ns.map D.int)]) hpl p1, rs, ?_⟩
    unfold runF at hm
    generalize b (([D.rol (ns.map D.int)] : List D).map some ++ List.replicate (N.length - ([D.rol (ns.map D.int)] : List D).length) none) [] = z at hm ⊢
    cases z with
    | next L O => cases hm
    | ret d O =>
      cases hm
      exact fun S' r' H' v e _ p => by
        rw [show v = .bl true from p]
        exact hQ H'
    | brk L O => cases hm
    | cnt L O => cases hm
    | exc x L O => cases hm
    | bad => cases hm
end
/-- one address, one function object -/
theorem fd_eq {K : PySem.W.Frag} {x x' qual qual' : Str} {params params' : Arguments} {bd bd' : List Stmt} {scope scope' : Scope} {dvs dvs' : List V} {kws kws' : List (Str × V)} {f : Addr} {fd fd' : FuncData} (F : FunD K x qual params bd scope dvs kws f fd) (G : FunD K x' qual' params' bd' scope' dvs' kws' f fd') : fd = fd' := by
  obtain ⟨_, _, _, _, _, _, _, _, _, _, rfl, l1, _⟩ := F.ex
  obtain ⟨_, _, _, _, _, _, _, _, _, _, rfl, l2, _⟩ := G.ex
  have e := l1.symm.trans l2
  injection e with e
  injection e with _ _ e _
  injection e
/-! ### small helps -/
theorem tk_of {P : Program} {w : World} {K : PySem.W.Frag} {mg : Str → Option Value} {base : Heap} {N : List Str} {qual : Str} {scope : Scope} {f : Addr} {cdv : Value} {A : Around} {outer : List Env} {s : Shared} {H : Hp} {E : XK} : Takes (cxOf (L2.CX P w) P w K mg base N qual scope f cdv A outer s H E) (fun c d _ H => E c d H) := takes_of rfl rfl rfl rfl
theorem own_of {CX : CXT} {P : Program} {w : World} {K : PySem.W.Frag} {mg : Str → Option Value} {base : Heap} {N : List Str} {qual : Str} {scope : Scope} {f : Addr} {cdv : Value} {A : Around} {outer : List Env} {s : Shared} {H : Hp} {E : XK} : PassesOwn (model P w) (cxOf CX P w K mg base N qual scope f cdv A outer s H E).A (cxOf CX P w K mg base N qual scope f cdv A outer s H E).env (cxOf CX P w K mg base N qual scope f cdv A outer s H E).xe := passes_of rfl
def inC (st : Stmt) (i : Nat) : Stmt := match st with
  | .ClassDef _ _ _ b _ _ _ _ _ _ _ => b.getD i (.Pass ⟨0, 0, 0, 0⟩)
  | _ => .Pass ⟨0, 0, 0, 0⟩
end DK
end
section
set_option Elab.async false
set_option linter.all false
set_option autoImplicit false
set_option maxRecDepth 100000
set_option maxHeartbeats 4000000
/-! DKPlain: the draws of the laws, in plain Lean. -/
namespace DK
open PySem L2

def bDraw : SM := (sSeq (sIf (mTest (mOp gGt (mOp gIx (mVar 0) (mC (.int 2))) (mC (.int 0)))) (sSeq (sAsg (mOp gMod (mCall (g1 gInt) (mCons (mOp gIx (mVar 0) (mC (.int 2))) mNil)) (mVar 1)) (bName 2))
    (sSeq (sAsg (mOp gFdiv (mOp gIx (mVar 0) (mC (.int 2))) (mVar 1)) (bSubL (mVar 0) (mC (.int 2))))
    (sRet (mVar 2)))) sNext)
    (sSeq (sIf (mAnd (mTest (mOp gEq (mOp gMod (mCall (g1 gInt) (mCons (mOp gIx (mVar 0) (mC (.int 4))) mNil)) (mC (.int 8))) (mC (.int 0)))) (mTest (mOp gLt (mOp gIx (mVar 0) (mC (.int 1))) (mCall (g1 gLen) (mCons (mOp gIx (mVar 0) (mC (.int 0))) mNil))))) (sSeq (sAsg (mCall (g1 gAbs) (mCons (mOp gIx (mOp gIx (mVar 0) (mC (.int 0))) (mOp gIx (mVar 0) (mC (.int 1)))) mNil)) (bName 3))
    (sSeq (sAsg (mOp (gAdd false) (mOp gIx (mVar 0) (mC (.int 1))) (mC (.int 1))) (bSubL (mVar 0) (mC (.int 1))))
    (sSeq (sIf (mTest (mOp gGe (mVar 3) (mOp gPow (mC (.int 10)) (mC (.int 18))))) (sSeq (sAsg (mOp gFdiv (mVar 3) (mVar 1)) (bSubL (mVar 0) (mC (.int 2))))
    (sRet (mOp gMod (mCall (g1 gInt) (mCons (mVar 3) mNil)) (mVar 1)))) sNext)
    (sAsg (mVar 3) (bSubL (mVar 0) (mC (.int 3))))))) sNext)
    (sSeq (sAsg (mOp (gAdd false) (mOp gIx (mVar 0) (mC (.int 4))) (mC (.int 1))) (bSubL (mVar 0) (mC (.int 4))))
    (sSeq (sAsg (mOp gMod (mCall (g1 gInt) (mCons (mOp (gAdd false) (mOp (gAdd false) (mOp gMul (mOp gIx (mVar 0) (mC (.int 3))) (mC (.int 48271))) (mOp gMul (mOp gIx (mVar 0) (mC (.int 4))) (mC (.int 69621)))) (mC (.int 7919))) mNil)) (mC (.int 2147483647))) (bName 4))
    (sSeq (sAsg (mOp gMod (mCall (g1 gInt) (mCons (mOp (gAdd false) (mOp gMul (mVar 4) (mVar 4)) (mOp gMul (mOp gIx (mVar 0) (mC (.int 4))) (mC (.int 40692)))) mNil)) (mC (.int 2147483399))) (bName 4))
    (sRet (mOp gMod (mCall (g1 gInt) (mCons (mVar 4) mNil)) (mVar 1))))))))
def fDraw : FM := runF 5 bDraw
/-- the pool of draws at n: its script, place, what is left, last number, count (at most b) -/
def poolL (ns : List Int) (z la li k : Int) : List D := [.lst (ns.map D.int), .int z, .int la, .int li, .int k]
structure Pool (b : Nat) (n : Nat) (O : Store) : Prop where
  ex : ∃ ns z la li k, O[n]? = some (.lst (poolL ns z la li k)) ∧ 0 ≤ z ∧ z ≤ ns.length ∧ 0 ≤ la ∧ 0 ≤ li ∧ li < 10 ^ 18 ∧ 0 ≤ k ∧ k ≤ b
theorem set_at {O : Store} {n : Nat} {o p : Ob} (h : O[n]? = some o) : (O.set n p)[n]? = some p := List.getElem?_set_self (List.getElem?_eq_some_iff.mp h).1


theorem gMul_ok {O : Store} {i j : Int} (hi : i.natAbs < 2 ^ 4096) (hj : j.natAbs < 2 ^ 4096) : gMul O (.int i) (.int j) = some (.int (i * j), O) := by
  have h1 : i.natAbs.log2 ≤ 4096 := by
    by_cases h : i.natAbs = 0
    · rw [h]; decide
    · exact Nat.le_of_lt ((Nat.log2_lt h).mpr hi)
  have h2 : j.natAbs.log2 ≤ 4096 := by
    by_cases h : j.natAbs = 0
    · rw [h]; decide
    · exact Nat.le_of_lt ((Nat.log2_lt h).mpr hj)
  unfold gMul gI
  have e : decide (i.natAbs.log2 + j.natAbs.log2 < 1000000) = true := decide_eq_true (by omega)
  simp only [e, if_pos]
theorem gFdiv_ok {O : Store} {i j : Int} (h0 : 0 < j) (hj : j.natAbs < 2 ^ 4096) : gFdiv O (.int i) (.int j) = some (.int (i / j), O) := by
  have h2 : j.natAbs.log2 ≤ 4096 := Nat.le_of_lt ((Nat.log2_lt (by omega)).mpr hj)
  unfold gFdiv gI
  have e : decide (0 < j ∧ j.natAbs.log2 < 9000) = true := decide_eq_true ⟨h0, by omega⟩
  simp only [e, if_pos]
theorem gMod_ok {O : Store} {i j : Int} (h0 : 0 < j) : gMod O (.int i) (.int j) = some (.int (i % j), O) := by
  unfold gMod gI
  have e : decide (0 < j) = true := decide_eq_true h0
  simp only [e, if_pos]
theorem gPow_ok {O : Store} {i j : Int} (h0 : 0 ≤ j) (h1 : j ≤ 1000000) (h2 : i.natAbs < 2 ^ 64) : gPow O (.int i) (.int j) = some (.int (i ^ j.toNat), O) := by
  unfold gPow gI
  have e : decide (0 ≤ j ∧ j ≤ 1000000 ∧ i.natAbs < 2 ^ 64) = true := decide_eq_true ⟨h0, h1, h2⟩
  simp only [e, if_pos]
theorem gSub_ok {O : Store} {i j : Int} : gSub O (.int i) (.int j) = some (.int (i - j), O) := rfl
theorem gAdd_ok {O : Store} {h : Bool} {i j : Int} : gAdd h O (.int i) (.int j) = some (.int (i + j), O) := rfl
theorem gEq_int {O : Store} {i j : Int} : gEq O (.int i) (.int j) = some (.bl (decide (i = j)), O) := by
  have : decide (V.int i = V.int j) = decide (i = j) := by simp
  show (match some (decide (V.int i = V.int j)) with | some b => some (D.bl b, O) | none => none) = _
  rw [this]
theorem gNe_int {O : Store} {i j : Int} : gNe O (.int i) (.int j) = some (.bl (!decide (i = j)), O) := by
  have : decide (V.int i = V.int j) = decide (i = j) := by simp
  show (match some (decide (V.int i = V.int j)) with | some b => some (D.bl (!b), O) | none => none) = _
  rw [this]
theorem gLt_int {O : Store} {i j : Int} : gLt O (.int i) (.int j) = some (.bl (decide (i < j)), O) := rfl
theorem gLe_int {O : Store} {i j : Int} : gLe O (.int i) (.int j) = some (.bl (decide (i ≤ j)), O) := rfl
theorem gGt_int {O : Store} {i j : Int} : gGt O (.int i) (.int j) = some (.bl (decide (j < i)), O) := rfl
theorem gGe_int {O : Store} {i j : Int} : gGe O (.int i) (.int j) = some (.bl (decide (j ≤ i)), O) := rfl
theorem atI_nat {α : Type} {xs : List α} {i : Int} {x : α} (h0 : 0 ≤ i) (h : xs[i.toNat]? = some x) : atI xs i = some x := by
  have hl := (List.getElem?_eq_some_iff.mp h).1
  unfold atI ixN
  rw [if_pos h0, if_pos (by omega)]
  exact h
theorem big_of {i : Int} {n : Nat} (h0 : 0 ≤ i) (h : i ≤ n) (hn : n < 2 ^ 4096) : i.natAbs < 2 ^ 4096 := by omega

theorem atI_c0 {α : Type} {a : α} {xs : List α} : atI (a :: xs) 0 = some a := atI_nat (by decide) rfl
theorem atI_c1 {α : Type} {a b : α} {xs : List α} : atI (a :: b :: xs) 1 = some b := atI_nat (by decide) rfl
theorem atI_c2 {α : Type} {a b c : α} {xs : List α} : atI (a :: b :: c :: xs) 2 = some c := atI_nat (by decide) rfl
theorem atI_c3 {α : Type} {a b c d : α} {xs : List α} : atI (a :: b :: c :: d :: xs) 3 = some d := atI_nat (by decide) rfl
theorem atI_c4 {α : Type} {a b c d e : α} {xs : List α} : atI (a :: b :: c :: d :: e :: xs) 4 = some e := atI_nat (by decide) rfl
theorem ixN5_1 : ixN 5 1 = some 1 := rfl
theorem ixN5_2 : ixN 5 2 = some 2 := rfl
theorem ixN5_3 : ixN 5 3 = some 3 := rfl
theorem ixN5_4 : ixN 5 4 = some 4 := rfl
theorem draw_ok {b n : Nat} {O : Store} {many : Int} (h : Pool b n O) (hm : 0 < many) (hm2 : many ≤ 2 ^ 64) (hb : b ≤ 2 ^ 64) :
    ∃ v P, fDraw [.hdl n, .int many] O = .ok (.int v) (O.set n (.lst P)) ∧ 0 ≤ v ∧ v < many ∧ Pool (b + 1) n (O.set n (.lst P)) := by
  obtain ⟨ns, z, la, li, k, h, hz0, hz1, hla0, hli0, hli1, hk0, hkb⟩ := h
  have hmb : many.natAbs < 2 ^ 4096 := big_of (n := 2 ^ 64) (by omega) hm2 (by decide)
  have fd : ∀ (O : Store) (i : Int), gFdiv O (.int i) (.int many) = some (.int (i / many), O) := fun O i => gFdiv_ok hm hmb
  have md : ∀ (O : Store) (i : Int), gMod O (.int i) (.int many) = some (.int (i % many), O) := fun O i => gMod_ok hm
  have v0 : ∀ i : Int, 0 ≤ i % many ∧ i % many < many := fun i => ⟨Int.emod_nonneg i (by omega), Int.emod_lt_of_pos i hm⟩
  have m8 : ∀ (O : Store) (i : Int), gMod O (.int i) (.int 8) = some (.int (i % 8), O) := fun O i => gMod_ok (by decide)
  have m1 : ∀ (O : Store) (i : Int), gMod O (.int i) (.int 2147483647) = some (.int (i % 2147483647), O) := fun O i => gMod_ok (by decide)
  have m2 : ∀ (O : Store) (i : Int), gMod O (.int i) (.int 2147483399) = some (.int (i % 2147483399), O) := fun O i => gMod_ok (by decide)
  have pw : ∀ (O : Store), gPow O (.int 10) (.int 18) = some (.int (10 ^ 18), O) := fun O => gPow_ok (by decide) (by decide) (by decide)
  by_cases c1 : 0 < la
  · refine ⟨la % many, poolL ns z (la / many) li k, ?_, (v0 la).1, (v0 la).2, ns, z, la / many, li, k, set_at h, hz0, hz1, Int.ediv_nonneg (by omega) (by omega), hli0, hli1, hk0, by omega⟩
    simp [fDraw, runF, bDraw, sSeq, sIf, ofRes, mTest, mOp, mVar, mC, gGt_int, gIx, seqOf, h, poolL, atI_c0, atI_c1, atI_c2, atI_c3, atI_c4, ixN5_1, ixN5_2, ixN5_3, ixN5_4, Res.bind, ofO, sAsg, mCall, mCons, mNil, g1, gInt, bName, fd, md, c1, bSubL, lstOf, ofB, sRet]
  · have c1' : la = 0 := by omega
    subst c1'
    have hset : ∀ p : Ob, (O.set n p)[n]? = some p := fun p => set_at h
    have hk : k.natAbs < 2 ^ 4096 := big_of hk0 hkb (by omega)
    have k1 : (k + 1).natAbs < 2 ^ 4096 := by omega
    have ml : ∀ (O : Store) (i j : Int), i.natAbs < 2 ^ 4096 → j.natAbs < 2 ^ 4096 → gMul O (.int i) (.int j) = some (.int (i * j), O) := fun O i j h1 h2 => gMul_ok h1 h2
    have mx : ∀ (O : Store) (i : Int), gMul O (.int (i % 2147483647)) (.int (i % 2147483647)) = some (.int (i % 2147483647 * (i % 2147483647)), O) := fun O i => by
      have h1 := Int.emod_nonneg i (show (2147483647 : Int) ≠ 0 by decide)
      have h2 := Int.emod_lt_of_pos i (show (0 : Int) < 2147483647 by decide)
      have := big_of (n := 2147483647) h1 (by omega) (by decide)
      exact gMul_ok this this
    have mk1 : ∀ (O : Store), gMul O (.int (k + 1)) (.int 69621) = some (.int ((k + 1) * 69621), O) := fun O => gMul_ok k1 (by decide)
    have mk2 : ∀ (O : Store), gMul O (.int (k + 1)) (.int 40692) = some (.int ((k + 1) * 40692), O) := fun O => gMul_ok k1 (by decide)
    have mli : ∀ (O : Store) (i : Int), 0 ≤ i → i < 10 ^ 18 → gMul O (.int i) (.int 48271) = some (.int (i * 48271), O) := fun O i h0 h1 => gMul_ok (big_of (n := 10 ^ 18) h0 (by omega) (by decide)) (by decide)
    by_cases c2 : k % 8 = 0
    · by_cases c3 : z < ns.length
      · obtain ⟨c, hc⟩ : ∃ c, ns[z.toNat]? = some c := ⟨ns[z.toNat]'(by omega), List.getElem?_eq_getElem _⟩
        have hix : atI (ns.map D.int) z = some (.int c) := atI_nat hz0 (by rw [List.getElem?_map, hc]; rfl)
        obtain ⟨e, he⟩ : ∃ e, (if c < 0 then -c else c) = e := ⟨_, rfl⟩
        have he0 : 0 ≤ e := by rw [← he]; split <;> omega
        by_cases c4 : (10 : Int) ^ 18 ≤ e
        · refine ⟨e % many, poolL ns (z + 1) (e / many) li k, ?_, (v0 _).1, (v0 _).2, ns, z + 1, e / many, li, k, set_at h, by omega, by omega, Int.ediv_nonneg he0 (by omega), hli0, hli1, hk0, by omega⟩
          simp only [show (10 : Int) ^ 18 = 1000000000000000000 by decide] at c4 pw
          simp [fDraw, runF, bDraw, sSeq, sIf, sNext, ofRes, mTest, mOp, mVar, mC, gGt_int, gLt_int, gGe_int, gEq_int, gIx, seqOf, h, poolL, atI_c0, atI_c1, atI_c2, atI_c3, atI_c4, ixN5_1, ixN5_2, ixN5_3, ixN5_4, Res.bind, ofO, sAsg, mCall, mCons, mNil, g1, gInt, gLen, gAbs, bName, fd, md, m8, m1, m2, pw, bSubL, lstOf, ofB, sRet, mAnd, gAdd_ok, hset, List.set_set, c2, c3, hix, he, c4]
        · refine ⟨((e * 48271 + (k + 1) * 69621 + 7919) % 2147483647 * ((e * 48271 + (k + 1) * 69621 + 7919) % 2147483647) + (k + 1) * 40692) % 2147483399 % many, poolL ns (z + 1) 0 e (k + 1), ?_, (v0 _).1, (v0 _).2, ns, z + 1, 0, e, k + 1, set_at h, by omega, by omega, by omega, he0, by omega, by omega, by omega⟩
          have me := fun O => mli O e he0 (by omega)
          simp only [show (10 : Int) ^ 18 = 1000000000000000000 by decide] at c4 pw
          simp [fDraw, runF, bDraw, sSeq, sIf, sNext, ofRes, mTest, mOp, mVar, mC, gGt_int, gLt_int, gGe_int, gEq_int, gIx, seqOf, h, poolL, atI_c0, atI_c1, atI_c2, atI_c3, atI_c4, ixN5_1, ixN5_2, ixN5_3, ixN5_4, Res.bind, ofO, sAsg, mCall, mCons, mNil, g1, gInt, gLen, gAbs, bName, fd, md, m8, m1, m2, pw, bSubL, lstOf, ofB, sRet, mAnd, gAdd_ok, hset, List.set_set, c2, c3, hix, he, c4, me, mx, mk1, mk2]
      · refine ⟨((li * 48271 + (k + 1) * 69621 + 7919) % 2147483647 * ((li * 48271 + (k + 1) * 69621 + 7919) % 2147483647) + (k + 1) * 40692) % 2147483399 % many, poolL ns z 0 li (k + 1), ?_, (v0 _).1, (v0 _).2, ns, z, 0, li, k + 1, set_at h, by omega, by omega, by omega, hli0, by omega, by omega, by omega⟩
        have me := fun O => mli O li hli0 hli1
        simp [fDraw, runF, bDraw, sSeq, sIf, sNext, ofRes, mTest, mOp, mVar, mC, gGt_int, gLt_int, gGe_int, gEq_int, gIx, seqOf, h, poolL, atI_c0, atI_c1, atI_c2, atI_c3, atI_c4, ixN5_1, ixN5_2, ixN5_3, ixN5_4, Res.bind, ofO, sAsg, mCall, mCons, mNil, g1, gInt, gLen, gAbs, bName, fd, md, m8, m1, m2, pw, bSubL, lstOf, ofB, sRet, mAnd, gAdd_ok, hset, List.set_set, c2, c3, me, mx, mk1, mk2]
    · refine ⟨((li * 48271 + (k + 1) * 69621 + 7919) % 2147483647 * ((li * 48271 + (k + 1) * 69621 + 7919) % 2147483647) + (k + 1) * 40692) % 2147483399 % many, poolL ns z 0 li (k + 1), ?_, (v0 _).1, (v0 _).2, ns, z, 0, li, k + 1, set_at h, by omega, by omega, by omega, hli0, by omega, by omega, by omega⟩
      have me := fun O => mli O li hli0 hli1
      simp [fDraw, runF, bDraw, sSeq, sIf, sNext, ofRes, mTest, mOp, mVar, mC, gGt_int, gLt_int, gGe_int, gEq_int, gIx, seqOf, h, poolL, atI_c0, atI_c1, atI_c2, atI_c3, atI_c4, ixN5_1, ixN5_2, ixN5_3, ixN5_4, Res.bind, ofO, sAsg, mCall, mCons, mNil, g1, gInt, gLen, gAbs, bName, fd, md, m8, m1, m2, pw, bSubL, lstOf, ofB, sRet, mAnd, gAdd_ok, hset, List.set_set, c2, me, mx, mk1, mk2]

/-! ### evaluation -/
theorem kitTab : kitB "NoneType" "bool" = some false ∧ kitB "NoneType" "int" = some false ∧ kitB "NoneType" "str" = some false ∧ kitB "NoneType" "list" = some false ∧ kitB "NoneType" "tuple" = some false ∧ kitB "NoneType" "dict" = some false ∧ kitB "bool" "bool" = some true ∧ kitB "bool" "int" = some true ∧ kitB "bool" "str" = some false ∧ kitB "bool" "list" = some false ∧ kitB "bool" "tuple" = some false ∧ kitB "bool" "dict" = some false ∧ kitB "int" "bool" = some false ∧ kitB "int" "int" = some true ∧ kitB "int" "str" = some false ∧ kitB "int" "list" = some false ∧ kitB "int" "tuple" = some false ∧ kitB "int" "dict" = some false ∧ kitB "str" "bool" = some false ∧ kitB "str" "int" = some false ∧ kitB "str" "str" = some true ∧ kitB "str" "list" = some false ∧ kitB "str" "tuple" = some false ∧ kitB "str" "dict" = some false ∧ kitB "list" "bool" = some false ∧ kitB "list" "int" = some false ∧ kitB "list" "str" = some false ∧ kitB "list" "list" = some true ∧ kitB "list" "tuple" = some false ∧ kitB "list" "dict" = some false ∧ kitB "tuple" "bool" = some false ∧ kitB "tuple" "int" = some false ∧ kitB "tuple" "str" = some false ∧ kitB "tuple" "list" = some false ∧ kitB "tuple" "tuple" = some true ∧ kitB "tuple" "dict" = some false ∧ kitB "dict" "bool" = some false ∧ kitB "dict" "int" = some false ∧ kitB "dict" "str" = some false ∧ kitB "dict" "list" = some false ∧ kitB "dict" "tuple" = some false ∧ kitB "dict" "dict" = some true := by decide +kernel
theorem gNe_bl {O : Store} {i j : Bool} : gNe O (.bl i) (.bl j) = some (.bl (!decide (i = j)), O) := by cases i <;> cases j <;> rfl
theorem gEq_bl {O : Store} {i j : Bool} : gEq O (.bl i) (.bl j) = some (.bl (decide (i = j)), O) := by cases i <;> cases j <;> rfl
theorem gEq_str {O : Store} {i j : Str} : gEq O (.str i) (.str j) = some (.bl (decide (i = j)), O) := by
  have : decide (V.str i = V.str j) = decide (i = j) := by simp
  show (match some (decide (V.str i = V.str j)) with | some b => some (D.bl b, O) | none => none) = _
  rw [this]
theorem gNe_str {O : Store} {i j : Str} : gNe O (.str i) (.str j) = some (.bl (!decide (i = j)), O) := by
  have : decide (V.str i = V.str j) = decide (i = j) := by simp
  show (match some (decide (V.str i = V.str j)) with | some b => some (D.bl (!b), O) | none => none) = _
  rw [this]
theorem isNon_t : isNon .non = true ∧ (∀ b, isNon (.bl b) = false) ∧ (∀ b, isNon (.int b) = false) ∧ (∀ b, isNon (.str b) = false) ∧ (∀ b, isNon (.lst b) = false) ∧ (∀ b, isNon (.tup b) = false) ∧ (∀ b, isNon (.hdl b) = false) := ⟨rfl, fun _ => rfl, fun _ => rfl, fun _ => rfl, fun _ => rfl, fun _ => rfl, fun _ => rfl⟩
/-- a loop keeps what each turn keeps -/
theorem loopD_keeps {turn : D → SM} {I : Nat → Loc → Store → Prop} : ∀ (ds : List D) (i : Nat) (L : Loc) (O : Store), I i L O → (∀ j d L O, ds[j]? = some d → I (i + j) L O → ∃ L' O', turn d L O = .next L' O' ∧ I (i + j + 1) L' O') → ∃ L' O', loopD turn ds L O = .next L' O' ∧ I (i + ds.length) L' O'
  | [], i, L, O, h, _ => ⟨L, O, rfl, h⟩
  | d :: ds, i, L, O, h, k => by
    obtain ⟨L1, O1, e, h1⟩ := k 0 d L O rfl h
    obtain ⟨L2, O2, e2, h2⟩ := loopD_keeps ds (i + 1) L1 O1 h1 fun j d' L O hd hI => by
      have := k (j + 1) d' L O hd (by rw [show i + (j + 1) = i + 1 + j by omega]; exact hI)
      rw [show i + (j + 1) + 1 = i + 1 + j + 1 by omega] at this
      exact this
    refine ⟨L2, O2, ?_, by rw [show i + (d :: ds).length = i + 1 + ds.length by rw [List.length_cons]; omega]; exact h2⟩
    show (match turn d L O with
      | .next L1 O1 => loopD turn ds L1 O1
      | .cnt L1 O1 => loopD turn ds L1 O1
      | .brk L1 O1 => .next L1 O1
      | .ret d O1 => .ret d O1
      | .exc x L1 O1 => .exc x L1 O1
      | .bad => .bad) = _
    rw [e]
    exact e2
end DK
end
section
set_option Elab.async false
set_option linter.all false
set_option autoImplicit false
set_option maxRecDepth 100000
set_option maxHeartbeats 4000000
/-! DKText: the takes of the laws; loops over the signs of a text, in plain Lean. -/
namespace DK
open PySem L2

def fCell : FM := runF 2 (sSeq (sIf (mTest (mOp gLt (mVar 1) (mCall (g1 gLen) (mCons (mVar 0) mNil)))) (sRet (mCall (g1 gAbs) (mCons (mCall (g1 gInt) (mCons (mOp gIx (mVar 0) (mVar 1)) mNil)) mNil))) sNext)
    (sRet (mOp (gAdd false) (mOp gMul (mC (.int 37)) (mVar 1)) (mC (.int 11)))))
def bTake : SM := (sSeq (sIf (mTest (mOp gGt (mOp gIx (mVar 0) (mC (.int 2))) (mC (.int 0)))) (sSeq (sAsg (mOp gMod (mCall (g1 gInt) (mCons (mOp gIx (mVar 0) (mC (.int 2))) mNil)) (mVar 1)) (bName 2))
    (sSeq (sAsg (mOp gFdiv (mCall (g1 gInt) (mCons (mOp gIx (mVar 0) (mC (.int 2))) mNil)) (mVar 1)) (bSubL (mVar 0) (mC (.int 2))))
    (sRet (mVar 2)))) sNext)
    (sSeq (sAsg (mFn (arity 2 fCell) [] (mCons (mOp gIx (mVar 0) (mC (.int 0))) (mCons (mOp gIx (mVar 0) (mC (.int 1))) mNil))) (bName 3))
    (sSeq (sAsg (mOp (gAdd false) (mOp gIx (mVar 0) (mC (.int 1))) (mC (.int 1))) (bSubL (mVar 0) (mC (.int 1))))
    (sSeq (sIf (mTest (mOp gGe (mVar 3) (mOp gPow (mC (.int 10)) (mC (.int 9))))) (sAsg (mOp gFdiv (mCall (g1 gInt) (mCons (mVar 3) mNil)) (mVar 1)) (bSubL (mVar 0) (mC (.int 2)))) sNext)
    (sRet (mOp gMod (mCall (g1 gInt) (mCons (mVar 3) mNil)) (mVar 1)))))))
def fTake : FM := runF 4 bTake
/-- the state of the takes at n: its script, place (at most b), what is left -/
def takeL (ns : List Int) (z la : Int) : List D := [.rol (ns.map D.int), .int z, .int la]
structure Take (b : Nat) (n : Nat) (O : Store) : Prop where
  ex : ∃ ns z la, O[n]? = some (.lst (takeL ns z la)) ∧ ns.length ≤ 1000 ∧ 0 ≤ z ∧ z ≤ b ∧ 0 ≤ la
theorem tmono {n a c : Nat} {O : Store} (hac : a ≤ c) : Take a n O → Take c n O := fun ⟨ns, z, la, h, h0, h1, h2, h3⟩ => ⟨ns, z, la, h, h0, h1, by omega, h3⟩
theorem cell_ok {ns : List Int} {z : Int} {O : Store} (h0 : 0 ≤ z) (h1 : z ≤ 2 ^ 64) : ∃ c, fCell [.rol (ns.map D.int), .int z] O = .ok (.int c) O ∧ 0 ≤ c := by
  have ml : ∀ O : Store, gMul O (.int 37) (.int z) = some (.int (37 * z), O) := fun O => gMul_ok (by decide) (big_of (n := 2 ^ 64) h0 (by omega) (by decide))
  by_cases c : z < ns.length
  · obtain ⟨x, hx⟩ : ∃ x, ns[z.toNat]? = some x := ⟨ns[z.toNat]'(by omega), List.getElem?_eq_getElem _⟩
    have hix : atI (ns.map D.int) z = some (.int x) := atI_nat h0 (by rw [List.getElem?_map, hx]; rfl)
    exact ⟨if x < 0 then -x else x, by simp [fCell, runF, sSeq, sIf, sNext, sDrop, sRet, sRetN, sAsg, ofRes, ofB, bName, bNil, bCons, bTup, bLst, bSubL, mTest, mOp, mVar, mC, mChain, mAnd, mOr, mNot, mIf, mAndV, mOrV, mNotV, mNeg, mCons, mNil, mTup, mLst, newL, mCall, mFn, arity, g1, g2, gLen, gInt, gAbs, gMax2, gMin2, gIx, seqOf, lsqOf, lstOf, Res.bind, ofO, gAdd_ok, gSub_ok, gEq_int, gNe_int, gLt_int, gLe_int, gGt_int, gGe_int, gEq_bl, gNe_bl, gEq_str, gNe_str, mIsi, mIsiT, tyD, kitL, kitTab, atI_c0, atI_c1, atI_c2, atI_c3, atI_c4, sForR1, int1, int2, mMeth, mMake, mFld, sFldM, gIs, gIsNot, isNon_t, sRaise, gList, newLO, c, hix], by split <;> omega⟩
  · exact ⟨37 * z + 11, by simp [fCell, runF, sSeq, sIf, sNext, sDrop, sRet, sRetN, sAsg, ofRes, ofB, bName, bNil, bCons, bTup, bLst, bSubL, mTest, mOp, mVar, mC, mChain, mAnd, mOr, mNot, mIf, mAndV, mOrV, mNotV, mNeg, mCons, mNil, mTup, mLst, newL, mCall, mFn, arity, g1, g2, gLen, gInt, gAbs, gMax2, gMin2, gIx, seqOf, lsqOf, lstOf, Res.bind, ofO, gAdd_ok, gSub_ok, gEq_int, gNe_int, gLt_int, gLe_int, gGt_int, gGe_int, gEq_bl, gNe_bl, gEq_str, gNe_str, mIsi, mIsiT, tyD, kitL, kitTab, atI_c0, atI_c1, atI_c2, atI_c3, atI_c4, sForR1, int1, int2, mMeth, mMake, mFld, sFldM, gIs, gIsNot, isNon_t, sRaise, gList, newLO, c, ml], by omega⟩
theorem ixN3_1 : ixN 3 1 = some 1 := rfl
theorem ixN3_2 : ixN 3 2 = some 2 := rfl
theorem take_ok {b n : Nat} {O : Store} {m : Int} (h : Take b n O) (hm : 0 < m) (hm2 : m ≤ 2 ^ 64) (hb : b ≤ 2 ^ 32) :
    ∃ v P, fTake [.hdl n, .int m] O = .ok (.int v) (O.set n (.lst P)) ∧ 0 ≤ v ∧ v < m ∧ Take (b + 1) n (O.set n (.lst P)) := by
  obtain ⟨ns, z, la, h, hl, hz0, hz1, hla0⟩ := h
  have hmb : m.natAbs < 2 ^ 4096 := big_of (n := 2 ^ 64) (by omega) hm2 (by decide)
  have fd : ∀ (O : Store) (i : Int), gFdiv O (.int i) (.int m) = some (.int (i / m), O) := fun O i => gFdiv_ok hm hmb
  have md : ∀ (O : Store) (i : Int), gMod O (.int i) (.int m) = some (.int (i % m), O) := fun O i => gMod_ok hm
  have v0 : ∀ i : Int, 0 ≤ i % m ∧ i % m < m := fun i => ⟨Int.emod_nonneg i (by omega), Int.emod_lt_of_pos i hm⟩
  have hset : ∀ p : Ob, (O.set n p)[n]? = some p := fun p => set_at h
  have pw : ∀ (O : Store), gPow O (.int 10) (.int 9) = some (.int (10 ^ 9), O) := fun O => gPow_ok (by decide) (by decide) (by decide)
  by_cases c1 : 0 < la
  · refine ⟨la % m, takeL ns z (la / m), ?_, (v0 la).1, (v0 la).2, ns, z, la / m, set_at h, hl, hz0, by omega, Int.ediv_nonneg (by omega) (by omega)⟩
    simp [fTake, bTake, runF, sSeq, sIf, sNext, sDrop, sRet, sRetN, sAsg, ofRes, ofB, bName, bNil, bCons, bTup, bLst, bSubL, mTest, mOp, mVar, mC, mChain, mAnd, mOr, mNot, mIf, mAndV, mOrV, mNotV, mNeg, mCons, mNil, mTup, mLst, newL, mCall, mFn, arity, g1, g2, gLen, gInt, gAbs, gMax2, gMin2, gIx, seqOf, lsqOf, lstOf, Res.bind, ofO, gAdd_ok, gSub_ok, gEq_int, gNe_int, gLt_int, gLe_int, gGt_int, gGe_int, gEq_bl, gNe_bl, gEq_str, gNe_str, mIsi, mIsiT, tyD, kitL, kitTab, atI_c0, atI_c1, atI_c2, atI_c3, atI_c4, sForR1, int1, int2, mMeth, mMake, mFld, sFldM, gIs, gIsNot, isNon_t, sRaise, gList, newLO, h, hset, takeL, fd, md, c1, ixN3_1, ixN3_2]
  · obtain ⟨c, hc, c0⟩ := cell_ok (ns := ns) (O := O) hz0 (by omega)
    by_cases c2 : (10 : Int) ^ 9 ≤ c
    · refine ⟨c % m, takeL ns (z + 1) (c / m), ?_, (v0 c).1, (v0 c).2, ns, z + 1, c / m, set_at h, hl, by omega, by omega, Int.ediv_nonneg c0 (by omega)⟩
      simp only [show (10 : Int) ^ 9 = 1000000000 by decide] at c2 pw
      simp [fTake, bTake, runF, sSeq, sIf, sNext, sDrop, sRet, sRetN, sAsg, ofRes, ofB, bName, bNil, bCons, bTup, bLst, bSubL, mTest, mOp, mVar, mC, mChain, mAnd, mOr, mNot, mIf, mAndV, mOrV, mNotV, mNeg, mCons, mNil, mTup, mLst, newL, mCall, mFn, arity, g1, g2, gLen, gInt, gAbs, gMax2, gMin2, gIx, seqOf, lsqOf, lstOf, Res.bind, ofO, gAdd_ok, gSub_ok, gEq_int, gNe_int, gLt_int, gLe_int, gGt_int, gGe_int, gEq_bl, gNe_bl, gEq_str, gNe_str, mIsi, mIsiT, tyD, kitL, kitTab, atI_c0, atI_c1, atI_c2, atI_c3, atI_c4, sForR1, int1, int2, mMeth, mMake, mFld, sFldM, gIs, gIsNot, isNon_t, sRaise, gList, newLO, h, hset, takeL, fd, md, c1, c2, pw, hc, ixN3_1, ixN3_2]
    · refine ⟨c % m, takeL ns (z + 1) la, ?_, (v0 c).1, (v0 c).2, ns, z + 1, la, set_at h, hl, by omega, by omega, hla0⟩
      simp only [show (10 : Int) ^ 9 = 1000000000 by decide] at c2 pw
      simp [fTake, bTake, runF, sSeq, sIf, sNext, sDrop, sRet, sRetN, sAsg, ofRes, ofB, bName, bNil, bCons, bTup, bLst, bSubL, mTest, mOp, mVar, mC, mChain, mAnd, mOr, mNot, mIf, mAndV, mOrV, mNotV, mNeg, mCons, mNil, mTup, mLst, newL, mCall, mFn, arity, g1, g2, gLen, gInt, gAbs, gMax2, gMin2, gIx, seqOf, lsqOf, lstOf, Res.bind, ofO, gAdd_ok, gSub_ok, gEq_int, gNe_int, gLt_int, gLe_int, gGt_int, gGe_int, gEq_bl, gNe_bl, gEq_str, gNe_str, mIsi, mIsiT, tyD, kitL, kitTab, atI_c0, atI_c1, atI_c2, atI_c3, atI_c4, sForR1, int1, int2, mMeth, mMake, mFld, sFldM, gIs, gIsNot, isNon_t, sRaise, gList, newLO, h, hset, takeL, fd, md, c1, c2, pw, hc, ixN3_1, ixN3_2]
/-! ### signs -/
theorem notIn_sign {c : Nat} {cs : Str} {O : Store} : gNotIn O (.str ⟨#[c]⟩) (.str cs) = some (.bl (!decide (c ∈ cs.cps.toList)), O) := rfl
/-- all signs are among cs -/
def allIn (cs : Str) (w : List Nat) : Bool := w.all fun c => decide (c ∈ cs.cps.toList)
abbrev signB (i : Nat) (cs : Str) (bad : SM) : SM := sIf (mTest (mOp gNotIn (mVar i) (mC (.str cs)))) bad sNext
theorem turn_sign {i c : Nat} {cs : Str} {bad : SM} {L : Loc} {O : Store} (hi : i < L.length) : turnOf (bName i) (signB i cs bad) (.str ⟨#[c]⟩) L O = if c ∈ cs.cps.toList then .next (L.set i (some (.str ⟨#[c]⟩))) O else bad (L.set i (some (.str ⟨#[c]⟩))) O := by
  by_cases h : c ∈ cs.cps.toList <;> simp [signB, turnOf, runF, sSeq, sIf, sNext, sDrop, sRet, sRetN, sAsg, ofRes, ofB, bName, bNil, bCons, bTup, bLst, bSubL, mTest, mOp, mVar, mC, mChain, mAnd, mOr, mNot, mIf, mAndV, mOrV, mNotV, mNeg, mCons, mNil, mTup, mLst, newL, mCall, mFn, arity, g1, g2, gLen, gInt, gAbs, gMax2, gMin2, gIx, seqOf, lsqOf, lstOf, Res.bind, ofO, gAdd_ok, gSub_ok, gEq_int, gNe_int, gLt_int, gLe_int, gGt_int, gGe_int, gEq_bl, gNe_bl, gEq_str, gNe_str, mIsi, mIsiT, tyD, kitL, kitTab, atI_c0, atI_c1, atI_c2, atI_c3, atI_c4, sForR1, int1, int2, mMeth, mMake, mFld, sFldM, gIs, gIsNot, isNon_t, sRaise, gList, newLO, hi, notIn_sign, h]
theorem loop_signs_ok {i : Nat} {cs : Str} {bad : SM} : ∀ (w : List Nat) (L : Loc) (O : Store), i < L.length → allIn cs w = true → ∃ d, loopD (turnOf (bName i) (signB i cs bad)) (w.map fun c => D.str ⟨#[c]⟩) L O = .next (L.set i d) O
  | [], L, O, hi, _ => ⟨L[i], by rw [List.set_getElem_self]; rfl⟩
  | c :: w, L, O, hi, h => by
    obtain ⟨h1, h2⟩ := (Bool.and_eq_true _ _ ▸ h : decide (c ∈ cs.cps.toList) = true ∧ allIn cs w = true)
    have e := turn_sign (bad := bad) (O := O) (c := c) (cs := cs) hi
    rw [if_pos (of_decide_eq_true h1)] at e
    obtain ⟨d, hd⟩ := loop_signs_ok (bad := bad) w (L.set i (some (.str ⟨#[c]⟩))) O (by rw [List.length_set]; exact hi) h2
    rw [List.set_set] at hd
    refine ⟨d, ?_⟩
    rw [List.map_cons, loopD_cons, e]
    exact hd
theorem loop_signs_no {i : Nat} {cs : Str} {bad : SM} (hb : ∀ L O, (∃ d, bad L O = .ret d O) ∨ ∃ x, bad L O = .exc x L O) : ∀ (w : List Nat) (L : Loc) (O : Store), i < L.length → allIn cs w = false → ∃ L', loopD (turnOf (bName i) (signB i cs bad)) (w.map fun c => D.str ⟨#[c]⟩) L O = bad L' O
  | [], L, O, hi, h => by cases h
  | c :: w, L, O, hi, h => by
    have e := turn_sign (bad := bad) (O := O) (c := c) (cs := cs) hi
    rw [List.map_cons, loopD_cons, e]
    by_cases h1 : c ∈ cs.cps.toList
    · rw [if_pos h1]
      refine loop_signs_no hb w _ O (by rw [List.length_set]; exact hi) ?_
      have : (decide (c ∈ cs.cps.toList) && allIn cs w) = false := h
      rw [decide_eq_true h1] at this
      exact this
    · rw [if_neg h1]
      refine ⟨L.set i (some (.str ⟨#[c]⟩)), ?_⟩
      rcases hb (L.set i (some (.str ⟨#[c]⟩))) O with ⟨d, h⟩ | ⟨x, h⟩ <;> rw [h] <;> rfl
/-- the signs that are not among cs -/
def outOf (cs : Str) (w : List Nat) : List Nat := w.filter fun c => !decide (c ∈ cs.cps.toList)
theorem outOf_nil {cs : Str} : ∀ {w : List Nat}, (outOf cs w = []) ↔ allIn cs w = true := fun {w} => by
  unfold outOf allIn
  rw [List.filter_eq_nil_iff, List.all_eq_true]
  simp
theorem outOf_zero {cs : Str} {w : List Nat} : ((outOf cs w).length = 0) ↔ allIn cs w = true := by
  rw [List.length_eq_zero_iff, outOf_nil]
theorem outOf_in {cs : Str} {c : Nat} {w : List Nat} (h : c ∈ cs.cps.toList) : outOf cs (c :: w) = outOf cs w := by
  unfold outOf
  rw [List.filter_cons, if_neg (by rw [decide_eq_true h]; decide)]
theorem outOf_out {cs : Str} {c : Nat} {w : List Nat} (h : ¬ c ∈ cs.cps.toList) : outOf cs (c :: w) = c :: outOf cs w := by
  unfold outOf
  rw [List.filter_cons, if_pos (by rw [decide_eq_false h]; decide)]
theorem comp_signs {i : Nat} {cs : Str} {L : Loc} (hi : i < L.length) : ∀ (w pre : List Nat) (acc : List D) (O : Store), acc.length + w.length ≤ 900000 →
    lcG (fun j _ => some ((pre ++ w).map fun c => D.str ⟨#[c]⟩)[j]?) (lcTurn [i] (bName i) (mTest (mOp gNotIn (mVar i) (mC (.str cs)))) (mVar i) L) w.length pre.length O acc = some (O, acc ++ (outOf cs w).map fun c => D.str ⟨#[c]⟩)
  | [], pre, acc, O, h => by
    have : ((pre ++ []).map fun c => D.str ⟨#[c]⟩)[pre.length]? = none := by rw [List.append_nil, List.getElem?_map, List.getElem?_eq_none (Nat.le_refl _)]; rfl
    simp [lcG, outOf]
  | c :: w, pre, acc, O, h => by
    have e1 : ((pre ++ c :: w).map fun c => D.str ⟨#[c]⟩)[pre.length]? = some (.str ⟨#[c]⟩) := by simp
    have e2 : pre ++ c :: w = (pre ++ [c]) ++ w := by simp
    have e3 : pre.length + 1 = (pre ++ [c]).length := by simp
    have hi2 : i < (L.set i none).length := by rw [List.length_set]; exact hi
    have ih := fun acc h => comp_signs (cs := cs) (L := L) hi w (pre ++ [c]) acc O h
    have hl : acc.length ≤ 900000 := by omega
    rw [show (c :: w).length = w.length + 1 from rfl]
    unfold lcG
    simp only [e1]
    by_cases hc : c ∈ cs.cps.toList
    · have et : lcTurn [i] (bName i) (mTest (mOp gNotIn (mVar i) (mC (.str cs)))) (mVar i) L (.str ⟨#[c]⟩) O acc = some (O, acc) := by
        simp [lcTurn, wipeL, runF, sSeq, sIf, sNext, sDrop, sRet, sRetN, sAsg, ofRes, ofB, bName, bNil, bCons, bTup, bLst, bSubL, mTest, mOp, mVar, mC, mChain, mAnd, mOr, mNot, mIf, mAndV, mOrV, mNotV, mNeg, mCons, mNil, mTup, mLst, newL, mCall, mFn, arity, g1, g2, gLen, gInt, gAbs, gMax2, gMin2, gIx, seqOf, lsqOf, lstOf, Res.bind, ofO, gAdd_ok, gSub_ok, gEq_int, gNe_int, gLt_int, gLe_int, gGt_int, gGe_int, gEq_bl, gNe_bl, gEq_str, gNe_str, mIsi, mIsiT, tyD, kitL, kitTab, atI_c0, atI_c1, atI_c2, atI_c3, atI_c4, sForR1, int1, int2, mMeth, mMake, mFld, sFldM, gIs, gIsNot, isNon_t, sRaise, gList, newLO, hi, notIn_sign, hc]
      rw [et]
      simp only
      rw [e2, e3, outOf_in hc]
      exact ih acc (by simp at h; omega)
    · have et : lcTurn [i] (bName i) (mTest (mOp gNotIn (mVar i) (mC (.str cs)))) (mVar i) L (.str ⟨#[c]⟩) O acc = some (O, acc ++ [.str ⟨#[c]⟩]) := by
        simp [lcTurn, wipeL, runF, sSeq, sIf, sNext, sDrop, sRet, sRetN, sAsg, ofRes, ofB, bName, bNil, bCons, bTup, bLst, bSubL, mTest, mOp, mVar, mC, mChain, mAnd, mOr, mNot, mIf, mAndV, mOrV, mNotV, mNeg, mCons, mNil, mTup, mLst, newL, mCall, mFn, arity, g1, g2, gLen, gInt, gAbs, gMax2, gMin2, gIx, seqOf, lsqOf, lstOf, Res.bind, ofO, gAdd_ok, gSub_ok, gEq_int, gNe_int, gLt_int, gLe_int, gGt_int, gGe_int, gEq_bl, gNe_bl, gEq_str, gNe_str, mIsi, mIsiT, tyD, kitL, kitTab, atI_c0, atI_c1, atI_c2, atI_c3, atI_c4, sForR1, int1, int2, mMeth, mMake, mFld, sFldM, gIs, gIsNot, isNon_t, sRaise, gList, newLO, hi, notIn_sign, hc, hl]
      rw [et]
      simp only
      rw [e2, e3, outOf_out hc]
      refine (ih (acc ++ [.str ⟨#[c]⟩]) (by simp at h ⊢; omega)).trans ?_
      simp
theorem lcS_signs {i : Nat} {cs w : Str} {src : EM} {L : Loc} {O : Store} (hi : i < L.length) (hs : src L O = .ok (.str w) O) (hw : w.length ≤ 900000) :
    mLcS false src [i] (bName i) (mTest (mOp gNotIn (mVar i) (mC (.str cs)))) (mVar i) L O = .ok (.lst ((outOf cs w.cps.toList).map fun c => D.str ⟨#[c]⟩)) O := by
  have hl : w.cps.toList.length ≤ 900000 := by rw [Array.length_toList]; exact hw
  have h := comp_signs (cs := cs) hi w.cps.toList [] [] O (by simpa using hl)
  have ho : (outOf cs w.cps.toList).length ≤ 1000000 := Nat.le_trans (List.length_filter_le _ _) (by omega)
  unfold mLcS
  rw [hs]
  simp only [Res.bind, charsD, List.length_map]
  simp only [List.nil_append, List.length_nil] at h
  rw [h]
  simp [lcEnd, newL, ho]
end DK
end
section
set_option Elab.async false
set_option linter.all false
set_option autoImplicit false
set_option maxRecDepth 100000
set_option maxHeartbeats 4000000
/-! DKDict: dicts of the store, sorting. -/
namespace DK
open PySem L2

def keyD : D → Option Key
  | .int i => some (.inl i)
  | .str s => some (.inr s)
  | _ => none
def kD : Key → D
  | .inl i => .int i
  | .inr s => .str s
def valD (kvs : List (Key × D)) (k : Key) : Option D := (kvs.find? fun kv => decide (kv.1 = k)).map (·.2)
def putKD (kvs : List (Key × D)) (k : Key) (d : D) : List (Key × D) := if (kvs.any fun kv => decide (kv.1 = k)) = true then kvs.map (fun kv => if kv.1 = k then (kv.1, d) else kv) else kvs ++ [(k, d)]
def dropKD (kvs : List (Key × D)) (k : Key) : List (Key × D) := kvs.filter fun kv => decide (kv.1 ≠ k)
def dctOf (O : Store) : D → Option (List (Key × D))
  | .hdl n => match O[n]? with
    | some (.dct kvs) => some kvs
    | _ => none
  | _ => none
def mDNew : EM := fun _ O => .ok (.hdl O.length) (O ++ [.dct []])
def mDGet (mo mi : EM) : EM := fun L O => (mo L O).bind fun x O1 => (mi L O1).bind fun y O2 => match dctOf O2 x, keyD y with
  | some kvs, some k => match valD kvs k with
    | some d => .ok d O2
    | none => .bad
  | _, _ => .bad
def mDIn (yes : Bool) (mi mo : EM) : EM := fun L O => (mi L O).bind fun y O1 => (mo L O1).bind fun x O2 => match dctOf O2 x, keyD y with
  | some kvs, some k => .ok (.bl ((valD kvs k).isSome == yes)) O2
  | _, _ => .bad
def mDGet1 (mo mi : EM) : EM := fun L O => (mo L O).bind fun x O1 => match dctOf O1 x with
  | some _ => (mi L O1).bind fun y O2 => match dctOf O2 x, keyD y with
    | some kvs, some k => .ok ((valD kvs k).getD .non) O2
    | _, _ => .bad
  | none => .bad
def mDGet2 (mo mi mf : EM) : EM := fun L O => (mo L O).bind fun x O1 => match dctOf O1 x with
  | some _ => (mi L O1).bind fun y O2 => (mf L O2).bind fun z O3 => match dctOf O3 x, keyD y with
    | some kvs, some k => .ok ((valD kvs k).getD z) O3
    | _, _ => .bad
  | none => .bad
def hdlN : D → Nat
  | .hdl n => n
  | _ => 0
def sDPutM (mo mi mv : EM) : SM := fun L O => ofRes L (mv L O) fun v O1 => ofRes L (mo L O1) fun x O2 => ofRes L (mi L O2) fun y O3 => match dctOf O3 x, keyD y with
  | some kvs, some k => if kvs.length ≤ 1000000 then .next L (O3.set (hdlN x) (.dct (putKD kvs k v))) else .bad
  | _, _ => .bad
def sDDelM (mo mi : EM) : SM := fun L O => ofRes L (mo L O) fun x O1 => ofRes L (mi L O1) fun y O2 => match dctOf O2 x, keyD y with
  | some kvs, some k => if (valD kvs k).isSome = true then .next L (O2.set (hdlN x) (.dct (dropKD kvs k))) else .bad
  | _, _ => .bad
section
variable {K : PySem.W.Frag} {ad : Str → Addr} {S : Hp} {r : Rg} {O : Store} {H : Hp}
theorem keyD_rp {d : D} {v : V} {k : Key} (h : keyD d = some k) (p : Rp K S r d v) : v = kV k := by
  cases d <;> cases h
  · exact p
  · exact p
theorem kD_rp (k : Key) : Rp K S r (kD k) (kV k) := by cases k <;> exact rfl
theorem RpP.val {k : Key} : ∀ {fs : List (Key × D)} {gs : List (Key × V)}, RpP K S r fs gs → (∀ d, valD fs k = some d → ∃ v, valV gs k = some v ∧ Rp K S r d v) ∧ (valD fs k = none → valV gs k = none)
  | [], gs, h => by
    rw [show gs = [] from h]
    exact ⟨fun d e => (by cases e), fun _ => rfl⟩
  | (g, x) :: fs, gs, h => by
    obtain ⟨v, gr, rfl, h1, h2⟩ := h
    obtain ⟨i1, i2⟩ := RpP.val (k := k) h2
    by_cases e : g = k
    · have e1 : valD ((g, x) :: fs) k = some x := by simp [valD, List.find?_cons, e]
      have e2 : valV ((g, v) :: gr) k = some v := valV_pos e
      exact ⟨fun d hd => ⟨v, e2, by rw [e1] at hd; cases hd; exact h1⟩, fun hn => by rw [e1] at hn; cases hn⟩
    · have e1 : valD ((g, x) :: fs) k = valD fs k := by simp [valD, List.find?_cons, e]
      have e2 : valV ((g, v) :: gr) k = valV gr k := valV_neg e
      rw [e1, e2]
      exact ⟨i1, i2⟩
theorem RpP.keys {κ : Type} : ∀ {fs : List (κ × D)} {gs : List (κ × V)}, RpP K S r fs gs → gs.map (·.1) = fs.map (·.1)
  | [], gs, h => by rw [show gs = [] from h]; rfl
  | (g, x) :: fs, gs, h => by
    obtain ⟨v, gr, rfl, h1, h2⟩ := h
    rw [List.map_cons, List.map_cons, RpP.keys h2]
theorem any_keys {α β : Type} {k : Key} {fs : List (Key × α)} {gs : List (Key × β)} (h : gs.map (·.1) = fs.map (·.1)) : (gs.any fun kv => decide (kv.1 = k)) = (fs.any fun kv => decide (kv.1 = k)) := by
  have e : ∀ {γ : Type} (l : List (Key × γ)), (l.any fun kv => decide (kv.1 = k)) = (l.map (·.1)).any fun x => decide (x = k) := fun l => by rw [List.any_map]; rfl
  rw [e, e, h]
theorem RpP.mapPut {k : Key} {d : D} {v : V} (hv : Rp K S r d v) : ∀ {fs : List (Key × D)} {gs : List (Key × V)}, RpP K S r fs gs → RpP K S r (fs.map fun kv => if kv.1 = k then (kv.1, d) else kv) (gs.map fun kv => if kv.1 = k then (kv.1, v) else kv)
  | [], gs, h => by rw [show gs = [] from h]; exact rfl
  | (g, x) :: fs, gs, h => by
    obtain ⟨u, gr, rfl, h1, h2⟩ := h
    rw [List.map_cons, List.map_cons]
    by_cases e : g = k
    · exact ⟨v, _, by simp [e], by simpa [e] using hv, RpP.mapPut hv h2⟩
    · exact ⟨u, _, by simp [e], by simpa [e] using h1, RpP.mapPut hv h2⟩
theorem RpP.snoc {k : Key} {d : D} {v : V} (hv : Rp K S r d v) : ∀ {fs : List (Key × D)} {gs : List (Key × V)}, RpP K S r fs gs → RpP K S r (fs ++ [(k, d)]) (gs ++ [(k, v)])
  | [], gs, h => by rw [show gs = [] from h]; exact ⟨v, [], rfl, hv, rfl⟩
  | (g, x) :: fs, gs, h => by
    obtain ⟨u, gr, rfl, h1, h2⟩ := h
    exact ⟨u, gr ++ [(k, v)], rfl, h1, RpP.snoc hv h2⟩
theorem RpP.putK {k : Key} {d : D} {v : V} {fs : List (Key × D)} {gs : List (Key × V)} (hv : Rp K S r d v) (h : RpP K S r fs gs) : RpP K S r (putKD fs k d) (L2.putK gs k v) := by
  unfold putKD L2.putK
  rw [any_keys (RpP.keys h)]
  split
  · exact RpP.mapPut hv h
  · exact RpP.snoc hv h
theorem RpP.dropK {k : Key} : ∀ {fs : List (Key × D)} {gs : List (Key × V)}, RpP K S r fs gs → RpP K S r (dropKD fs k) (L2.dropK gs k)
  | [], gs, h => by rw [show gs = [] from h]; exact rfl
  | (g, x) :: fs, gs, h => by
    obtain ⟨u, gr, rfl, h1, h2⟩ := h
    unfold dropKD L2.dropK
    rw [List.filter_cons, List.filter_cons]
    by_cases e : g = k
    · subst e
      rw [if_neg (by simp), if_neg (by simp)]
      exact RpP.dropK h2
    · simp only [e, ne_eq, not_false_eq_true, decide_true, if_true]
      exact ⟨u, _, rfl, h1, RpP.dropK h2⟩
theorem dct_at (rs : Rs K ad S r O H) {d : D} {x : V} {kvs : List (Key × D)} (p : Rp K S r d x) (h : dctOf O d = some kvs) : ∃ n a ks, d = .hdl n ∧ x = .ref a ∧ r.l[n]? = some a ∧ S a = none ∧ H a = some (.dK ks) ∧ RpP K S r kvs ks := by
  cases d with
  | hdl n =>
    replace h : (match O[n]? with | some (.dct kvs) => some kvs | _ => none) = some kvs := h
    split at h
    · rename_i ks hk
      cases h
      obtain ⟨a, rfl, h1, h2, us, h3, h4⟩ := hdl_at rs p hk
      exact ⟨n, a, us, rfl, rfl, h1, h2, h3, h4⟩
    · cases h
  | non => cases h
  | bl b => cases h
  | int i => cases h
  | str s => cases h
  | lst s => cases h
  | rol s => cases h
  | tup s => cases h
end
section
variable {X : Cx} {ad : Str → Addr} {J : JP} {W : WX} {pos p p2 apos cpos tpos pos' : Pos} {a b e o i value f : Expr} {es : List Expr} {m me mo mi mv mf : EM} {mt : AM}
theorem de_dnew : PE X (.Dict [] [] pos) (tE X.K ad J W mDNew) := by
  refine pe_imp pe_dnewK ?_
  rintro σ H Q ⟨S, r, L, O, j, rl, rs, q⟩ p hp
  replace q : Post X.K ad (fun S r => Rp X.K S r) W σ S r Q (.ok (.hdl O.length) (O ++ [.dct []])) := q
  refine q S (r.push p) _ _ (Ext.push S r p) (rs.push hp ⟨rs.fresh hp, [], upd_same, rfl⟩) ⟨p, rfl, ?_⟩
  show (r.l ++ [p])[O.length]? = some p
  rw [← rs.len, List.getElem?_append_right (Nat.le_refl _)]
  simp
theorem de_dget (hu : X.A.units + 1 < cLine) (ho : PE X o (tE X.K ad J W mo)) (hi : PE X i (tE X.K ad J W mi)) (hs : NoSl i := by intro _ _; rfl) : PE X (.Subscript o i pos) (tE X.K ad J W (mDGet mo mi)) := by
  refine pe_imp (pe_dget hu ho hi hs) ?_
  rintro σ H Q ⟨S, r, L, O, j, rl, rs, q⟩
  refine ⟨S, r, L, O, j, rl, rs, (Post.bind q).imp ?_⟩
  rintro x H1 ⟨S1, r1, d, O1, e1, s1, p1, q1⟩
  refine ⟨S1, r1, L, O1, J.mono e1.s j, rl.mono e1, s1, (Post.bind q1).imp ?_⟩
  rintro y H2 ⟨S2, r2, d2, O2, e2, s2, p2, q2⟩
  split at q2
  · rename_i kvs k hk hy
    obtain ⟨n, a, ks, rfl, rfl, h1, h2, h3, h4⟩ := dct_at s2 (Rp.mono e2 _ _ p1) hk
    split at q2
    · rename_i v hv
      obtain ⟨u, hu1, hu2⟩ := h4.val.1 v hv
      exact ⟨a, u, rfl, by rw [keyD_rp hy p2, ← hu1]; exact DGet.k h3, q2 S2 r2 H2 u (Ext.refl _ _) s2 hu2⟩
    · exact q2.elim
  · exact q2.elim
theorem din_imp {yes : Bool} : ∀ σ H Q, tE X.K ad J W (mDIn yes mi mo) σ H Q → (tE X.K ad J W mi) σ H fun y H1 => (tE X.K ad J W mo) σ H1 fun x H2 => ∃ a o, x = .ref a ∧ DGet H2 a y o ∧ Q (.bl (o.isSome == yes)) H2 := by
  rintro σ H Q ⟨S, r, L, O, j, rl, rs, q⟩
  refine ⟨S, r, L, O, j, rl, rs, (Post.bind q).imp ?_⟩
  rintro y H1 ⟨S1, r1, d, O1, e1, s1, p1, q1⟩
  refine ⟨S1, r1, L, O1, J.mono e1.s j, rl.mono e1, s1, (Post.bind q1).imp ?_⟩
  rintro x H2 ⟨S2, r2, d2, O2, e2, s2, p2, q2⟩
  split at q2
  · rename_i kvs k hk hy
    obtain ⟨n, a, ks, rfl, rfl, h1, h2, h3, h4⟩ := dct_at s2 p2 hk
    refine ⟨a, valV ks k, rfl, by rw [keyD_rp hy (Rp.mono e2 _ _ p1)]; exact DGet.k h3, ?_⟩
    have es : (valV ks k).isSome = (valD kvs k).isSome := by
      cases hv : valD kvs k with
      | some v =>
        obtain ⟨u, hu1, _⟩ := h4.val.1 v hv
        rw [hu1]; rfl
      | none => rw [h4.val.2 hv]; rfl
    rw [es]
    exact q2 S2 r2 H2 _ (Ext.refl _ _) s2 rfl
  · exact q2.elim
theorem de_din (hu : X.A.units + 1 < cLine) (hi : PE X i (tE X.K ad J W mi)) (ho : PE X o (tE X.K ad J W mo)) (hm : behindInMarks .In o = false) : PE X (.Compare i [.In] [o] pos) (tE X.K ad J W (mDIn true mi mo)) := by
  refine pe_imp (pe_cmp (pc_din hu hi ho) hm) fun σ H Q h => ?_
  obtain ⟨S, r, L, O, j, rl, rs, q⟩ := din_imp σ H Q h
  refine ⟨S, r, L, O, j, rl, rs, q.imp ?_⟩
  rintro y H1 ⟨S1, r1, L1, O1, j1, rl1, rs1, q1⟩
  refine ⟨S1, r1, L1, O1, j1, rl1, rs1, q1.imp ?_⟩
  rintro x H2 ⟨a, v, e1, e2, e3⟩
  exact ⟨a, v, e1, e2, by cases v <;> exact e3⟩
theorem de_dnotin (hu : X.A.units + 1 < cLine) (hi : PE X i (tE X.K ad J W mi)) (ho : PE X o (tE X.K ad J W mo)) (hm : behindInMarks .NotIn o = false) : PE X (.Compare i [.NotIn] [o] pos) (tE X.K ad J W (mDIn false mi mo)) := by
  refine pe_imp (pe_cmp (pc_dnotin hu hi ho) hm) fun σ H Q h => ?_
  obtain ⟨S, r, L, O, j, rl, rs, q⟩ := din_imp σ H Q h
  refine ⟨S, r, L, O, j, rl, rs, q.imp ?_⟩
  rintro y H1 ⟨S1, r1, L1, O1, j1, rl1, rs1, q1⟩
  refine ⟨S1, r1, L1, O1, j1, rl1, rs1, q1.imp ?_⟩
  rintro x H2 ⟨a, v, e1, e2, e3⟩
  exact ⟨a, v, e1, e2, by cases v <;> exact e3⟩
theorem dt_din (hu : X.A.units + 1 < cLine) (hi : PE X i (tE X.K ad J W mi)) (ho : PE X o (tE X.K ad J W mo)) (hm : behindInMarks .In o = false) : PT X (.Compare i [.In] [o] pos) (tT X.K ad J W (mTest (mDIn true mi mo))) := by
  refine pt_imp (pt_cmp (pc_din hu hi ho) hm) (test_imp (t := tDIn (tE X.K ad J W mi) (tE X.K ad J W mo)) fun σ H Q h => ?_)
  obtain ⟨S, r, L, O, j, rl, rs, q⟩ := din_imp σ H Q h
  refine ⟨S, r, L, O, j, rl, rs, q.imp ?_⟩
  rintro y H1 ⟨S1, r1, L1, O1, j1, rl1, rs1, q1⟩
  refine ⟨S1, r1, L1, O1, j1, rl1, rs1, q1.imp ?_⟩
  rintro x H2 ⟨a, v, e1, e2, e3⟩
  exact ⟨a, v, e1, e2, by cases v <;> exact e3⟩
theorem dt_dnotin (hu : X.A.units + 1 < cLine) (hi : PE X i (tE X.K ad J W mi)) (ho : PE X o (tE X.K ad J W mo)) (hm : behindInMarks .NotIn o = false) : PT X (.Compare i [.NotIn] [o] pos) (tT X.K ad J W (mTest (mDIn false mi mo))) := by
  refine pt_imp (pt_cmp (pc_dnotin hu hi ho) hm) (test_imp (t := tDNotIn (tE X.K ad J W mi) (tE X.K ad J W mo)) fun σ H Q h => ?_)
  obtain ⟨S, r, L, O, j, rl, rs, q⟩ := din_imp σ H Q h
  refine ⟨S, r, L, O, j, rl, rs, q.imp ?_⟩
  rintro y H1 ⟨S1, r1, L1, O1, j1, rl1, rs1, q1⟩
  refine ⟨S1, r1, L1, O1, j1, rl1, rs1, q1.imp ?_⟩
  rintro x H2 ⟨a, v, e1, e2, e3⟩
  exact ⟨a, v, e1, e2, by cases v <;> exact e3⟩
theorem ds_dput (hu : X.A.units + 1 < cLine) (ho : PE X o (tE X.K ad J W mo)) (hi : PE X i (tE X.K ad J W mi)) (hv : PE X value (tE X.K ad J W mv)) (hs : swapsWith value (some (.Subscript o i pos')) pos.line X.env = pure false := by rfl) :
    PS X (.Assign [.Subscript o i pos'] value pos) (tS X.K ad J W (sDPutM mo mi mv)) := by
  refine ps_imp (ps_dput hu ho hi hv hs) ?_
  rintro En σ H ⟨S, r, L, O, j, rl, rs, q⟩
  refine ⟨S, r, L, O, j, rl, rs, (bindS j rl q).imp ?_⟩
  rintro v H1 ⟨S1, r1, dv, O1, e1, s1, p1, q1⟩
  refine ⟨S1, r1, L, O1, J.mono e1.s j, rl.mono e1, s1, (bindS (J.mono e1.s j) (rl.mono e1) q1).imp ?_⟩
  rintro x H2 ⟨S2, r2, dx, O2, e2, s2, p2, q2⟩
  refine ⟨S2, r2, L, O2, J.mono (e1.trans e2).s j, rl.mono (e1.trans e2), s2, (bindS (J.mono (e1.trans e2).s j) (rl.mono (e1.trans e2)) q2).imp ?_⟩
  rintro y H3 ⟨S3, r3, dy, O3, e3, s3, p3, q3⟩
  split at q3
  · rename_i kvs k hk hy
    obtain ⟨n, a, ks, rfl, rfl, h1, h2, h3, h4⟩ := dct_at s3 (Rp.mono e3 _ _ p2) hk
    split at q3
    · rename_i hl
      have pv := Rp.mono (e2.trans e3) _ _ p1
      refine ⟨a, _, rfl, by rw [keyD_rp hy p3]; exact DPut.k h3 (by rw [RpP.length h4]; exact million_lt hl), ?_⟩
      exact q3 S3 r3 σ _ (Ext.refl _ _) (J.mono (e1.trans (e2.trans e3)).s j) (rl.mono (e1.trans (e2.trans e3))) (s3.write h1 h2 ⟨h2, _, upd_same, h4.putK pv⟩)
    · exact q3.elim
  · exact q3.elim
theorem ds_ddel (ho : PE X o (tE X.K ad J W mo)) (hi : PE X i (tE X.K ad J W mi)) : PS X (.Delete [.Subscript o i tpos] pos) (tS X.K ad J W (sDDelM mo mi)) := by
  refine ps_imp (ps_ddel ho hi) ?_
  rintro En σ H ⟨S, r, L, O, j, rl, rs, q⟩
  refine ⟨S, r, L, O, j, rl, rs, (bindS j rl q).imp ?_⟩
  rintro x H1 ⟨S1, r1, dx, O1, e1, s1, p1, q1⟩
  refine ⟨S1, r1, L, O1, J.mono e1.s j, rl.mono e1, s1, (bindS (J.mono e1.s j) (rl.mono e1) q1).imp ?_⟩
  rintro y H2 ⟨S2, r2, dy, O2, e2, s2, p2, q2⟩
  split at q2
  · rename_i kvs k hk hy
    obtain ⟨n, a, ks, rfl, rfl, h1, h2, h3, h4⟩ := dct_at s2 (Rp.mono e2 _ _ p1) hk
    split at q2
    · rename_i hv
      obtain ⟨v, hv⟩ := Option.isSome_iff_exists.mp hv
      obtain ⟨u, hu1, _⟩ := h4.val.1 v hv
      refine ⟨a, ks, k, rfl, h3, keyD_rp hy p2, by rw [hu1]; rfl, ?_⟩
      exact q2 S2 r2 σ _ (Ext.refl _ _) (J.mono (e1.trans e2).s j) (rl.mono (e1.trans e2)) (s2.write h1 h2 ⟨h2, _, upd_same, h4.dropK⟩)
    · exact q2.elim
  · exact q2.elim
theorem isD_of {S : Hp} {r : Rg} {O : Store} {H : Hp} {d : D} {x : V} {kvs : List (Key × D)} (rs : Rs X.K ad S r O H) (p : Rp X.K S r d x) (h : dctOf O d = some kvs) : ∃ a, x = .ref a ∧ IsD H a := by
  obtain ⟨n, a, ks, rfl, rfl, h1, h2, h3, h4⟩ := dct_at rs p h
  exact ⟨a, rfl, .inl ⟨ks, .inl h3⟩⟩
theorem dget_fin {S : Hp} {r : Rg} {O : Store} {H : Hp} {d dy z : D} {a : Addr} {y vz : V} {kvs : List (Key × D)} {k : Key} {σ : L2.St} {Q : VK} (rs : Rs X.K ad S r O H) (p : Rp X.K S r d (.ref a)) (hk : dctOf O d = some kvs) (hy : keyD dy = some k) (py : Rp X.K S r dy y) (pz : Rp X.K S r z vz)
    (q : Post X.K ad (fun S r => Rp X.K S r) W σ S r Q (.ok ((valD kvs k).getD z) O)) : ∃ o, DGet H a y o ∧ Q (o.getD vz) H := by
  obtain ⟨n, a', ks, rfl, e, h1, h2, h3, h4⟩ := dct_at rs p hk
  cases e
  refine ⟨valV ks k, by rw [keyD_rp hy py]; exact DGet.k h3, ?_⟩
  cases hv : valD kvs k with
  | some v =>
    obtain ⟨u, hu1, hu2⟩ := h4.val.1 v hv
    rw [hv] at q
    rw [hu1]
    exact q S r H u (Ext.refl _ _) rs hu2
  | none =>
    rw [hv] at q
    rw [h4.val.2 hv]
    exact q S r H vz (Ext.refl _ _) rs pz
theorem de_dget1 (hu : X.A.units + 1 < cLine) (ho : PE X o (tE X.K ad J W mo)) (hi : PE X e (tE X.K ad J W mi)) (m : M1 X o "get" apos e cpos := by exact ⟨rfl, rfl, rfl, rfl⟩) : PE X (.Call (.Attribute o "get" apos) [e] [] cpos) (tE X.K ad J W (mDGet1 mo mi)) := by
  refine pe_imp (pe_dget1 hu ho hi m) ?_
  rintro σ H Q ⟨S, r, L, O, j, rl, rs, q⟩
  refine ⟨S, r, L, O, j, rl, rs, (Post.bind q).imp ?_⟩
  rintro x H1 ⟨S1, r1, d, O1, e1, s1, p1, q1⟩
  split at q1
  · rename_i kvs hk
    obtain ⟨a, rfl, hd⟩ := isD_of s1 p1 hk
    refine ⟨a, rfl, hd, S1, r1, L, O1, J.mono e1.s j, rl.mono e1, s1, (Post.bind q1).imp ?_⟩
    rintro y H2 ⟨S2, r2, dy, O2, e2, s2, p2, q2⟩
    split at q2
    · rename_i kvs2 k hk2 hy
      exact dget_fin (z := .non) s2 (Rp.mono e2 _ _ p1) hk2 hy p2 rfl q2
    · exact q2.elim
  · exact q1.elim
theorem de_dget2 (hu : X.A.units + 1 < cLine) (ho : PE X o (tE X.K ad J W mo)) (hi : PE X e (tE X.K ad J W mi)) (hf : PE X f (tE X.K ad J W mf)) (m : M2 X o "get" apos e f cpos := by exact ⟨rfl, rfl, rfl, rfl⟩) : PE X (.Call (.Attribute o "get" apos) [e, f] [] cpos) (tE X.K ad J W (mDGet2 mo mi mf)) := by
  refine pe_imp (pe_dget2 hu ho hi hf m) ?_
  rintro σ H Q ⟨S, r, L, O, j, rl, rs, q⟩
  refine ⟨S, r, L, O, j, rl, rs, (Post.bind q).imp ?_⟩
  rintro x H1 ⟨S1, r1, d, O1, e1, s1, p1, q1⟩
  split at q1
  · rename_i kvs hk
    obtain ⟨a, rfl, hd⟩ := isD_of s1 p1 hk
    refine ⟨a, rfl, hd, S1, r1, L, O1, J.mono e1.s j, rl.mono e1, s1, (Post.bind q1).imp ?_⟩
    rintro y H2 ⟨S2, r2, dy, O2, e2, s2, p2, q2⟩
    refine ⟨S2, r2, L, O2, J.mono (e1.trans e2).s j, rl.mono (e1.trans e2), s2, (Post.bind q2).imp ?_⟩
    rintro z H3 ⟨S3, r3, dz, O3, e3, s3, p3, q3⟩
    split at q3
    · rename_i kvs2 k hk2 hy
      exact dget_fin s3 (Rp.mono (e2.trans e3) _ _ p1) hk2 hy (Rp.mono e3 _ _ p2) p3 q3
    · exact q3.elim
  · exact q1.elim
end
/-! ### list, dict, sorted -/
def gListD (h : Bool) : Store → D → Option (D × Store) := fun O d => match dctOf O d with
  | some kvs => newLO h (kvs.map fun kv => kD kv.1) O
  | none => none
def gDictD : Store → D → Option (D × Store) := fun O d => match dctOf O d with
  | some kvs => some (.hdl O.length, O ++ [.dct kvs])
  | none => none
def inrs : List Key → Option (List Str)
  | [] => some []
  | .inr s :: ks => (inrs ks).map (s :: ·)
  | .inl _ :: _ => none
def strsD : List D → Option (List Str)
  | [] => some []
  | .str s :: ds => (strsD ds).map (s :: ·)
  | _ => none
/-- texts in order -/
def leS (a b : Str) : Bool := !decide (b.cps.toList < a.cps.toList)
def sortS (l : List Str) : List Str := l.mergeSort leS
def sortI (l : List Int) : List Int := l.mergeSort fun a b => decide (a ≤ b)
/-- sorted: of a list of texts (fewer than 64), of ints, of a dict by texts -/
def gSorted (h : Bool) : Store → D → Option (D × Store) := fun O d => match dctOf O d with
  | some kvs => match inrs (kvs.map (·.1)) with
    | some ks => if ks.length < 64 then newLO h ((sortS ks).map .str) O else none
    | none => none
  | none => match lsqOf O d with
    | some xs => match intsOf xs with
      | some ns => if ns.length ≤ 1000000 then newLO h ((sortI ns).map .int) O else none
      | none => match strsD xs with
        | some ks => if ks.length < 64 then newLO h ((sortS ks).map .str) O else none
        | none => none
    | none => none
theorem strsD_rp {K : PySem.W.Frag} {S : Hp} {r : Rg} : ∀ {ds : List D} {vs : List V} {ns : List Str}, RpAll K S r ds vs → strsD ds = some ns → vs = ns.map V.str
  | [], vs, ns, h, e => by cases e; exact h
  | .str i :: ds, vs, ns, h, e => by
    obtain ⟨v, vr, rfl, rfl, h2⟩ := h
    have e : (strsD ds).map (i :: ·) = some ns := e
    obtain ⟨ms, e1, rfl⟩ := Option.map_eq_some_iff.mp e
    rw [strsD_rp h2 e1]
    rfl
  | .non :: _, _, _, _, e => by cases e
  | .int _ :: _, _, _, _, e => by cases e
  | .bl _ :: _, _, _, _, e => by cases e
  | .lst _ :: _, _, _, _, e => by cases e
  | .rol _ :: _, _, _, _, e => by cases e
  | .tup _ :: _, _, _, _, e => by cases e
  | .hdl _ :: _, _, _, _, e => by cases e
theorem strV_rp {K : PySem.W.Frag} {S : Hp} {r : Rg} : ∀ ys : List Str, RpAll K S r (ys.map D.str) (ys.map V.str)
  | [] => rfl
  | _ :: ys => ⟨_, _, rfl, rfl, strV_rp ys⟩
theorem intV_rp {K : PySem.W.Frag} {S : Hp} {r : Rg} : ∀ ys : List Int, RpAll K S r (ys.map D.int) (ys.map V.int)
  | [] => rfl
  | _ :: ys => ⟨_, _, rfl, rfl, intV_rp ys⟩
theorem inrs_map : ∀ {ks : List Key} {ns : List Str}, inrs ks = some ns → ks = ns.map Sum.inr
  | [], ns, e => by cases e; rfl
  | .inr s :: ks, ns, e => by
    have e : (inrs ks).map (s :: ·) = some ns := e
    obtain ⟨ms, e1, rfl⟩ := Option.map_eq_some_iff.mp e
    rw [inrs_map e1]
    rfl
  | .inl _ :: _, _, e => by cases e
/-- two orders of the same things are one, if the order is total -/
theorem perm_sorted {α : Type} {le : α → α → Prop} (anti : ∀ a b, le a b → le b a → a = b) : ∀ (l m : List α), l.Perm m → l.Pairwise le → m.Pairwise le → l = m
  | [], m, p, _, _ => (List.nil_perm.mp p).symm ▸ rfl
  | a :: l, [], p, _, _ => by cases List.perm_nil.mp p
  | a :: l, b :: m, p, hl, hm => by
    obtain ⟨l1, l2⟩ := List.pairwise_cons.mp hl
    obtain ⟨m1, m2⟩ := List.pairwise_cons.mp hm
    have e : a = b := by
      have ha := (p.mem_iff (a := a)).mp List.mem_cons_self
      have hb := (p.mem_iff (a := b)).mpr List.mem_cons_self
      rcases List.mem_cons.mp ha with e | ha
      · exact e
      · rcases List.mem_cons.mp hb with e | hb
        · exact e.symm
        · exact anti a b (l1 b hb) (m1 a ha)
    subst e
    rw [perm_sorted anti l m (List.Perm.cons_inv p) l2 m2]
theorem leS_total (a b : Str) : (leS a b || leS b a) = true := by
  unfold leS
  by_cases h : b.cps.toList < a.cps.toList
  · have : ¬ a.cps.toList < b.cps.toList := fun z => (List.lt_asymm h) z
    simp [h, this]
  · simp [h]
theorem leS_anti (a b : Str) (h1 : leS a b = true) (h2 : leS b a = true) : a = b := by
  unfold leS at h1 h2
  have e : a.cps.toList = b.cps.toList := List.le_antisymm (by simpa using h1) (by simpa using h2)
  obtain ⟨⟨x⟩⟩ := a
  obtain ⟨⟨y⟩⟩ := b
  cases e
  rfl
theorem leS_iff (a b : Str) : leS a b = true ↔ ¬ b.cps.toList < a.cps.toList := by
  unfold leS
  by_cases h : b.cps.toList < a.cps.toList
  · rw [decide_eq_true h]
    exact ⟨fun z => (by cases z), fun z => absurd h z⟩
  · rw [decide_eq_false h]
    exact ⟨fun _ => h, fun _ => rfl⟩
theorem leS_trans (a b c : Str) (h1 : leS a b = true) (h2 : leS b c = true) : leS a c = true := by
  rw [leS_iff] at *
  exact List.not_lt.mpr (List.le_trans (List.not_lt.mp h1) (List.not_lt.mp h2))
theorem ltCps_lt : ∀ a b : List Nat, PySem.Spec.ltCps a b = decide (a < b)
  | [], [] => by simp [PySem.Spec.ltCps]
  | [], _ :: _ => by simp [PySem.Spec.ltCps]
  | _ :: _, [] => by simp [PySem.Spec.ltCps]
  | x :: a, y :: b => by
    rw [PySem.Spec.ltCps, ltCps_lt a b]
    by_cases h : x < y
    · simp [List.cons_lt_cons_iff, h]
    · by_cases h2 : x = y
      · subst h2
        simp [List.cons_lt_cons_iff]
      · simp [List.cons_lt_cons_iff, h, h2]
theorem risingS_pw : ∀ (p : Str) (l : List Str), PyProof.Rows.risingS p l = true → l.Pairwise (fun a b => leS a b = true) ∧ ∀ x ∈ l, leS p x = true
  | p, [], _ => ⟨.nil, fun x h => by cases h⟩
  | p, x :: l, h => by
    have h' : (!PySem.Spec.ltCps x.cps.toList p.cps.toList && PyProof.Rows.risingS x l) = true := h
    obtain ⟨h1, h2⟩ := Bool.and_eq_true_iff.mp h'
    rw [ltCps_lt] at h1
    obtain ⟨i1, i2⟩ := risingS_pw x l h2
    refine ⟨List.pairwise_cons.mpr ⟨i2, i1⟩, fun y hy => ?_⟩
    rcases List.mem_cons.mp hy with rfl | hy
    · exact h1
    · exact leS_trans _ _ _ h1 (i2 y hy)
theorem sortedS_pw : ∀ (l : List Str), PyProof.Rows.sortedS l = true → l.Pairwise (fun a b => leS a b = true)
  | [], _ => .nil
  | x :: l, h => by
    obtain ⟨i1, i2⟩ := risingS_pw x l h
    exact List.pairwise_cons.mpr ⟨i2, i1⟩
theorem sortS_is {ys ks : List Str} (p : ys.Perm ks) (h : PyProof.Rows.sortedS ys = true) : ys = sortS ks :=
  perm_sorted (le := fun a b => leS a b = true) leS_anti ys (sortS ks) (p.trans (List.mergeSort_perm ks leS).symm) (sortedS_pw ys h) (List.pairwise_mergeSort leS_trans leS_total ks)
theorem sortI_is {ys ks : List Int} (p : ys.Perm ks) (h : ys.Pairwise (· ≤ ·)) : ys = sortI ks :=
  perm_sorted (le := fun a b : Int => a ≤ b) (fun a b => Int.le_antisymm) ys (sortI ks) (p.trans (List.mergeSort_perm ks _).symm) h
    ((List.pairwise_mergeSort (le := fun a b : Int => decide (a ≤ b)) (fun a b c h1 h2 => decide_eq_true (Int.le_trans (of_decide_eq_true h1) (of_decide_eq_true h2))) (fun a b => by
      rcases Int.le_total a b with h | h
      · simp [h]
      · simp [h]) ks).imp fun h => of_decide_eq_true h)
section
variable {X : Cx} {ad : Str → Addr} {J : JP} {W : WX}
theorem new_obj {S : Hp} {r : Rg} {O : Store} {H : Hp} {σ : L2.St} {Q : VK} {o : Ob} {u : HO} (rs : Rs X.K ad S r O H) (q : Post X.K ad (fun S r => Rp X.K S r) W σ S r Q (.ok (.hdl O.length) (O ++ [o]))) (ho : ∀ p, H p = none → RO X.K ad S (r.push p) (upd H p u) p o) : ∀ p, H p = none → Q (.ref p) (upd H p u) := fun p hp => by
  refine q S (r.push p) _ _ (Ext.push S r p) (rs.push hp (ho p hp)) ⟨p, rfl, ?_⟩
  show (r.l ++ [p])[O.length]? = some p
  rw [← rs.len, List.getElem?_append_right (Nat.le_refl _)]
  simp
theorem cd_sorted (h : Bool) (hc : X.calm = true) : CallD X ad (.builtin "sorted") (g1 (gSorted h)) := cd_1 (CallR.or (call_sortedD hc) (CallR.or cr_sortedI cr_sortedS)) fun S r O H x d W σ Q rs p q => by
  unfold gSorted at q
  split at q
  · rename_i kvs hk
    obtain ⟨n, a, ks, rfl, rfl, h1, h2, h3, h4⟩ := dct_at rs p hk
    split at q
    · rename_i zs hz
      split at q
      · rename_i hl
        rw [ofO_newLO] at q
        refine .inl ⟨a, ks, zs, rfl, .inl h3, by rw [RpP.keys h4, inrs_map hz], hl, fun ys p hp hs hn => ?_⟩
        rw [sortS_is hp hs]
        exact (newL_post rs (strV_rp _) q).2 p hn
      · exact q.elim
    · exact q.elim
  · split at q
    · rename_i xs hx
      obtain ⟨a, vs, rfl, h1, h2⟩ := lsqOf_ok rs p hx
      split at q
      · rename_i ns hn
        split at q
        · rw [ofO_newLO] at q
          rw [intsOf_rp h2 hn] at h1
          refine .inr (.inl ⟨a, ns, rfl, h1, fun ys p hp hs hnn => ?_⟩)
          rw [sortI_is hp hs]
          exact (newL_post rs (intV_rp _) q).2 p hnn
        · exact q.elim
      · split at q
        · rename_i ks hks
          split at q
          · rename_i hl
            rw [ofO_newLO] at q
            rw [strsD_rp h2 hks] at h1
            refine .inr (.inr ⟨a, ks, rfl, h1, hl, fun ys p hp hs hn => ?_⟩)
            rw [sortS_is hp hs]
            exact (newL_post rs (strV_rp _) q).2 p hn
          · exact q.elim
        · exact q.elim
    · exact q.elim
theorem keys_rp {S : Hp} {r : Rg} : ∀ kvs : List Key, RpAll X.K S r (kvs.map kD) (kvs.map kV)
  | [] => rfl
  | k :: ks => ⟨_, _, rfl, kD_rp k, keys_rp ks⟩
theorem cd_listD (h : Bool) (hc : X.calm = true) : CallD X ad (.type "list") (g1 (gListD h)) := cd_1 (call_list_dK hc) fun S r O H x d W σ Q rs p q => by
  unfold gListD at q
  split at q
  · rename_i kvs hk
    obtain ⟨n, a, ks, rfl, rfl, h1, h2, h3, h4⟩ := dct_at rs p hk
    rw [ofO_newLO] at q
    refine ⟨a, ks, rfl, h3, fun p hp => ?_⟩
    have e1 : ks.map (fun kv => kV kv.1) = (ks.map (·.1)).map kV := by rw [List.map_map]; rfl
    have e2 : kvs.map (fun kv => kD kv.1) = (kvs.map (·.1)).map kD := by rw [List.map_map]; rfl
    rw [e1, RpP.keys h4]
    rw [e2] at q
    exact (newL_post rs (keys_rp _) q).2 p hp
  · exact q.elim
theorem cd_dictD : CallD X ad (.type "dict") (g1 gDictD) := cd_1 call_dictD fun S r O H x d W σ Q rs p q => by
  unfold gDictD at q
  split at q
  · rename_i kvs hk
    obtain ⟨n, a, ks, rfl, rfl, h1, h2, h3, h4⟩ := dct_at rs p hk
    exact ⟨a, ks, rfl, .inl h3, new_obj rs q fun p hp => ⟨rs.fresh hp, ks, upd_same, RpP.monoW (Same.refl S) (List.prefix_append r.l [p]) _ _ h4⟩⟩
  · exact q.elim
end
end DK
end
section
set_option Elab.async false
set_option linter.all false
set_option autoImplicit false
set_option maxRecDepth 100000
set_option maxHeartbeats 4000000
/-! DKConv: tuple(list), and other conversions, by mirrors. -/
namespace DK
open PySem L2
theorem un1 {k : Nat} {A : Around} (r : Room k A) : A.units + 1 < cLine := by have := r.un; omega
def gTupD : Store → D → Option (D × Store) := fun O d => match lsqOf O d with
  | some xs => some (.tup xs, O)
  | none => none
section
variable {X : Cx} {ad : Str → Addr}
theorem cd_tuple : CallD X ad (.type "tuple") (g1 gTupD) := cd_1 call_tuple_of fun S r O H x d W σ Q rs p q => by
  unfold gTupD at q
  split at q
  · rename_i xs hx
    obtain ⟨a, vs, rfl, h1, h2⟩ := lsqOf_ok rs p hx
    exact ⟨a, vs, rfl, .inl ⟨h1, newT_post rs h2 q⟩⟩
  · exact q.elim
end
end DK
end
section
set_option Elab.async false
set_option linter.all false
set_option autoImplicit false
set_option maxRecDepth 100000
set_option maxHeartbeats 4000000
/-! DKMin: min and max of two texts, by mirrors. -/
namespace DK
open PySem PySem.Spec PyProof.Rows L2
def ltSV (a b : Str) : Bool := decide (a.cps.toList < b.cps.toList)
theorem rcGt_strD (A : Around) (s : Shared) (x : Str) (t : Tok) (y : Str) (u : Tok) (prog : Program) (w : World) (E : Value → Shared → Prop) (Q : Value → Shared → Prop) (h : Q (.bool (decide (y.cps.toList < x.cps.toList))) s) :
    wpAny (model prog w) A (richCompare .Gt (.str x t) (.str y u)) Q E s :=
  (PySem.P.gt_str h : wpAny (model prog w) A (compareOp .Gt (.str x t) (.str y u)) Q E s)
theorem rcLt_strD (A : Around) (s : Shared) (x : Str) (t : Tok) (y : Str) (u : Tok) (prog : Program) (w : World) (E : Value → Shared → Prop) (Q : Value → Shared → Prop) (h : Q (.bool (decide (x.cps.toList < y.cps.toList))) s) :
    wpAny (model prog w) A (richCompare .Lt (.str x t) (.str y u)) Q E s :=
  (PyProof.Rows.lt_str h : wpAny (model prog w) A (compareOp .Lt (.str x t) (.str y u)) Q E s)
def strAt (vs : Array (Str × Tok)) (i : Nat) : Str := ((vs[i]?).map (·.1)).getD ⟨#[]⟩
def strItems (vs : Array (Str × Tok)) : Array Value := vs.map fun p => .str p.1 p.2
section
variable {prog : Program} {w : World} {A : Around}
theorem strItems_at {vs : Array (Str × Tok)} {i : Nat} {v : Value} (h : (strItems vs)[i]? = some v) : ∃ t, v = .str (strAt vs i) t := by
  unfold strItems at h
  rw [Array.getElem?_map] at h
  obtain ⟨p, hp, rfl⟩ := Option.map_eq_some_iff.mp h
  refine ⟨p.2, ?_⟩
  unfold strAt
  rw [hp]
  rfl
theorem cmpS_lt (vs : Array (Str × Tok)) : CmpOf prog w A .Lt (fun i v => (strItems vs)[i]? = some v) (fun i j => ltSV (strAt vs i) (strAt vs j)) := fun i j vi vj s Q E hi hj h => by
  obtain ⟨t, rfl⟩ := strItems_at hi
  obtain ⟨u, rfl⟩ := strItems_at hj
  exact rcLt_strD _ _ _ _ _ _ _ _ _ _ h
theorem cmpS_gt (vs : Array (Str × Tok)) : CmpOf prog w A .Gt (fun i v => (strItems vs)[i]? = some v) (fun i j => ltSV (strAt vs j) (strAt vs i)) := fun i j vi vj s Q E hi hj h => by
  obtain ⟨t, rfl⟩ := strItems_at hi
  obtain ⟨u, rfl⟩ := strItems_at hj
  exact rcGt_strD _ _ _ _ _ _ _ _ _ _ h
theorem two_str {E : Value → Shared → Prop} {s : Shared} {a b : Str} {t u : Tok} {Q : Value → Shared → Prop} (hh : A.handled = none) (mx : Bool)
    (h : ∀ h' tk, (∀ c o, s.heap.get? c = some o → h'.get? c = some o) → Q (if (if mx = true then ltSV a b else ltSV b a) = true then .str b u else .str a t) { s with heap := h', toks := tk }) :
    wpAny (model prog w) A (call (.builtin (if mx = true then "max" else "min")) [.str a t, .str b u]) Q E s := by
  have hT : (s.heap.push { cls := .type "tuple", data := .seq #[.str a t, .str b u] }).IsTuple s.heap.objs.size (strItems #[(a, t), (b, u)]) := ⟨_, Heap.get?_push_size _ rfl, rfl, 0, by simp [strItems]⟩
  have hsz : (s.heap.push { cls := .type "tuple", data := .seq #[.str a t, .str b u] }).objs.size = s.heap.objs.size + 1 := Heap.size_push ..
  cases mx with
  | false =>
    show wpAny (model prog w) A (call (.builtin "min") [.str a t, .str b u]) Q E s
    refine call_min_two (wpAny_pyIter_tuple hT ?_)
    refine ⟨_, [_, s.heap.objs.size], [_], _, _, _, _, rfl, Walks.tuple (A := A.in1) hh _ s.heap.objs.size (by rw [hsz]; exact Nat.ne_of_lt (Nat.lt_succ_self _)) (strItems #[(a, t), (b, u)]),
      ⟨⟨_, Heap.get?_push_size _ rfl, rfl, rfl⟩, hT.push _⟩, fun c hc => ?_, by simp [strItems], cmpS_lt #[(a, t), (b, u)], fun v h' tk hP hk => ?_⟩
    · show c < ((s.heap.push _).push _).objs.size
      rw [Heap.size_push, hsz]
      rcases List.mem_cons.mp hc with rfl | hc
      · rw [hsz]; exact Nat.lt_succ_self _
      · rcases List.mem_cons.mp hc with rfl | hc
        · exact Nat.lt_succ_of_lt (Nat.lt_succ_self _)
        · cases hc
    · have hold : ∀ c o, s.heap.get? c = some o → h'.get? c = some o := fun c o e => by
        refine hk c o (fun hm => ?_) (Heap.get?_push_of_some _ (Heap.get?_push_of_some _ e))
        rcases List.mem_cons.mp hm with e1 | hm
        · have := Heap.lt_size e; rw [e1, hsz] at this; exact Nat.lt_irrefl _ (Nat.lt_of_succ_lt this)
        · cases hm
      have := h h' tk hold
      have hv : v = if ltSV b a = true then Value.str b u else Value.str a t := by
        have hP' : (strItems #[(a, t), (b, u)])[argBest (fun i j => ltSV (strAt #[(a, t), (b, u)] i) (strAt #[(a, t), (b, u)] j)) 1]? = some v := by
          have hsz2 : (strItems #[(a, t), (b, u)]).size - 1 = 1 := by simp [strItems]
          rw [← hsz2]; exact hP
        cases hc : ltSV b a <;> simp [argBest, strAt, strItems, hc] at hP' <;> simp [hP']
      rw [hv]; exact this
  | true =>
    show wpAny (model prog w) A (call (.builtin "max") [.str a t, .str b u]) Q E s
    refine call_max_two (wpAny_pyIter_tuple hT ?_)
    refine ⟨_, [_, s.heap.objs.size], [_], _, _, _, _, rfl, Walks.tuple (A := A.in1) hh _ s.heap.objs.size (by rw [hsz]; exact Nat.ne_of_lt (Nat.lt_succ_self _)) (strItems #[(a, t), (b, u)]),
      ⟨⟨_, Heap.get?_push_size _ rfl, rfl, rfl⟩, hT.push _⟩, fun c hc => ?_, by simp [strItems], cmpS_gt #[(a, t), (b, u)], fun v h' tk hP hk => ?_⟩
    · show c < ((s.heap.push _).push _).objs.size
      rw [Heap.size_push, hsz]
      rcases List.mem_cons.mp hc with rfl | hc
      · rw [hsz]; exact Nat.lt_succ_self _
      · rcases List.mem_cons.mp hc with rfl | hc
        · exact Nat.lt_succ_of_lt (Nat.lt_succ_self _)
        · cases hc
    · have hold : ∀ c o, s.heap.get? c = some o → h'.get? c = some o := fun c o e => by
        refine hk c o (fun hm => ?_) (Heap.get?_push_of_some _ (Heap.get?_push_of_some _ e))
        rcases List.mem_cons.mp hm with e1 | hm
        · have := Heap.lt_size e; rw [e1, hsz] at this; exact Nat.lt_irrefl _ (Nat.lt_of_succ_lt this)
        · cases hm
      have := h h' tk hold
      have hv : v = if ltSV a b = true then Value.str b u else Value.str a t := by
        have hP' : (strItems #[(a, t), (b, u)])[argBest (fun i j => ltSV (strAt #[(a, t), (b, u)] j) (strAt #[(a, t), (b, u)] i)) 1]? = some v := by
          have hsz2 : (strItems #[(a, t), (b, u)]).size - 1 = 1 := by simp [strItems]
          rw [← hsz2]; exact hP
        cases hc : ltSV a b <;> simp [argBest, strAt, strItems, hc] at hP' <;> simp [hP']
      rw [hv]; exact this
end
section
variable {X : Cx} {ad : Str → Addr}
theorem call_min2S (hc : X.calm = true) : CallR X (.builtin "min") (fun xs H Q => ∃ i j, xs = [.str i, .str j] ∧ Q (.str (if ltSV j i = true then j else i)) H) := by
  intro pins s σ H xs us Q I r h
  obtain ⟨i, j, rfl, q⟩ := h
  obtain ⟨u, w', rfl, ⟨t, rfl⟩, ⟨t', rfl⟩⟩ := vals2 r
  refine two_str (I.ok.hd hc) false fun h' tk k => ⟨_, H, I.kept k, ?_, q⟩
  cases hj : ltSV j i
  · exact ⟨_, rfl⟩
  · exact ⟨_, rfl⟩
theorem call_max2S (hc : X.calm = true) : CallR X (.builtin "max") (fun xs H Q => ∃ i j, xs = [.str i, .str j] ∧ Q (.str (if ltSV i j = true then j else i)) H) := by
  intro pins s σ H xs us Q I r h
  obtain ⟨i, j, rfl, q⟩ := h
  obtain ⟨u, w', rfl, ⟨t, rfl⟩, ⟨t', rfl⟩⟩ := vals2 r
  refine two_str (I.ok.hd hc) true fun h' tk k => ⟨_, H, I.kept k, ?_, q⟩
  cases hj : ltSV i j
  · exact ⟨_, rfl⟩
  · exact ⟨_, rfl⟩
/-- min and max of two whole numbers or two texts -/
def gMinA : Store → D → D → Option (D × Store) := fun O d e => match d, e with
  | .int i, .int j => some (.int (if j < i then j else i), O)
  | .str i, .str j => some (.str (if ltSV j i = true then j else i), O)
  | _, _ => none
def gMaxA : Store → D → D → Option (D × Store) := fun O d e => match d, e with
  | .int i, .int j => some (.int (if j > i then j else i), O)
  | .str i, .str j => some (.str (if ltSV i j = true then j else i), O)
  | _, _ => none
theorem cd_minA (hc : X.calm = true) : CallD X ad (.builtin "min") (g2 gMinA) := cd_2 (CallR.or (call_min2 hc) (call_min2S hc)) fun S r O H x y d e W σ Q rs p1 p2 q => by
  unfold gMinA at q
  split at q
  · rename_i i j
    rw [show x = .int i from p1, show y = .int j from p2]
    exact .inl ⟨i, j, rfl, q S r H _ (Ext.refl _ _) rs rfl⟩
  · rename_i i j
    rw [show x = .str i from p1, show y = .str j from p2]
    exact .inr ⟨i, j, rfl, q S r H _ (Ext.refl _ _) rs rfl⟩
  · exact q.elim
theorem cd_maxA (hc : X.calm = true) : CallD X ad (.builtin "max") (g2 gMaxA) := cd_2 (CallR.or (call_max2 hc) (call_max2S hc)) fun S r O H x y d e W σ Q rs p1 p2 q => by
  unfold gMaxA at q
  split at q
  · rename_i i j
    rw [show x = .int i from p1, show y = .int j from p2]
    exact .inl ⟨i, j, rfl, q S r H _ (Ext.refl _ _) rs rfl⟩
  · rename_i i j
    rw [show x = .str i from p1, show y = .str j from p2]
    exact .inr ⟨i, j, rfl, q S r H _ (Ext.refl _ _) rs rfl⟩
  · exact q.elim
end
end DK
end
section
set_option Elab.async false
set_option linter.all false
set_option autoImplicit false
set_option maxRecDepth 100000
set_option maxHeartbeats 4000000
/-! DKFrz: a list of the store that nobody writes any more is let be for good. -/
namespace DK
open PySem L2
def frzD (x : D) (O1 : Store) : Res D := match x with
  | .hdl n => match O1[n]? with
    | some (.lst xs) => .ok (.lst xs) (O1.set n .dead)
    | _ => .bad
  | d => .ok d O1
def mFrz (m : EM) : EM := fun L O => (m L O).bind frzD
section
variable {X : Cx} {ad : Str → Addr} {J : JP} {W : WX} {e : Expr} {m : EM}
theorem de_frz (h : PE X e (tE X.K ad J W m)) : PE X e (tE X.K ad J W (mFrz m)) := by
  refine pe_imp h ?_
  rintro σ H Q ⟨S, r, L, O, j, rl, rs, q⟩
  refine ⟨S, r, L, O, j, rl, rs, (Post.bind q).imp ?_⟩
  rintro x H1 ⟨S1, r1, d, O1, e1, s1, p1, q1⟩
  unfold frzD at q1
  split at q1
  · rename_i n
    split at q1
    · rename_i xs hx
      obtain ⟨a, rfl, hl, hz, vs, ha, hp⟩ := hdl_at s1 p1 hx
      have e2 : Ext S1 r1 (upd S1 a (.lst vs)) r1 := Ext.new hz
      exact q1.fin e2 (s1.freeze hl hz ha) ⟨a, vs, rfl, upd_same, RpAll.mono e2 _ _ hp⟩
    · exact q1.elim
  · exact q1.fin (Ext.refl _ _) s1 p1
end
end DK
end
section
set_option Elab.async false
set_option linter.all false
set_option autoImplicit false
set_option maxRecDepth 100000
set_option maxHeartbeats 4000000
/-! DKRev: list(reversed(a list)), by mirrors. -/
namespace DK
open PySem PySem.Spec PyProof.Rows L2 RT
section
variable {prog : Program} {w : World} {A : Around} {E : Value → Shared → Prop} {s : Shared}
theorem extend_rev {R : Result → Shared → Prop} {it l : Addr} {items : Array Value} (hh : A.handled = none) (hit : s.heap.IsRevIter it l ((items.size : Int) - 1)) (hl : s.heap.IsList l items) (hne : l ≠ it) (hn : items.size ≤ sizeLine) (S : Addr) (hSi : S ≠ it) (hSl : S ≠ l) (res : Value) (c₀ : Nat)
    (hS : s.heap.get? S = some { cls := .type "list", data := .seq #[] c₀ })
    (hR : ∀ h' tk acc' c', (∀ b o, b ≠ S → b ≠ it → s.heap.get? b = some o → h'.get? b = some o) → h'.get? S = some { cls := .type "list", dict := none, data := .seq acc' c', slots := #[] } →
      ItemsOf (fun i v => items[items.size - 1 - i]? = some v) acc' items.size → R (.ok (.ret res)) { s with heap := h', toks := tk }) :
    wpAny (model prog w) A.in1 (Builtin.List.listExtendWith (.ref S) (.ref it) res)
      (fun fin s' => match fin with | .done f => R (.ok f) s' | .again c' => c'.quiet = true ∧ codeAny (model prog w) A c' R s') (fun e s' => R (.error e) s') s := by
  have W := (Walks.listRev (prog := prog) (w := w) (A := A.in1) hh it l hne items).toS
  have hSf : S ∉ [it, l] := by simp only [List.mem_cons, List.not_mem_nil, or_false, not_or]; exact ⟨hSi, hSl⟩
  have hT : s.TypeIs (.ref it) "list_reverseiterator" := hit.typeIs
  have h1 : Builtin.List.listSameRef (.ref S) (.ref it) = false := by simp [Builtin.List.listSameRef, hSi]
  unfold Builtin.List.listExtendWith
  refine wpAny_bind (wpAny_typeOf hT ?_)
  rw [if_neg (by rw [h1]; decide)]
  refine wpAny_bind (wpAny_pyIter_revIter hit ?_)
  refine wpAny_bind (wpAny_holding ?_)
  unfold Builtin.List.listLengthHint
  refine wpAny_bind (wpAny_specialOf hT nolen_lri ?_)
  show wpAny _ A.in1 (specialOf (Value.ref it) (Str.ofString "__length_hint__") >>= _) _ _ _
  refine wpAny_bind (wpAny_specialOf hT hint_lri ?_)
  generalize hid : ("list_reverseiterator.__length_hint__" : String) = id0
  wp_delta
  rw [show splitId id0 = some ("list_reverseiterator", "__length_hint__") from by subst hid; decide +kernel]
  subst hid
  refine wpAny_bind (wpAny_isInstance (b := true) hT (by rw [isSubtype_type]; kernel_rfl) ?_)
  refine wpAny_pure ?_
  rw [if_neg (by decide)]
  have e0 : ((items.size : Nat) : Int) - 1 - ((0 : Nat) : Int) = (items.size : Int) - 1 := by omega
  refine wpAny_pure ⟨plainId_quiet F.plain_extend_loop _, codeAny_extend_loopS W hn _ hSf _ items.size 0 _ _ _ rfl (Nat.zero_le _) ⟨Nat.zero_le _, by rw [e0]; exact hit, hl⟩ hS (ItemsOf.nil _) fun s' acc' c' hm hS' hacc => ?_⟩
  rw [Moved.eq_with hm]
  refine hR s'.heap s'.toks acc' c' (fun b o hb hb2 e => hm.heap b o (fun hmem => ?_) e) hS' hacc
  rcases List.mem_cons.mp hmem with e' | hmem
  · exact hb e'
  · exact hb2 (List.mem_singleton.mp hmem)
theorem init_rev {R : Result → Shared → Prop} {it l : Addr} {items : Array Value} (hh : A.handled = none) (hit : s.heap.IsRevIter it l ((items.size : Int) - 1)) (hl : s.heap.IsList l items) (hne : l ≠ it) (hn : items.size ≤ sizeLine) (S : Addr) (hSi : S ≠ it) (hSl : S ≠ l)
    (hS : s.heap.get? S = some { cls := .type "list", data := .seq #[] })
    (hR : ∀ h' tk acc' c', (∀ b o, b ≠ S → b ≠ it → s.heap.get? b = some o → h'.get? b = some o) → h'.get? S = some { cls := .type "list", dict := none, data := .seq acc' c', slots := #[] } →
      ItemsOf (fun i v => items[items.size - 1 - i]? = some v) acc' items.size → R (.ok (.ret .none)) { s with heap := h', toks := tk }) :
    wpAny (model prog w) A.in1 (Builtin.«list.__init__» ⟨[.ref S, .ref it], []⟩)
      (fun fin s' => match fin with | .done f => R (.ok f) s' | .again c' => c'.quiet = true ∧ codeAny (model prog w) A c' R s') (fun e s' => R (.error e) s') s := by
  show wpAny _ _ (do let old ← Builtin.List.listItems (.ref S); Builtin.List.listUpdate (.ref S) (fun _ => #[]); letGo old.toList.reverse; Builtin.List.listExtendWith (.ref S) (.ref it) .none) _ _ s
  refine wpAny_bind ?_
  unfold Builtin.List.listItems
  refine wpAny_bind (wpAny_seqItems hS rfl (wpAny_pure ?_))
  show wpAny _ _ (updateSeq S (fun _ => #[]) >>= fun _ => letGo (#[] : Array Value).toList.reverse >>= fun _ => Builtin.List.listExtendWith (.ref S) (.ref it) .none) _ _ s
  refine wpAny_bind (wpAny_updateSeq hS rfl ?_)
  have hS₂ := Heap.get?_update_self (Obj.mapSeq (fun _ => (#[] : Array Value))) hS rfl
  have oth : ∀ b o, b ≠ S → s.heap.get? b = some o → (s.heap.update S (Obj.mapSeq (fun _ => (#[] : Array Value)))).get? b = some o :=
    fun b o hb e => (Heap.get?_update_other _ _ (Ne.symm hb)).trans e
  refine wpAny_bind (wpAny_letGo ?_)
  have hl2 : (s.heap.update S (Obj.mapSeq (fun _ => (#[] : Array Value)))).IsList l items := by
    obtain ⟨o, e, r⟩ := hl
    exact ⟨o, oth l o (Ne.symm hSl) e, r⟩
  refine extend_rev hh (hit.at fun o e => oth it o (Ne.symm hSi) e) hl2 hne hn S hSi hSl .none _ hS₂ fun h' tk acc' c' hk hS' hacc => ?_
  exact hR h' tk acc' c' (fun b o hb hb2 e => hk b o hb hb2 (oth b o hb e)) hS' hacc
theorem call_list_rev {Q : Value → Shared → Prop} {it l : Addr} {items : Array Value} (hh : A.handled = none) (hit : s.heap.IsRevIter it l ((items.size : Int) - 1)) (hl : s.heap.IsList l items) (hne : l ≠ it) (hn : items.size ≤ sizeLine)
    (hQ : ∀ h' tk acc' c', (∀ b o, b ≠ it → s.heap.get? b = some o → h'.get? b = some o) →
      h'.get? s.heap.objs.size = some { cls := .type "list", dict := none, data := .seq acc' c', slots := #[] } → ItemsOf (fun i v => items[items.size - 1 - i]? = some v) acc' items.size → Q (.ref s.heap.objs.size) { s with heap := h', toks := tk }) :
    wpAny (model prog w) A (call (.type "list") [.ref it]) Q E s := by
  refine callType_codes (Q₁ := fun obj s₁ => obj = .ref s.heap.objs.size ∧ s₁ = { s with heap := s.heap.push { cls := .type "list", data := .seq #[] } }) F.called_list (F.typeCall_list_1 _) F.entry_list_init
    (code_list_new _ ⟨rfl, rfl⟩) fun obj s₁ h₁ => ?_
  obtain ⟨rfl, rfl⟩ := h₁
  obtain ⟨oi, hoi, _⟩ := id hit
  obtain ⟨ol, hol, _⟩ := id hl
  have hS : (s.heap.push { cls := .type "list", data := .seq #[] }).get? s.heap.objs.size = some { cls := .type "list", data := .seq #[] } := Heap.get?_push_size _ rfl
  refine ⟨⟨_, hS, rfl⟩, F.args_list_init_2 _ _, init_rev (A := A.in1) hh (hit.at fun o e => Heap.get?_push_of_some _ e) (hl.push _) hne hn _ (Nat.ne_of_gt (Heap.lt_size hoi)) (Nat.ne_of_gt (Heap.lt_size hol)) hS fun h' tk acc' c' hk hS' hacc => ?_⟩
  exact ⟨rfl, hQ h' tk acc' c' (fun b o hb e => hk b o (Nat.ne_of_lt (Heap.lt_size e)) hb (Heap.get?_push_of_some _ e)) hS' hacc⟩
end
def tLstRev (K : PySem.W.Frag) (te : TE) : TE := fun σ H Q => te σ H fun v H1 => ∃ (a : Addr) (xs : List V), v = .ref a ∧ SqL K H1 a xs ∧ ∀ q, H1 q = none → Q (.ref q) (upd H1 q (.lst xs.reverse))
section
variable {X : Cx}
theorem pe_lstRev {e : Expr} {te : TE} {p p2 pos pos2 : Pos} (hc : X.calm = true) (hg : Gl X "list") (hm : X.mg "list" = none) (hg2 : Gl X "reversed") (hm2 : X.mg "reversed" = none) (he : PE X e te)
    (hs : starEach [e] X.env = (false, eval e X.env) :: starEach [] X.env := by rfl)
    (hs2 : starEach [.Call (.Name "reversed" p2) [e] [] pos2] X.env = (false, eval (.Call (.Name "reversed" p2) [e] [] pos2) X.env) :: starEach [] X.env := by rfl) :
    PE X (.Call (.Name "list" p) [.Call (.Name "reversed" p2) [e] [] pos2] [] pos) (tLstRev X.K te) := by
  refine ⟨fun pins s σ H Q I h => ?_⟩
  refine Call_ (ld_blt I hg hm boot_list (PyProof.Rows.callWith_type1 (args_cons (Call_ (ld_blt I hg2 hm2 PyProof.Rows.boot_reversed (PyProof.Rows.callWith_type1 (args_cons (thn (he.run pins s σ H _ I h) fun u s1 ⟨v, H1, I1, r1, q1⟩ => args_nil ?_) hs) hs rfl))) hs2) hs2 rfl))
  obtain ⟨a, xs, ev, hq, q⟩ := q1
  subst ev
  obtain rfl : u = Value.ref a := r1
  obtain ⟨its, rv, p', hz⟩ := I1.list hq
  refine call_reversed_list p'.isList (args_nil ?_)
  have k0 : ∀ b o, s1.heap.get? b = some o → (s1.heap.push (revObj a ((its.toArray.size : Int) - 1))).get? b = some o := fun b o e => Heap.get?_push_of_some _ e
  have I2 : Inv X pins σ H1 { s1 with heap := s1.heap.push (revObj a ((its.toArray.size : Int) - 1)) } := I1.kept (t' := s1.toks) k0
  obtain ⟨f0, f1, f2, f3, f4, f5⟩ := I1.fpOk (H' := H1) (b := s1.heap.objs.size) (Nat.le_refl _) (I1.hok.fresh (Nat.le_refl _))
  have hl := p'.isList
  obtain ⟨ol, hol, _⟩ := id hl
  have hne : a ≠ s1.heap.objs.size := Nat.ne_of_lt (Heap.lt_size hol)
  have hn : its.toArray.size ≤ sizeLine := by rw [List.size_toArray, ← rv.length]; exact hz
  have hl2 := hl.push (revObj a ((its.toArray.size : Int) - 1))
  refine call_list_rev (s := { s1 with heap := s1.heap.push (revObj a ((its.toArray.size : Int) - 1)) }) (I1.ok.hd hc) ⟨_, Heap.get?_push_size _ rfl, rfl, rfl⟩ hl2 hne hn fun h' tk acc c' hk hS' hi => ?_
  have hk' : ∀ b o, s1.heap.get? b = some o → h'.get? b = some o := fun b o e => hk b o (Nat.ne_of_lt (Heap.lt_size e)) (k0 b o e)
  have hsz : s1.heap.objs.size ≤ (s1.heap.push (revObj a ((its.toArray.size : Int) - 1))).objs.size := by rw [Heap.size_push]; exact Nat.le_succ _
  refine ⟨.ref (s1.heap.push (revObj a ((its.toArray.size : Int) - 1))).objs.size, upd H1 (s1.heap.push (revObj a ((its.toArray.size : Int) - 1))).objs.size (.lst xs.reverse), I1.laid (t' := tk) hk' hsz (show ObjOk X.prog X.w _ _ _ (.lst xs.reverse) from ⟨by rw [List.length_reverse]; exact hz, acc.toList, c', vals_rev rv hi, ?_⟩), rfl, q _ (I1.hok.fresh hsz)⟩
  rw [Array.toArray_toList]
  exact hS'
/-- list(reversed(x)) -/
def mLRev (h : Bool) (m : EM) : EM := fun L O => (m L O).bind fun d O1 => match lsqOf O1 d with
  | some xs => newL h xs.reverse O1
  | none => .bad
theorem rp_rev' {K : PySem.W.Frag} {S : Hp} {r : Rg} {ds : List D} {vs : List V} (h : RpAll K S r ds vs) : RpAll K S r ds.reverse vs.reverse := rp_rev h
theorem de_lrev {ad : Str → Addr} {J : JP} {W : WX} {e : Expr} {m : EM} {p p2 pos pos2 : Pos} (hm0 : Bool) (hc : X.calm = true) (hg : Gl X "list") (hm : X.mg "list" = none) (hg2 : Gl X "reversed") (hm2 : X.mg "reversed" = none) (he : PE X e (tE X.K ad J W m))
    (hs : starEach [e] X.env = (false, eval e X.env) :: starEach [] X.env := by rfl)
    (hs2 : starEach [.Call (.Name "reversed" p2) [e] [] pos2] X.env = (false, eval (.Call (.Name "reversed" p2) [e] [] pos2) X.env) :: starEach [] X.env := by rfl) :
    PE X (.Call (.Name "list" p) [.Call (.Name "reversed" p2) [e] [] pos2] [] pos) (tE X.K ad J W (mLRev hm0 m)) := by
  refine pe_imp (pe_lstRev hc hg hm hg2 hm2 he hs hs2) ?_
  rintro σ H Q ⟨S, r, L, O, j, rl, rs, q⟩
  refine ⟨S, r, L, O, j, rl, rs, (Post.bind q).imp ?_⟩
  rintro x H1 ⟨S1, r1, d, O1, e1, s1, p1, q1⟩
  split at q1
  · rename_i xs hx
    obtain ⟨a, vs, rfl, h1, h2⟩ := lsqOf_ok s1 p1 hx
    exact ⟨a, vs, rfl, h1, (newL_post s1 (rp_rev h2) q1).2⟩
  · exact q1.elim
end
end DK
end
section
set_option Elab.async false
set_option linter.all false
set_option autoImplicit false
set_option maxRecDepth 100000
set_option maxHeartbeats 4000000
/-! DKOwn: == by an own __eq__, isinstance of an own class, remove from a list of texts; by mirrors. -/
namespace DK
open PySem L2
/-- what the other side of an own == may be -/
def othOk (O : Store) (c : Str) : D → Bool
  | .int _ => true
  | .hdl n => match O[n]? with
    | some (.ins c' _) => decide (c' = c)
    | _ => false
  | _ => false
def blR : Res D → Res D := fun z => z.bind fun d O => match d with
  | .bl b => .ok (.bl b) O
  | _ => .bad
/-- x == y by the own __eq__ of the class c -/
def mEqO (c : Str) (fm : FM) (ma mb : EM) : EM := fun L O => (ma L O).bind fun x O1 => (mb L O1).bind fun y O2 => match x with
  | .hdl n => match O2[n]? with
    | some (.ins c' _) => if c' = c ∧ othOk O2 c y = true then blR (fm [x, y] O2) else .bad
    | _ => .bad
  | _ => .bad
/-- isinstance(x, c), c an own class -/
def mIsO (c : Str) (m : EM) : EM := fun L O => (m L O).bind fun d O1 => match d with
  | .int _ => .ok (.bl false) O1
  | .hdl n => match O1[n]? with
    | some (.ins c' _) => if c' = c then .ok (.bl true) O1 else .bad
    | _ => .bad
  | _ => .bad
/-- the facts on an own class -/
structure OwnC (K : PySem.W.Frag) (C : Addr) : Prop where
  cl : Cls K C
  ha : PySem.W.findIn K (.ref C) "__class__" = some (some (.builtin "object.__class__"))
  hn : PySem.W.specialIn K (.builtin "object.__class__") "__get__" = some (some (.builtin "getset_descriptor.__get__"))
  htk : PySem.W.takesIn K (.builtin "object.__class__") = some true
  hm : PySem.W.mroIn K C (.type "object") = some true
  me : PySem.W.kitOne K (.ref C) (.ref C) = some true
  int : PySem.W.kitOne K (.type "int") (.ref C) = some false
theorem fx_own {K : PySem.W.Frag} {x : Str} (c : Cls K (He.ga K x)) (h : (Fx.own x).ok K = true) : OwnC K (He.ga K x) := by
  obtain ⟨h1, h2, h3, h4, h5, h6⟩ := of_decide_eq_true h
  exact ⟨c, h1, h2, h3, h4, h5, h6⟩
section
variable {X : Cx} {ad : Str → Addr} {J : JP} {W : WX} {pos p p2 apos cpos : Pos} {a b e o : Expr} {es : List Expr} {m ma mb me mo : EM} {c : Str}
theorem notFirst_int {K : PySem.W.Frag} {C : Addr} : PySem.W.notFirst K C (.type "int") = true := by
  unfold PySem.W.notFirst
  rw [show PySem.W.subIn K (.type "int") (.ref C) = some false from rfl]
  rfl
theorem notFirst_same {K : PySem.W.Frag} {C : Addr} : PySem.W.notFirst K C (.ref C) = true := by
  unfold PySem.W.notFirst
  rw [show ((Value.ref C : Value) == Value.ref C) = true from beq_self_eq_true _]
  rfl
theorem eqo_run {pins : List (Addr × Obj)} {s : Shared} {σ : L2.St} {H : Hp} {Q : VK} {k : Nat} {g C : Addr} {fd : FuncData} {ps : List Str} {sp : Sp} {E : L2.St → XK} {x y : V} {u v : Value}
    (hs : PySem.W.findIn X.K (.ref C) "__eq__" = some (some (.ref g))) (hf : PySem.W.isFn X.K (.ref g) = true) (F : FnOk X.prog X.w X.K X.mg X.base (L2.CX X.prog X.w) k g fd ps sp) (hr : Room k X.A) (hb : Binds X.K fd ps [])
    (hx : ∀ σ, PassesAt (L2.CX X.prog X.w) X σ (E σ)) (hu : X.A.units < cLine) (I : Inv X pins σ H s) (rx : RelV x u) (ry : RelV y v)
    (hX : ∃ a dx fs, x = .ref a ∧ H a = some (.ins C dx fs)) (hY : (∃ i, y = .int i) ∨ ∃ a dx fs, y = .ref a ∧ H a = some (.ins C dx fs))
    (h : sp [x, y] H (fun v H' => ∃ b, v = .bl b ∧ Q (.bl b) H') (E σ)) : wpAny (model X.prog X.w) X.A (richCompare .Eq u v) (EP X pins σ Q) X.xe s := by
  obtain ⟨a, dx, fs, rfl, ha⟩ := hX
  cases rx
  obtain ⟨mA, J, _⟩ := ins_get I.hok ha
  obtain ⟨od, J, _⟩ := J.look
  obtain ⟨m, hF⟩ := I.fr
  have hcall : wpAny (model X.prog X.w) X.A (call (.ref g) [.ref a, v]) (PySem.W.CmpBack (EP X pins σ Q)) X.xe s := by
    refine wpAny_mono (run_fnSD (us := [.ref a, v]) (vs := [.ref a, y]) (dvs := []) (ds := []) F hr hb .nil (hx σ) I (.cons rfl (.cons ry .nil)) h) (fun v' s' q => ?_) fun _ _ x => x
    obtain ⟨z, H', I', rz, b, rfl, q⟩ := q
    cases rz
    exact ⟨.bl b, H', I', rfl, q⟩
  rcases hY with ⟨i, rfl⟩ | ⟨b, dy, gs, rfl, hb'⟩
  · obtain ⟨t, rfl⟩ := (show ∃ t, v = Value.int i t from ry)
    exact PySem.W.cmp_K (op := .Eq) (tb := .type "int") hu hF I.ok.mod.kin J (PySem.W.Looks.of_pure rfl) notFirst_int hs hf hcall
  · cases ry
    obtain ⟨mB, J', _⟩ := ins_get I.hok hb'
    obtain ⟨od', J', _⟩ := J'.look
    exact PySem.W.cmp_K (op := .Eq) (tb := .ref C) hu hF I.ok.mod.kin J J'.type notFirst_same hs hf hcall
theorem eqo_imp {n : Nat} {fm : FM} {σ : L2.St} {H : Hp} {Q : VK} (h : tE X.K ad J W (mEqO c (arity n fm) ma mb) σ H Q) :
    tE X.K ad J W ma σ H fun x H1 => tE X.K ad J W mb σ H1 fun y H2 => (∃ a dx fs, x = .ref a ∧ H2 a = some (.ins (ad c) dx fs)) ∧ ((∃ i, y = .int i) ∨ ∃ a dx fs, y = .ref a ∧ H2 a = some (.ins (ad c) dx fs)) ∧
      spM X.K ad n fm [x, y] H2 (fun v H' => ∃ b, v = .bl b ∧ Q (.bl b) H') (WE W σ) := by
  obtain ⟨S, r, L, O, j, rl, rs, q⟩ := h
  refine ⟨S, r, L, O, j, rl, rs, (Post.bind q).imp ?_⟩
  rintro x H1 ⟨S1, r1, d, O1, e1, s1, p1, q1⟩
  refine ⟨S1, r1, L, O1, J.mono e1.s j, rl.mono e1, s1, (Post.bind q1).imp ?_⟩
  rintro y H2 ⟨S2, r2, e, O2, e2, s2, p2, q2⟩
  have p1' := Rp.mono e2 d x p1
  cases d with
  | hdl n' =>
    replace q2 : Post X.K ad (fun S r => Rp X.K S r) W σ S2 r2 Q (match O2[n']? with
      | some (.ins c' _) => if c' = c ∧ othOk O2 c e = true then blR (arity n fm [.hdl n', e] O2) else .bad
      | _ => .bad) := q2
    split at q2
    · rename_i c' fs ho
      split at q2
      · rename_i hcc
        obtain ⟨rfl, hl⟩ := hcc
        obtain ⟨l, rfl, hr, hz, dx, gs, g1, g2⟩ := hdl_at s2 p1' ho
        refine ⟨⟨l, dx, gs, rfl, g1⟩, ?_, ?_⟩
        · cases e with
          | int i => exact .inl ⟨i, p2⟩
          | hdl m' =>
            replace hl : (match O2[m']? with | some (Ob.ins c'' _) => decide (c'' = c') | _ => false) = true := hl
            split at hl
            · rename_i c'' gs' ho'
              obtain rfl := of_decide_eq_true hl
              obtain ⟨l', rfl, _, _, dx', gs', g1', _⟩ := hdl_at s2 p2 ho'
              exact .inr ⟨l', dx', gs', rfl, g1'⟩
            · cases hl
          | non => cases hl
          | bl i => cases hl
          | str i => cases hl
          | lst i => cases hl
          | rol i => cases hl
          | tup i => cases hl
        · refine spM_ar s2 (.cons p1' (.cons p2 .nil)) ((Post.bind q2).imp ?_)
          rintro z H3 ⟨S3, r3, d3, O3, e3, s3, p3, q3⟩
          cases d3 with
          | bl b => exact ⟨b, p3, q3 S3 r3 H3 _ (Ext.refl _ _) s3 rfl⟩
          | non => exact q3.elim
          | int i => exact q3.elim
          | hdl i => exact q3.elim
          | str i => exact q3.elim
          | lst i => exact q3.elim
          | rol i => exact q3.elim
          | tup i => exact q3.elim
      · exact q2.elim
    · exact q2.elim
  | non => exact q2.elim
  | bl i => exact q2.elim
  | int i => exact q2.elim
  | str s => exact q2.elim
  | lst s => exact q2.elim
  | rol s => exact q2.elim
  | tup s => exact q2.elim
theorem de_eqO {k n : Nat} {g : Addr} {fd : FuncData} {ps : List Str} {fm : FM} (hm : Meth X.K (ad c) "__eq__" g) (F : FnOk X.prog X.w X.K X.mg X.base (L2.CX X.prog X.w) k g fd ps (spM X.K ad n fm)) (hr : Room k X.A) (hu : X.A.units + 64 < cLine)
    (hb : Binds X.K fd ps []) (tk : Takes X W) (ha : PE X a (tE X.K ad J W ma)) (hb' : PE X b (tE X.K ad J W mb)) (hmk : behindInMarks .Eq b = false) : PE X (.Compare a [.Eq] [b] pos) (tE X.K ad J W (mEqO c (arity n fm) ma mb)) := by
  refine ⟨fun pins s σ H Q I h => ?_⟩
  refine wpAny_Compare1 (thn (ha.run pins s σ H _ I (eqo_imp h)) fun v s1 ⟨x, H1, I1, r1, q1⟩ => thn (hb'.run pins s1 σ H1 _ I1 q1) fun u s2 ⟨y, H2, I2, r2, q2⟩ => ?_) hmk
  obtain ⟨h1, h2, h3⟩ := q2
  exact eqo_run hm.at_ hm.fn F hr hb (fun σ => passAt tk σ) (by omega) I2 r1 r2 h1 h2 h3
theorem dt_eqO {k n : Nat} {g : Addr} {fd : FuncData} {ps : List Str} {fm : FM} (hm : Meth X.K (ad c) "__eq__" g) (F : FnOk X.prog X.w X.K X.mg X.base (L2.CX X.prog X.w) k g fd ps (spM X.K ad n fm)) (hr : Room k X.A) (hu : X.A.units + 64 < cLine)
    (hb : Binds X.K fd ps []) (tk : Takes X W) (ha : PE X a (tE X.K ad J W ma)) (hb' : PE X b (tE X.K ad J W mb)) (hmk : behindInMarks .Eq b = false) : PT X (.Compare a [.Eq] [b] pos) (tT X.K ad J W (mTest (mEqO c (arity n fm) ma mb))) := by
  refine pt_imp (t := tTest (tE X.K ad J W (mEqO c (arity n fm) ma mb))) ⟨fun pins s σ H Q I h => ?_⟩ (test_imp fun _ _ _ h => h)
  refine wpAny_isTrue_Compare1 (thn (ha.run pins s σ H _ I (eqo_imp h)) fun v s1 ⟨x, H1, I1, r1, q1⟩ => thn (hb'.run pins s1 σ H1 _ I1 q1) fun u s2 ⟨y, H2, I2, r2, q2⟩ => ?_) hmk
  obtain ⟨h1, h2, h3⟩ := q2
  refine thn (eqo_run (Q := fun x H' => ∃ k, x = .bl k ∧ Q k H') hm.at_ hm.fn F hr hb (fun σ => passAt tk σ) (by omega) I2 r1 r2 h1 h2 h3) fun c s3 ⟨z, H3, I3, r3, k, e, q3⟩ => ?_
  subst e
  cases r3
  exact wpAny_truthy_bool ⟨H3, I3, q3⟩
theorem de_isO {x : Str} (C : OwnC X.K (ad c)) (hC : PE X (.Name x p2) (tC (.ref (ad c)))) (he : PE X e (tE X.K ad J W m)) (hg : Gl X "isinstance") (hm : X.mg "isinstance" = none) (hbv : bootBuiltins "isinstance" = some (.builtin "isinstance"))
    (hs1 : starEach (e :: [.Name x p2]) X.env = (false, eval e X.env) :: starEach [.Name x p2] X.env := by rfl) (hs2 : starEach (.Name x p2 :: []) X.env = (false, eval (.Name x p2) X.env) :: starEach [] X.env := by rfl)
    (hpl : (backTo pos (starEach [.Name x p2] X.env)).any (·.1) = false := by rfl) : PE X (.Call (.Name "isinstance" p) [e, .Name x p2] [] pos) (tE X.K ad J W (mIsO c m)) := by
  refine pe_imp (pe_callB call_isi hg hm hbv (pa_cons he (pa_cons hC pa_nil hs2) hs1) (by decide) (by decide) hs1 hpl) ?_
  rintro σ H Q ⟨S, r, L, O, j, rl, rs, q⟩
  refine ⟨S, r, L, O, j, rl, rs, (Post.bind q).imp ?_⟩
  rintro x H1 ⟨S1, r1, d, O1, e1, s1, p1, q1⟩
  cases d with
  | int i =>
    rw [show x = .int i from p1]
    exact ⟨.int i, .ref (ad c), _, _, false, rfl, .own (ad c), .base (.int i), C.int, q1 S1 r1 H1 _ (Ext.refl _ _) s1 rfl⟩
  | hdl n' =>
    replace q1 : Post X.K ad (fun S r => Rp X.K S r) W σ S1 r1 Q (match O1[n']? with
      | some (.ins c' _) => if c' = c then .ok (.bl true) O1 else .bad
      | _ => .bad) := q1
    split at q1
    · rename_i c' fs ho
      split at q1
      · rename_i hcc
        subst hcc
        obtain ⟨l, rfl, hr, hz, dx, gs, g1, g2⟩ := hdl_at s1 p1 ho
        exact ⟨.ref l, .ref (ad c'), _, _, true, rfl, .own (ad c'), .base (.ins g1 C.cl C.ha C.hn C.htk C.hm), C.me, q1 S1 r1 H1 _ (Ext.refl _ _) s1 rfl⟩
      · exact q1.elim
    · exact q1.elim
  | non => exact q1.elim
  | bl i => exact q1.elim
  | str s => exact q1.elim
  | lst s => exact q1.elim
  | rol s => exact q1.elim
  | tup s => exact q1.elim
end
/-! ### remove from a list of texts -/
theorem firstS_at : ∀ {ns : List Str} {k : Str}, k ∈ ns → ∃ j, j < ns.length ∧ ns[j]? = some k ∧ (∀ i, i < j → ns[i]? ≠ some k) ∧ ns.eraseIdx j = ns.erase k
  | [], k, h => absurd h (by simp)
  | a :: r, k, h => by
    by_cases e : a = k
    · refine ⟨0, Nat.succ_pos _, by rw [e] <;> rfl, fun i hi => absurd hi (Nat.not_lt_zero _), ?_⟩
      rw [e, List.erase_cons_head] <;> rfl
    · have hr : k ∈ r := by
        rcases List.mem_cons.mp h with z | z
        · exact absurd z.symm e
        · exact z
      obtain ⟨j, h1, h2, h3, h4⟩ := firstS_at hr
      refine ⟨j + 1, Nat.succ_lt_succ h1, h2, fun i hi => ?_, ?_⟩
      · cases i with
        | zero =>
          intro z
          exact e (Option.some.inj z)
        | succ i => exact h3 i (Nat.lt_of_succ_lt_succ hi)
      · rw [List.erase_cons_tail (by rw [beq_iff_eq]; exact e), ← h4] <;> rfl
theorem mt_removeS {X : Cx} : MtR X "list.remove" (fun x vs H Q => ∃ (l : Addr) (zs : List Str) (y : Str), x = .ref l ∧ vs = [.str y] ∧ H l = some (.lst (zs.map V.str)) ∧ y ∈ zs ∧ Q .non (upd H l (.lst ((zs.erase y).map V.str)))) := by
  intro pins s σ H x vs v us Q I rx rv h
  obtain ⟨l, zs, y, rfl, rfl, hH, hy, q⟩ := h
  cases rx
  cases rv with
  | cons ry rt =>
  rename_i uy ut
  cases rt
  obtain ⟨z, its, n, r, hl, e0⟩ := I.lstM hH
  obtain ⟨j, j1, j2, j3, j4⟩ := firstS_at hy
  have hnl : zs.length = its.length := by rw [← hl, List.length_map]
  have hj : j < its.length := by omega
  have fys : (zs.map V.str).all flatV = true := by
    rw [List.all_eq_true]
    intro x hx
    obtain ⟨w, _, rfl⟩ := List.mem_map.mp hx
    rfl
  have hsz : its.toArray.size ≤ sizeLine := by rw [List.size_toArray, ← hl]; exact z
  have at_ : ∀ (i : Nat) (hi : i < its.length), eqU (V.str y) its[i] = decide (zs[i]? = some y) := by
    intro i hi
    have hi' : i < zs.length := by omega
    have hz' : (zs.map V.str)[i]? = some (.str zs[i]) := by rw [List.getElem?_map, List.getElem?_eq_getElem hi']; rfl
    obtain ⟨u, hu, ru⟩ := r.get hz'
    rw [List.getElem?_eq_getElem hi] at hu
    rw [Option.some.inj hu, eqU_of ru rfl, List.getElem?_eq_getElem hi']
    show (zs[i] == y) = _
    by_cases z : zs[i] = y
    · rw [z]
      simp
    · rw [show (zs[i] == y) = false from beq_false_of_ne z]
      simp [z]
  refine call_meets PySem.F.slot_list_remove ⟨_, e0, rfl⟩ PySem.F.entry_list_remove (PySem.F.args_list_remove_2 _ _)
    (SeqAt.list_removeAt l its.toArray n none #[] uy (eqU (V.str y)) j (by rw [List.size_toArray]; exact hj) ?_ ?_ hsz) ⟨e0, fun u' hu' => mem_eqAt ry rfl r fys u' (by simpa using hu'), ?_⟩
  · show eqU (V.str y) its[j] = true
    rw [at_ j hj]
    exact decide_eq_true j2
  · intro i hi hlt
    have hi3 : i < its.length := by rw [List.size_toArray] at hi; exact hi
    show eqU (V.str y) its[i] = false
    rw [at_ i hi3]
    exact decide_eq_false (j3 i hlt)
  · have r2 : Vals ((zs.erase y).map V.str) (its.eraseIdx j) := by
      have w := r.eraseIdx j
      rw [← j4]
      have e1 : ∀ (ns : List Str) (j : Nat), (ns.map V.str).eraseIdx j = (ns.eraseIdx j).map V.str := by
        intro ns
        induction ns with
        | nil => intro j; rfl
        | cons a t ih =>
          intro j
          cases j with
          | zero => rfl
          | succ j => show V.str a :: (t.map V.str).eraseIdx j = _; rw [ih j]; rfl
      rw [← e1]
      exact w
    refine ⟨.non, _, I.lset (its' := its.eraseIdx j) hH e0 ?_ r2 ?_, rfl, q⟩
    · show its.toArray.eraseIdxIfInBounds j = (its.eraseIdx j).toArray
      rw [List.eraseIdxIfInBounds_toArray]
    · rw [List.length_map]
      have := List.length_erase_le (a := y) (l := zs)
      rw [List.length_map] at z
      omega
def gRemove : Store → Nat → List D → List D → Option (D × Store) := fun O n xs ds => match ds with
  | [.str y] => match strsOf xs with
    | some ss => if y ∈ ss then some (.non, O.set n (.lst ((ss.erase y).map .str))) else none
    | none => none
  | _ => none
theorem ml_remove {X : Cx} {ad : Str → Addr} : MethL X ad "list.remove" gRemove where
  ok := ⟨_, mt_removeS, fun S r O H n a xs us vs ds W σ Q rs hl hx hH z h p q => by
    unfold gRemove at q
    split at q
    · rename_i y
      obtain ⟨v, vr, rfl, rfl, rfl⟩ := p
      split at q
      · rename_i ss hss
        split at q
        · rename_i hi
          have e := strsOf_rp h hss
          subst e
          exact ⟨a, ss, y, rfl, rfl, hH, hi, q S r _ _ (Ext.refl _ _) (set_lst (vs := ss.map V.str) rs hl z (strs_rp _)) rfl⟩
        · exact q.elim
      · exact q.elim
    · exact q.elim⟩
end DK
end
section
set_option Elab.async false
set_option linter.all false
set_option autoImplicit false
set_option maxRecDepth 100000
set_option maxHeartbeats 4000000
/-! DKIdx: index of a text in a list of texts, by mirrors. -/
namespace DK
open PySem L2
/-- xs.index(s), s there -/
def mLIdx (mo mi : EM) : EM := fun L O => (mo L O).bind fun d O1 => match lsqOf O1 d with
  | some _ => (mi L O1).bind fun e O2 => match lsqOf O2 d, e with
    | some xs, .str s => match strsOf xs with
      | some ss => match ss.findIdx? (fun z => decide (z = s)) with
        | some j => .ok (.int (j : Int)) O2
        | none => .bad
      | none => .bad
    | _, _ => .bad
  | none => .bad
theorem eqV_str {a b : Str} : eqV (.str a) (.str b) = decide (a = b) := by
  show (a == b) = decide (a = b)
  by_cases z : a = b
  · rw [z]
    simp
  · rw [show (a == b) = false from beq_false_of_ne z]
    simp [z]
section
variable {X : Cx} {ad : Str → Addr} {J : JP} {W : WX} {apos cpos : Pos} {e o : Expr} {mo mi : EM}
theorem de_lidx (ho : PE X o (tE X.K ad J W mo)) (ha : PE X e (tE X.K ad J W mi))
    (hbase : attributeBase o "index" X.env (eval o X.env) = eval o X.env := by rfl)
    (hfew : ((backTo cpos (starEach [e] X.env)).all (fun x => !x.1) && (backToKw cpos (keywordEach [] X.env)).all (fun x => x.1.isSome)
      && decide (([e] : List Expr).length + ([] : List Keyword).length + (if ([] : List Keyword).isEmpty then 0 else 1) < 30)) = true := by rfl)
    (hline : (apos.endLine == cpos.line) = true := by rfl) (hs : starEach [e] X.env = (false, eval e X.env) :: starEach [] X.env := by rfl) (hplain : (backTo cpos (starEach [] X.env)).any (·.1) = false := by rfl) :
    PE X (.Call (.Attribute o "index" apos) [e] [] cpos) (tE X.K ad J W (mLIdx mo mi)) := by
  refine pe_imp (pe_bm PySem.F.plainAttrs_list PySem.F.slot_list_index PySem.F.type_list_index mt_index ho (da_cons ha da_nil hs) hbase hfew hline hs hplain) ?_
  rintro σ H Q ⟨S, r, L, O, j, rl, rs, q⟩
  refine ⟨S, r, L, O, j, rl, rs, (Post.bind q).imp ?_⟩
  rintro x H1 ⟨S1, r1, d, O1, e1, s1, p1, q1⟩
  split at q1
  · rename_i xs0 hx0
    obtain ⟨a, vs0, rfl, h1, h2⟩ := lsqOf_ok s1 p1 hx0
    refine ⟨.inl ⟨rfl, vs0, h1⟩, S1, r1, L, O1, J.mono e1.s j, rl.mono e1, s1, ?_⟩
    show Post X.K ad (fun S r => RpAll X.K S r) W σ S1 r1 _ ((mCons mi mNil) L O1)
    unfold mCons mNil
    generalize hz : mi L O1 = z at q1
    cases z with
    | bad => exact q1.elim
    | exc y O2 => exact q1
    | ok e' O2 =>
      intro S2 r2 H2 vs e2 s2 p2
      obtain ⟨v, vr, rfl, pv, rfl⟩ := p2
      simp only [Res.bind] at q1
      split at q1
      · rename_i xs s hx
        obtain ⟨a', vs, ea, g1, g2⟩ := lsqOf_ok s2 (Rp.mono e2 _ _ p1) hx
        cases ea
        split at q1
        · rename_i ss hss
          split at q1
          · rename_i jj hj
            have ev := strsOf_rp g2 hss
            subst ev
            obtain ⟨hlt, hjs, hno⟩ := List.findIdx?_eq_some_iff_getElem.mp hj
            rw [show v = .str s from pv]
            refine ⟨a, ss.map V.str, .str s, jj, .str ss[jj], rfl, rfl, g1, rfl, ?_, by rw [List.getElem?_map, List.getElem?_eq_getElem hlt]; rfl, by rw [eqV_str]; exact hjs, fun m z' hm hz' => ?_, q1 S2 r2 H2 _ e2 s2 rfl⟩
            · rw [List.all_eq_true]
              intro x hx
              obtain ⟨w, _, rfl⟩ := List.mem_map.mp hx
              rfl
            · rw [List.getElem?_map] at hz'
              obtain ⟨w, hw, rfl⟩ := Option.map_eq_some_iff.mp hz'
              have hml : m < ss.length := by omega
              rw [List.getElem?_eq_getElem hml] at hw
              cases hw
              rw [eqV_str]
              have := hno m hm
              simpa using this
          · exact q1.elim
        · exact q1.elim
      · exact q1.elim
  · exact q1.elim
end
/-- xs.index(s), xs a tuple of texts of the module, s there -/
def mTIdx (ss : List Str) (mi : EM) : EM := fun L O => (mi L O).bind fun e O2 => match e with
  | .str s => match ss.findIdx? (fun z => decide (z = s)) with
    | some j => .ok (.int (j : Int)) O2
    | none => .bad
  | _ => .bad
section
variable {X : Cx} {ad : Str → Addr} {J : JP} {W : WX} {apos cpos np : Pos} {e : Expr} {mi : EM} {x : Str} {a : Addr} {ss : List Str}
theorem de_tidx (hg : Gl X x) (hm : X.mg x = some (.ref a)) (hdb : (x == ("__debug__" : Str)) = false) (hT : ∃ o, X.K.lookup a = some o ∧ o.cls = .type "tuple" ∧ o.dict = none) (hS : ∀ S r, Rp X.K S r (.tup (ss.map .str)) (.ref a)) (ha : PE X e (tE X.K ad J W mi))
    (hbase : attributeBase (.Name x np) "index" X.env (eval (.Name x np) X.env) = eval (.Name x np) X.env := by rfl)
    (hfew : ((backTo cpos (starEach [e] X.env)).all (fun x => !x.1) && (backToKw cpos (keywordEach [] X.env)).all (fun x => x.1.isSome)
      && decide (([e] : List Expr).length + ([] : List Keyword).length + (if ([] : List Keyword).isEmpty then 0 else 1) < 30)) = true := by rfl)
    (hline : (apos.endLine == cpos.line) = true := by rfl) (hs : starEach [e] X.env = (false, eval e X.env) :: starEach [] X.env := by rfl) (hplain : (backTo cpos (starEach [] X.env)).any (·.1) = false := by rfl) :
    PE X (.Call (.Attribute (.Name x np) "index" apos) [e] [] cpos) (tE X.K ad J W (mTIdx ss mi)) := by
  refine pe_imp (pe_bm PySem.F.plainAttrs_tuple PySem.F.slot_tuple_index PySem.F.type_tuple_index mt_tup_index (pe_glob (v := .ref a) hg hm rfl hdb) (da_cons ha da_nil hs) hbase hfew hline hs hplain) ?_
  rintro σ H Q ⟨S, r, L, O, j, rl, rs, q⟩
  refine ⟨.inr (.inl ⟨rfl, hT⟩), S, r, L, O, j, rl, rs, ?_⟩
  show Post X.K ad (fun S r => RpAll X.K S r) W σ S r _ ((mCons mi mNil) L O)
  unfold mTIdx at q
  unfold mCons mNil
  generalize hz : mi L O = z at q
  cases z with
  | bad => exact q.elim
  | exc y O2 => exact q
  | ok e' O2 =>
    intro S2 r2 H2 vs e2 s2 p2
    obtain ⟨v, vr, rfl, pv, rfl⟩ := p2
    simp only [Res.bind] at q
    split at q
    · rename_i s
      split at q
      · rename_i jj hj
        obtain ⟨hlt, hjs, hno⟩ := List.findIdx?_eq_some_iff_getElem.mp hj
        obtain ⟨a', us, ea, g1, g2⟩ := hS S2 r2
        cases ea
        have ev := strsOf_rp (ns := ss) g2 (by
          clear hS hj hlt hjs hno g2
          induction ss with
          | nil => rfl
          | cons y ys ih =>
            show (strsOf (ys.map D.str)).map (y :: ·) = _
            rw [ih]
            rfl)
        subst ev
        rw [show v = .str s from pv]
        refine ⟨a, ss, s, jj, rfl, rfl, ?_, ?_, ?_, q S2 r2 H2 _ e2 s2 rfl⟩
        · exact sqT_same s2.sub g1
        · rw [List.getElem?_eq_getElem hlt, of_decide_eq_true hjs]
        · intro m hm hz'
          have hml : m < ss.length := by omega
          rw [List.getElem?_eq_getElem hml] at hz'
          have := hno m hm
          rw [Option.some.inj hz'] at this
          simp at this
      · exact q.elim
    · exact q.elim
end
end DK
end
section
set_option Elab.async false
set_option linter.all false
set_option autoImplicit false
set_option maxRecDepth 100000
set_option maxHeartbeats 4000000
/-! DKMany: several except clauses, by mirrors; suites that are never asked. -/
namespace DK
open PySem L2
/-- a clause: which classes it takes, and its suite's mirrors -/
structure HdM where
  sub : Str → Option Bool
  ss : Str → SM
def cleanS : SR → SR
  | .next L O => .next L O
  | .ret d O => .ret d O
  | .brk L O => .brk L O
  | .cnt L O => .cnt L O
  | _ => .bad
def manyM : List HdM → Str → SM
  | [], c => fun L O => .exc ⟨c, none⟩ L O
  | h :: r, c => fun L O => match h.sub c with
    | some true => cleanS (h.ss c L O)
    | some false => manyM r c L O
    | none => .bad
def sTryM (hs : List HdM) (b : SM) : SM := fun L O => match b L O with
  | .next L1 O1 => .next L1 O1
  | .ret d O1 => .ret d O1
  | .brk L1 O1 => .brk L1 O1
  | .cnt L1 O1 => .cnt L1 O1
  | .exc ⟨c, none⟩ L1 O1 => manyM hs c L1 O1
  | .exc ⟨_, some _⟩ _ _ => .bad
  | .bad => .bad
section
variable {X : Cx} {ad : Str → Addr} {J : JP} {W : WX} {pos : Pos} {body : List Stmt} {sb : SM} {st : List Stmt}
theorem dss_bad : PSs X st (tS X.K ad J W (fun _ _ => .bad)) := ⟨fun pins s σ H En I ⟨S, r, L, O, j, rl, rs, z⟩ => z.elim⟩
/-- the clauses, one by one -/
inductive HdsD (X : Cx) (ad : Str → Addr) : List ExceptHandler → List HdM → List (Value × (Addr → Value → Option Addr → TS)) → Prop
  | nil : HdsD X ad [] [] []
  | cons {x : Str} {cv : Value} {h : HdM} {b0 : Stmt} {suite : List Stmt} {np pos' : Pos} {hds : List ExceptHandler} {ms : List HdM} {l : List (Value × (Addr → Value → Option Addr → TS))} (hc : Names X x cv)
      (hsub : ∀ nm b, h.sub nm = some b → PySem.W.exmOne X.K (.ref (ad nm)) cv = some b)
      (hsu : ∀ (nm : Str) (a : Addr) (oe : Obj) (pn : List (Addr × Obj)), h.sub nm = some true → Zc (.ref (ad nm)) none oe → (∃ vs, oe.data = .fields vs) → PSs (X.suite a ((a, oe) :: pn)) (b0 :: suite) (tS X.K ad JT WF (h.ss nm)))
      (r : HdsD X ad hds ms l) : HdsD X ad (.ExceptHandler (some (.Name x np)) none (b0 :: suite) pos' :: hds) (h :: ms)
        ((cv, fun a cls d En σ H => ∃ nm : Str, (cls = .ref (ad nm) ∧ d = none ∧ h.sub nm = some true) ∧ tS X.K ad JT WF (h.ss nm) En σ H) :: l)
theorem HdsD.ok {hds : List ExceptHandler} {ms : List HdM} {l : List (Value × (Addr → Value → Option Addr → TS))} (k : HdsD X ad hds ms l) : HdsOk X hds l := by
  induction k with
  | nil => exact .nil
  | cons hc hsub hsu r ih =>
    refine .cons hc (fun a oe cls d pn hz hfl => ?_) ih
    exact pss_ex fun nm hp => by
      obtain ⟨rfl, rfl, h3⟩ := hp
      exact hsu nm a oe pn h3 hz hfl
theorem many_imp {hds : List ExceptHandler} {ms : List HdM} {l : List (Value × (Addr → Value → Option Addr → TS))} (k : HdsD X ad hds ms l) {S : Hp} {r : Rg} {En : Ends} {nm : Str} {L1 : Loc} {O1 : Store}
    (z : PostS X.K ad JT W S r En (manyM ms nm L1 O1)) {S1 : Hp} {r1 : Rg} {σ1 : L2.St} {H1 : Hp} (e1 : Ext S r S1 r1) (l1 : Rl X.K S1 r1 L1 σ1) (s1 : Rs X.K ad S1 r1 O1 H1) : wMany X.K W En l (.ref (ad nm)) none σ1 H1 := by
  induction k with
  | nil => exact z S1 r1 σ1 H1 none e1 trivial l1 s1 rfl
  | @cons x cv h b0 suite np pos' hds ms l hc hsub hsu rr ih =>
    replace z : PostS X.K ad JT W S r En (match h.sub nm with
      | some true => cleanS (h.ss nm L1 O1)
      | some false => manyM ms nm L1 O1
      | none => .bad) := z
    cases hsc : h.sub nm with
    | none => rw [hsc] at z; exact z.elim
    | some b =>
      rw [hsc] at z
      refine ⟨b, hsub nm b hsc, fun hbt a ha => ?_, fun hbf => ?_⟩
      · subst hbt
        replace z : PostS X.K ad JT W S r En (cleanS (h.ss nm L1 O1)) := z
        refine ⟨nm, ⟨rfl, rfl, hsc⟩, S1, r1, L1, O1, trivial, l1, s1, ?_⟩
        generalize h.ss nm L1 O1 = y at z
        cases y with
        | next L2 O2 => exact fun S2 r2 σ2 H2 e2 j2 l2 s2 => z S2 r2 _ H2 (e1.trans e2) trivial l2 s2
        | ret d O2 => exact fun S2 r2 H2 v e2 s2 p2 => z S2 r2 H2 v (e1.trans e2) s2 p2
        | brk L2 O2 => exact fun S2 r2 σ2 H2 e2 j2 l2 s2 => z S2 r2 _ H2 (e1.trans e2) trivial l2 s2
        | cnt L2 O2 => exact fun S2 r2 σ2 H2 e2 j2 l2 s2 => z S2 r2 _ H2 (e1.trans e2) trivial l2 s2
        | exc x L2 O2 => exact z.elim
        | bad => exact z.elim
      · subst hbf
        exact ih z
theorem ds_try_many {h0 : ExceptHandler} {hds : List ExceptHandler} {ms : List HdM} {l : List (Value × (Addr → Value → Option Addr → TS))} (hs : X.stack = X.env :: X.outer) (hf : X.env.frame = some X.env.locals) (tk : Takes X W)
    (hb : ∀ (W : WX) (pn : List (Addr × Obj)) (xe : Value → Shared → Prop), Takes (X.tr pn xe) W → PassesOwn (model X.prog X.w) X.A X.env xe → PSs (X.tr pn xe) body (tS X.K ad JT W sb))
    (hh : HdsD X ad (h0 :: hds) ms l) : PS X (.Try body (h0 :: hds) [] [] pos) (tS X.K ad JT W (sTryM ms sb)) := by
  refine ps_imp (ps_try_many (tb := fun W => tS X.K ad JT W sb) hs hf tk hb hh.ok) ?_
  rintro En σ H ⟨S, r, L, O, j, rl, rs, z⟩
  refine ⟨S, r, L, O, j, rl, rs, ?_⟩
  unfold sTryM at z
  generalize sb L O = y at z
  cases y with
  | next L O => exact z
  | ret L O => exact z
  | brk L O => exact z
  | cnt L O => exact z
  | bad => exact z.elim
  | exc x L1 O1 =>
    obtain ⟨nm, fs⟩ := x
    cases fs with
    | some fs => exact z.elim
    | none =>
      replace z : PostS X.K ad JT W S r En (manyM ms nm L1 O1) := z
      intro S1 r1 σ1 H1 d e1 j1 l1 s1 hd
      obtain rfl : d = none := hd
      exact many_imp hh z e1 l1 s1
end
end DK
end
section
set_option Elab.async false
set_option linter.all false
set_option autoImplicit false
set_option maxRecDepth 100000
set_option maxHeartbeats 4000000
/-! DKSortD: sorted and min of lists of alike data (tuples of ints and texts, any length), by mirrors. -/
namespace DK
open PySem PySem.Spec PyProof.Rows L2 PySem.W
abbrev encD (O : Store) (d : D) : PyData := (deep O 20 d).getD .none
def alikeB (ds : List PyData) : Bool := ds.all fun d => ds.all fun d' => alike d d'
def isTup1 : PyData → Bool
  | .tuple (_ :: _) => true
  | _ => false
def isOth : PyData → Bool
  | .tuple _ => false
  | .none => false
  | _ => true
def sortB (ds : List PyData) : Bool := ds.all isTup1 || ds.all isOth
theorem alikeB_ok {ds : List PyData} (h : alikeB ds = true) : AllAlike ds := fun d hd d' hd' => List.all_eq_true.mp (List.all_eq_true.mp h d hd) d' hd'
theorem sortB_ok {ds : List PyData} (h : sortB ds = true) : Sortable ds := by
  rcases Bool.or_eq_true_iff.mp h with h | h
  · refine .inl fun d hd => ?_
    have := List.all_eq_true.mp h d hd
    unfold isTup1 at this
    split at this
    · exact ⟨_, _, rfl⟩
    · cases this
  · refine .inr fun d hd => ?_
    have := List.all_eq_true.mp h d hd
    refine ⟨fun e => ?_, fun xs e => ?_⟩
    · subst e; cases this
    · subst e; cases this
/-- sorted: of a list of alike data -/
def gSortD (h : Bool) : Store → D → Option (D × Store) := fun O d => match lsqOf O d with
  | some xs => if (xs.all fun x => (deep O 20 x).isSome) = true ∧ alikeB (xs.map (encD O)) = true ∧ sortB (xs.map (encD O)) = true ∧ (xs.all fun x => decide ((encD O x).depth ≤ 40)) = true
      then newLO h (xs.mergeSort (dataLe false (encD O))) O else none
  | none => none
def rSortD (K : PySem.W.Frag) : List V → Hp → VK → Prop := fun vs H Q => ∃ (a : Addr) (xs : List V) (bs : List D) (enc : D → PyData) (T : V → D → Prop), vs = [V.ref a] ∧ SqL K H a xs ∧ EachIs T xs bs ∧ EachIs (fun v b => Dp K H v (enc b)) xs bs ∧ AllAlike (bs.map enc) ∧ Sortable (bs.map enc) ∧
  (∀ b, b ∈ bs → (enc b).depth ≤ 40) ∧ ∀ (zs : List V) (p : Addr), EachIs T zs (bs.mergeSort (dataLe false enc)) → H p = none → Q (.ref p) (upd H p (.lst zs))
theorem each_vals {T : V → D → Prop} : ∀ {xs : List V} {its : List Value} {bs : List D}, Vals xs its → EachIs T xs bs → EachIs (fun u b => ∃ v, RelV v u ∧ T v b) its bs
  | _, _, _, .nil, .nil => .nil
  | _, _, _, .cons r rt, .cons t tt => .cons ⟨_, r, t⟩ (each_vals rt tt)
theorem vals_each {T : V → D → Prop} : ∀ {its : List Value} {bs : List D}, EachIs (fun u b => ∃ v, RelV v u ∧ T v b) its bs → ∃ zs, Vals zs its ∧ EachIs T zs bs
  | _, _, .nil => ⟨[], .nil, .nil⟩
  | _, _, .cons h t => by
    obtain ⟨v, r, tv⟩ := h
    obtain ⟨zs, q1, q2⟩ := vals_each t
    exact ⟨v :: zs, .cons r q1, .cons tv q2⟩
theorem each_reads {X : Cx} {pins : List (Addr × Obj)} {σ : L2.St} {H : Hp} {s : Shared} {enc : D → PyData} (I : Inv X pins σ H s) : ∀ {xs : List V} {its : List Value} {bs : List D}, Vals xs its → EachIs (fun v b => Dp X.K H v (enc b)) xs bs → EachIs (fun u b => ∃ as, Reads s.heap u (enc b) as) its bs
  | _, _, _, .nil, .nil => .nil
  | _, _, _, .cons r rt, .cons t tt => .cons (Dp.reads I _ _ _ t r) (each_reads I rt tt)
theorem each_len {α β : Type} {T : α → β → Prop} : ∀ {xs : List α} {bs : List β}, EachIs T xs bs → xs.length = bs.length
  | _, _, .nil => rfl
  | _, _, .cons _ t => by rw [List.length_cons, List.length_cons, each_len t]
theorem call_sortD {X : Cx} (hu : X.A.units + 64 < cLine) : CallR X (.builtin "sorted") (rSortD X.K) := by
  intro pins s σ H vs us Q I r h
  obtain ⟨a, xs, bs, enc, T, rfl, hs, hT, hD, hal, hk, hdp, q⟩ := h
  obtain ⟨its, rv, hl, hz⟩ := I.list hs
  rw [Vals.ref1 r]
  have hlen : bs.length ≤ sizeLine := by rw [← each_len hT]; exact hz
  refine sorted_data hl.isList (each_vals rv hT) (each_reads I rv hD) hal hk hlen (fun b hb => by have := hdp b hb; omega) fun out ho eo => ?_
  obtain ⟨zs, q1, q2⟩ := vals_each eo
  obtain ⟨ep, he'⟩ := PyProof.Rows.sortedAll_at s.heap its out.toArray
  have hlz : zs.length ≤ sizeLine := by rw [q1.length, ho]; exact hlen
  exact ⟨.ref _, upd H (s.heap.objs.size + 1) (.lst zs), I.laid (t' := s.toks) (fun _ _ => PyProof.Rows.sortedAll_old) (Nat.le_succ _) ⟨hlz, out, ep, q1, he'⟩, rfl, q _ _ q2 (I.hok.fresh (Nat.le_succ _))⟩
theorem each_rp {K : PySem.W.Frag} {S : Hp} {r : Rg} : ∀ {ds : List D} {vs : List V}, RpAll K S r ds vs → EachIs (fun v b => Rp K S r b v) vs ds
  | [], vs, h => by rw [show vs = [] from h]; exact .nil
  | d :: ds, vs, h => by
    obtain ⟨v, vr, rfl, h1, h2⟩ := h
    exact .cons h1 (each_rp h2)
theorem rp_each {K : PySem.W.Frag} {S : Hp} {r : Rg} : ∀ {vs : List V} {ds : List D}, EachIs (fun v b => Rp K S r b v) vs ds → RpAll K S r ds vs
  | _, _, .nil => rfl
  | _, _, .cons h t => ⟨_, _, rfl, h, rp_each t⟩
theorem each_dp {K : PySem.W.Frag} {ad : Str → Addr} {S : Hp} {r : Rg} {O : Store} {H : Hp} (rs : Rs K ad S r O H) : ∀ {ds : List D} {vs : List V}, RpAll K S r ds vs → (ds.all fun x => (deep O 20 x).isSome) = true → EachIs (fun v b => Dp K H v (encD O b)) vs ds
  | [], vs, h, _ => by rw [show vs = [] from h]; exact .nil
  | d :: ds, vs, h, hd => by
    obtain ⟨v, vr, rfl, h1, h2⟩ := h
    rw [List.all_cons, Bool.and_eq_true_iff] at hd
    obtain ⟨p, hp⟩ := Option.isSome_iff_exists.mp hd.1
    refine .cons ?_ (each_dp rs h2 hd.2)
    show Dp K H v ((deep O 20 d).getD .none)
    rw [hp]
    exact deep_ok rs 20 d v p h1 hp
section
variable {X : Cx} {ad : Str → Addr}
theorem cd_sortD (h : Bool) (hu : X.A.units + 64 < cLine) : CallD X ad (.builtin "sorted") (g1 (gSortD h)) := cd_1 (call_sortD hu) fun S r O H x d W σ Q rs p q => by
  unfold gSortD at q
  split at q
  · rename_i xs hx
    obtain ⟨a, vs, rfl, h1, h2⟩ := lsqOf_ok rs p hx
    split at q
    · rename_i hc
      rw [ofO_newLO] at q
      refine ⟨a, vs, xs, encD O, fun v b => Rp X.K S r b v, rfl, h1, each_rp h2, each_dp rs h2 hc.1, alikeB_ok hc.2.1, sortB_ok hc.2.2.1, fun b hb => of_decide_eq_true (List.all_eq_true.mp hc.2.2.2 b hb), fun zs p hz hn => ?_⟩
      exact (newL_post rs (rp_each hz) q).2 p hn
    · exact q.elim
  · exact q.elim
end
/-! ### min -/
def decA : PyData → Option D
  | .none => some .non
  | .bool b => some (.bl b)
  | .int i => some (.int i)
  | .str s => some (.str s)
  | _ => none
def decD : PyData → Option D
  | .tuple ps => (ps.mapM decA).map .tup
  | p => decA p
def atomB : D → Bool
  | .non => true
  | .bl _ => true
  | .int _ => true
  | .str _ => true
  | _ => false
def flatT : D → Bool
  | .tup xs => xs.all atomB
  | d => atomB d
theorem dec_atom {O : Store} {d : D} {n : Nat} (h : atomB d = true) : ∃ p, deep O (n + 1) d = some p ∧ decA p = some d ∧ ∀ ps, p ≠ .tuple ps := by
  cases d with
  | non => exact ⟨_, rfl, rfl, fun _ z => by cases z⟩
  | bl b => exact ⟨_, rfl, rfl, fun _ z => by cases z⟩
  | int b => exact ⟨_, rfl, rfl, fun _ z => by cases z⟩
  | str b => exact ⟨_, rfl, rfl, fun _ z => by cases z⟩
  | lst b => cases h
  | rol b => cases h
  | tup b => cases h
  | hdl b => cases h
theorem dec_atoms {O : Store} {n : Nat} : ∀ {ds : List D}, ds.all atomB = true → ∃ ps, ds.mapM (deep O (n + 1)) = some ps ∧ ps.mapM decA = some ds
  | [], _ => ⟨[], rfl, rfl⟩
  | d :: ds, h => by
    rw [List.all_cons, Bool.and_eq_true_iff] at h
    obtain ⟨p, e1, e2, _⟩ := dec_atom (O := O) (n := n) h.1
    obtain ⟨ps, e3, e4⟩ := dec_atoms (O := O) (n := n) h.2
    exact ⟨p :: ps, by rw [mapM_cons, e1, e3]; rfl, by rw [mapM_cons, e2, e4]; rfl⟩
theorem dec_enc {O : Store} {d : D} (h : flatT d = true) : (deep O 20 d).isSome = true ∧ decD (encD O d) = some d := by
  by_cases c : ∃ xs, d = .tup xs
  · obtain ⟨xs, rfl⟩ := c
    obtain ⟨ps, e1, e2⟩ := dec_atoms (O := O) (n := 18) (ds := xs) h
    have e : deep O 20 (.tup xs) = some (.tuple ps) := by
      show (xs.mapM (deep O 19)).map PyData.tuple = _
      rw [e1]
      rfl
    refine ⟨by rw [e]; rfl, ?_⟩
    unfold encD
    rw [e]
    show (ps.mapM decA).map D.tup = _
    rw [e2]
    rfl
  · have h' : atomB d = true := by
      cases d with
      | tup xs => exact absurd ⟨xs, rfl⟩ c
      | _ => exact h
    obtain ⟨p, e1, e2, e3⟩ := dec_atom (O := O) (n := 19) h'
    refine ⟨by rw [e1]; rfl, ?_⟩
    unfold encD
    rw [e1]
    show decD p = _
    unfold decD
    split
    · rename_i ps
      exact absurd rfl (e3 ps)
    · exact e2
def minOk (O : Store) (xs : List D) : Bool := xs.all flatT && alikeB (xs.map (encD O)) && sortB (xs.map (encD O)) && decide (PyData.depthAll (xs.map (encD O)) ≤ 40)
/-- min: of a list of alike data, each a tuple of scalars or a scalar -/
def gMinD : Store → D → Option (D × Store) := fun O d => match lsqOf O d with
  | some (x :: xs) => if minOk O (x :: xs) = true then (decD (minD (encD O x) (xs.map (encD O)))).map fun b => (b, O) else none
  | _ => none
theorem minD_mem : ∀ (xs : List PyData) (x : PyData), minD x xs ∈ x :: xs
  | [], x => List.mem_cons_self
  | y :: ys, x => by
    show List.foldl (fun a y => if dataLt y a then y else a) (if dataLt y x then y else x) ys ∈ _
    have := minD_mem ys (if dataLt y x then y else x)
    unfold minD at this
    rcases List.mem_cons.mp this with e | e
    · rw [e]
      split
      · exact List.mem_cons_of_mem _ List.mem_cons_self
      · exact List.mem_cons_self
    · exact List.mem_cons_of_mem _ (List.mem_cons_of_mem _ e)
def rMinD (K : PySem.W.Frag) : List V → Hp → VK → Prop := fun vs H Q => ∃ (a : Addr) (xs : List V) (b0 : D) (br : List D) (enc : D → PyData) (T : V → D → Prop), vs = [V.ref a] ∧ SqL K H a xs ∧ EachIs T xs (b0 :: br) ∧ EachIs (fun v b => Dp K H v (enc b)) xs (b0 :: br) ∧
  AllAlike ((b0 :: br).map enc) ∧ (∀ p ∈ (b0 :: br).map enc, p ≠ .none) ∧ PyData.depthAll ((b0 :: br).map enc) ≤ 40 ∧ ∀ v b, T v b → b ∈ b0 :: br → enc b = minD (enc b0) (br.map enc) → Q v H
theorem each_at {α β : Type} {T : α → β → Prop} : ∀ {xs : List α} {bs : List β}, EachIs T xs bs → ∀ {i : Nat} {x : α}, xs[i]? = some x → ∃ b, bs[i]? = some b ∧ T x b
  | _, _, .nil, i, x, e => by simp at e
  | _, _, .cons h t, 0, x, e => by cases e; exact ⟨_, rfl, h⟩
  | _, _, .cons h t, i + 1, x, e => each_at t (i := i) (by simpa using e)
theorem call_minD {X : Cx} (hc : X.calm = true) (hu : X.A.units + 64 < cLine) : CallR X (.builtin "min") (rMinD X.K) := by
  intro pins s σ H vs us Q I r h
  obtain ⟨a, xs, b0, br, enc, T, rfl, hs, hT, hD, hal, hn, hdp, q⟩ := h
  obtain ⟨its, rv, hl, hz⟩ := I.list hs
  rw [Vals.ref1 r]
  have eR := each_reads I rv hD
  have eT := each_vals rv hT
  obtain ⟨as, hr⟩ := each_readsAll enc eR
  refine min_list_data (vs := its.toArray) (x := enc b0) (xs := br.map enc) (I.ok.hd hc) hl.isList hr ⟨fun x hx y hy => hal x hx y hy, hn⟩ (by
    have : PyData.depthAll (enc b0 :: br.map enc) ≤ 40 := hdp
    omega) fun i u h' tk bs hu' hrd hk => ?_
  have hu2 : its[i]? = some u := by simpa using hu'
  obtain ⟨b, hb, v0, r0, t0⟩ := each_at eT hu2
  obtain ⟨b', hb', as', r1⟩ := each_at eR hu2
  rw [hb] at hb'
  cases hb'
  have hbm : b ∈ b0 :: br := List.mem_of_getElem? hb
  have e : enc b = minD (enc b0) (br.map enc) := alike_unique (enc b) _ u _ _ (hal _ (List.mem_map.mpr ⟨b, hbm, rfl⟩) _ (minD_mem _ _)) (reads_keeps hk r1) hrd
  exact ⟨v0, H, I.kept (t' := tk) hk, r0, q v0 b t0 hbm e⟩
section
variable {X : Cx} {ad : Str → Addr}
theorem cd_minD (hc : X.calm = true) (hu : X.A.units + 64 < cLine) : CallD X ad (.builtin "min") (g1 gMinD) := cd_1 (call_minD hc hu) fun S r O H x d W σ Q rs p q => by
  unfold gMinD at q
  split at q
  · rename_i x xs hx
    obtain ⟨a, vs, rfl, h1, h2⟩ := lsqOf_ok rs p hx
    split at q
    · rename_i hm
      unfold minOk at hm
      simp only [Bool.and_eq_true, decide_eq_true_eq] at hm
      obtain ⟨⟨⟨m1, m2⟩, m3⟩, m4⟩ := hm
      have hdp : ((x :: xs).all fun x => (deep O 20 x).isSome) = true := List.all_eq_true.mpr fun b hb => (dec_enc (List.all_eq_true.mp m1 b hb)).1
      refine ⟨a, vs, x, xs, encD O, fun v b => Rp X.K S r b v, rfl, h1, each_rp h2, each_dp rs h2 hdp, alikeB_ok m2, fun p hp e => ?_, m4, fun v b hv hb e => ?_⟩
      · rcases sortB_ok m3 with z | z
        · obtain ⟨y, r, e2⟩ := z p hp
          rw [e] at e2
          cases e2
        · exact (z p hp).1 e
      · have e2 := (dec_enc (O := O) (List.all_eq_true.mp m1 b hb)).2
        rw [e] at e2
        rw [e2] at q
        exact q S r H v (Ext.refl _ _) rs hv
    · exact q.elim
  · exact q.elim
end
/-! ### sorted of a dict by texts, any length -/
theorem leS_data : dataLe false PyData.str = leS := by
  have e := dataLe_str (β := Str) (fun s => s)
  rw [show (fun b : Str => PyData.str b) = PyData.str from rfl] at e
  rw [e]
  funext a b
  show decide (a.cps.toList ≤ b.cps.toList) = !decide (b.cps.toList < a.cps.toList)
  exact (not_lt_str _ _).symm
theorem strs_each : ∀ {vs : List Value} {ks : List Str}, StrsAre vs ks → EachIs (fun v s => ∃ t, v = Value.str s t) vs ks
  | _, _, .nil => .nil
  | _, _, .cons s t h => .cons ⟨t, rfl⟩ (strs_each h)
theorem each_strs : ∀ {vs : List Value} {ks : List Str}, EachIs (fun v s => ∃ t, v = Value.str s t) vs ks → Vals (ks.map V.str) vs
  | _, _, .nil => .nil
  | _, _, .cons ⟨t, e⟩ h => by
    subst e
    exact .cons ⟨t, rfl⟩ (each_strs h)
theorem call_sortedDA {X : Cx} (hcalm : X.calm = true) (hu : X.A.units + 64 < cLine) : CallR X (.builtin "sorted") (fun xs H Q => ∃ (a : Addr) (kvs : List (Key × V)) (ks : List Str), xs = [.ref a] ∧ L2.Rd H a (.dK kvs) ∧ kvs.map (·.1) = ks.map Sum.inr ∧
    ∀ p, H p = none → Q (.ref p) (upd H p (.lst ((sortS ks).map V.str)))) := by
  intro pins s σ H xs us Q I r q
  obtain ⟨a, kvs, ks, ex, hd, hks, q⟩ := q
  subst ex
  obtain ⟨u, eu, rx⟩ := vals1 r
  subst eu
  cases rx
  obtain ⟨z, lo, vs, rel, dd⟩ := dk_rd I.hok hd
  obtain ⟨ep, hat⟩ := dd.dictAt
  have hkeys : vs.map (·.1) = ks.map Sum.inr := rel.keys.symm.trans hks
  have hl : vs.length = ks.length := by
    have e := congrArg List.length hkeys
    rw [List.length_map, List.length_map] at e
    exact e
  have h16 : vs.length ≤ sizeLine := by
    have := rel.length
    rw [← this]
    exact z
  refine Calls.call_function_entry PyProof.Rows.kind_sorted PyProof.Rows.plain_sorted PyProof.Rows.entry_sorted (PyProof.Rows.args_sorted1 _) ?_
  unfold Builtin.«sorted»
  refine wpAny_bind (m := checkCount "sorted" 1 1 _) (wpAny_pure ?_)
  refine wpAny_bind (PySem.W.kdu_collect (A := X.A.in1) (PySem.W.kdl_dict (knd := mixKind X.prog X.w) (kvs := vs) (ep := ep) lo) (I.ok.hd hcalm) hat h16 fun h' tk acc hk hacc => ?_)
  have hal : acc.toList.length = ks.length := by rw [Array.length_toList, hacc.1, hl]
  have hS : StrsAre acc.toList ks := strs_at hal fun j v e => by
    obtain ⟨k, x, e1, e2⟩ := hacc.2 j v (by rw [← Array.getElem?_toList]; exact e)
    have e3 : (vs.map (·.1))[j]? = some k := by rw [List.getElem?_map, e1]; all_goals rfl
    rw [hkeys, List.getElem?_map] at e3
    cases e4 : ks[j]? with
    | none => rw [e4] at e3; cases e3
    | some y =>
      rw [e4] at e3
      have e5 : Sum.inr y = k := Option.some.inj e3
      subst e5
      obtain ⟨t, ev⟩ := Value.isStrOf_shape (x := y) (v := v) e2
      exact ⟨y, t, rfl, ev⟩
  have I1 : Inv X pins σ H { s with heap := h', toks := tk } := I.kept hk
  have hsz : acc.toList.length ≤ sizeLine := by rw [hal, ← hl]; exact h16
  refine wpAny_bind (wpAny_newList ?_ hsz)
  have hoL : (h'.push (seqObj "list" acc.toList.toArray 0)).get? h'.objs.size = some (seqObj "list" acc.toList.toArray 0) := Heap.get?_push_size _ rfl
  show wpAny _ _ _ _ _ { s with heap := h'.push (seqObj "list" acc.toList.toArray 0), toks := tk }
  have eS := strs_each hS
  refine wpAny_bind (wpAny_holding (list_sort_data (enc := PyData.str) (s := { s with heap := h'.push (seqObj "list" acc.toList.toArray 0), toks := tk }) hoL eS (eS.mono fun v b ⟨t, e⟩ => ⟨[], by rw [e]; exact Reads.str b t, by simp⟩) (AllAlike.of fun _ _ => rfl)
    (Sortable.others fun b => ⟨(by intro z; cases z), (by intro _ z; cases z)⟩) (by rw [← hal]; exact hsz) (fun b _ => by show _ + 1 + 0 < _; have : X.A.in1.units ≤ X.A.units + 1 := Nat.le_refl _; omega) fun out ho eo => ?_))
  rw [leS_data] at eo
  obtain ⟨e', he'⟩ := PyProof.Rows.sortedHeap_at (vs := acc.toList) (out := out.toArray) hoL
  have g1 : Vals ((sortS ks).map V.str) out := each_strs eo
  have hlen : ((sortS ks).map V.str).length ≤ sizeLine := by
    rw [g1.length, ho, ← hal]
    exact hsz
  refine wpAny_pure ⟨_, rfl, .ref h'.objs.size, upd H h'.objs.size (.lst ((sortS ks).map V.str)), I1.laid (t' := tk) (fun b u e => ?_) (Nat.le_refl _)
    (show ObjOk X.prog X.w _ _ _ (.lst ((sortS ks).map V.str)) from ⟨hlen, out, e', g1, he'⟩), rfl, q _ (I1.hok.fresh (Nat.le_refl _))⟩
  have hb : b < h'.objs.size := Heap.lt_size e
  rw [PyProof.Rows.sortedHeap_old (Nat.ne_of_lt hb) (by rw [PyProof.Rows.size_push']; exact Nat.lt_succ_of_lt hb)]
  exact Heap.get?_push_of_some _ e
/-- sorted of a dict by texts -/
def gSortDA (h : Bool) : Store → D → Option (D × Store) := fun O d => match dctOf O d with
  | some kvs => match inrs (kvs.map (·.1)) with
    | some ks => newLO h ((sortS ks).map .str) O
    | none => none
  | none => none
section
variable {X : Cx} {ad : Str → Addr}
theorem cd_sortDA (h : Bool) (hc : X.calm = true) (hu : X.A.units + 64 < cLine) : CallD X ad (.builtin "sorted") (g1 (gSortDA h)) := cd_1 (call_sortedDA hc hu) fun S r O H x d W σ Q rs p q => by
  unfold gSortDA at q
  split at q
  · rename_i kvs hk
    obtain ⟨n, a, ks, rfl, rfl, h1, h2, h3, h4⟩ := dct_at rs p hk
    split at q
    · rename_i zs hz
      rw [ofO_newLO] at q
      exact ⟨a, ks, zs, rfl, .inl h3, by rw [RpP.keys h4, inrs_map hz], fun p hn => (newL_post rs (strV_rp _) q).2 p hn⟩
    · exact q.elim
  · exact q.elim
end
end DK
end
section
set_option Elab.async false
set_option linter.all false
set_option autoImplicit false
set_option maxRecDepth 100000
set_option maxHeartbeats 4000000
/-! DKLock: comprehensions over a dict of the store, which is locked meanwhile; by mirrors. -/
namespace DK
open PySem L2
/-- S without what stands at a -/
def del (S : Hp) (a : Addr) : Hp := fun b => if b = a then none else S b
theorem del_ne {S : Hp} {a b : Addr} (h : b ≠ a) : del S a b = S b := if_neg h
theorem del_at {S : Hp} {a : Addr} : del S a a = none := if_pos rfl
section
variable {K : PySem.W.Frag} {ad : Str → Addr} {S : Hp} {r : Rg} {a : Addr} {od : Obj} {ks : List (Key × V)}
theorem sqL_del {b : Addr} {vs : List V} (ha : S a = some (.frz od (.dK ks))) (h : SqL K S b vs) : SqL K (del S a) b vs := by
  rcases h with (h | ⟨o, h⟩) | h
  · exact .inl (.inl (by rw [del_ne (fun z => by rw [z, ha] at h; cases h)]; exact h))
  · exact .inl (.inr ⟨o, by rw [del_ne (fun z => by rw [z, ha] at h; cases h)]; exact h⟩)
  · exact .inr h
theorem sqT_del {b : Addr} {vs : List V} (ha : S a = some (.frz od (.dK ks))) (h : SqT K S b vs) : SqT K (del S a) b vs := by
  rcases h with (h | ⟨o, h⟩) | h
  · exact .inl (.inl (by rw [del_ne (fun z => by rw [z, ha] at h; cases h)]; exact h))
  · exact .inl (.inr ⟨o, by rw [del_ne (fun z => by rw [z, ha] at h; cases h)]; exact h⟩)
  · exact .inr h
mutual
theorem rp_del (ha : S a = some (.frz od (.dK ks))) : ∀ (d : D) (v : V), Rp K S r d v → Rp K (del S a) r d v
  | .non, v, h => h
  | .bl b, v, h => h
  | .int i, v, h => h
  | .str z, v, h => h
  | .lst ds, v, h => by
    obtain ⟨b, vs, q1, q2, q3⟩ := h
    exact ⟨b, vs, q1, by rw [del_ne (fun z => by rw [z, ha] at q2; cases q2)]; exact q2, rpAll_del ha ds vs q3⟩
  | .rol ds, v, h => by
    obtain ⟨b, vs, q1, q2, q3⟩ := h
    exact ⟨b, vs, q1, sqL_del ha q2, rpAll_del ha ds vs q3⟩
  | .tup ds, v, h => by
    obtain ⟨b, vs, q1, q2, q3⟩ := h
    exact ⟨b, vs, q1, sqT_del ha q2, rpAll_del ha ds vs q3⟩
  | .hdl n, v, h => h
theorem rpAll_del (ha : S a = some (.frz od (.dK ks))) : ∀ (ds : List D) (vs : List V), RpAll K S r ds vs → RpAll K (del S a) r ds vs
  | [], vs, h => h
  | d :: ds, vs, h => by
    obtain ⟨v, vr, q1, q2, q3⟩ := h
    exact ⟨v, vr, q1, rp_del ha d v q2, rpAll_del ha ds vr q3⟩
end
theorem rpP_del {κ : Type} (ha : S a = some (.frz od (.dK ks))) : ∀ (ds : List (κ × D)) (vs : List (κ × V)), RpP K S r ds vs → RpP K (del S a) r ds vs
  | [], vs, h => h
  | d :: ds, vs, h => by
    obtain ⟨v, vr, q1, q2, q3⟩ := h
    exact ⟨v, vr, q1, rp_del ha d.2 v q2, rpP_del ha ds vr q3⟩
theorem ro_del {H : Hp} {b : Addr} {ob : Ob} {u : HO} (ha : S a = some (.frz od (.dK ks))) (hb : b ≠ a) (h : RO K ad S r H b ob) : RO K ad (del S a) r (upd H a u) b ob := by
  cases ob with
  | lst ds => obtain ⟨z, vs, q, p⟩ := h; exact ⟨by rw [del_ne hb]; exact z, vs, by rw [upd_ne hb]; exact q, rpAll_del ha _ _ p⟩
  | dct kvs => obtain ⟨z, vs, q, p⟩ := h; exact ⟨by rw [del_ne hb]; exact z, vs, by rw [upd_ne hb]; exact q, rpP_del ha _ _ p⟩
  | ins c fs => obtain ⟨z, dx, vs, q, p⟩ := h; exact ⟨by rw [del_ne hb]; exact z, dx, vs, by rw [upd_ne hb]; exact q, rpP_del ha _ _ p⟩
  | dead => obtain ⟨w, q⟩ := h; exact ⟨w, by rw [upd_ne hb]; exact q⟩
  | fdc kvs => obtain ⟨od', ks', z, q, p⟩ := h; exact ⟨od', ks', by rw [del_ne hb]; exact z, by rw [upd_ne hb]; exact q, rpP_del ha _ _ p⟩
variable {O : Store} {H : Hp} {n : Nat} {kvs : List (Key × D)}
theorem Rs.lock (h : Rs K ad S r O H) (hn : r.l[n]? = some a) (hz : S a = none) (p : RpP K S r kvs ks) : Rs K ad (upd S a (.frz od (.dK ks))) r (O.set n (.fdc kvs)) (upd H a (.frz od (.dK ks))) where
  sub := fun b w e => by
    by_cases hb : b = a
    · rw [hb, upd_same] at e ⊢; exact e
    · rw [upd_ne hb] at e ⊢; exact h.sub b w e
  len := by rw [List.length_set]; exact h.len
  nd := h.nd
  ob := fun m b ob e1 e2 => by
    by_cases hm : m = n
    · subst hm
      rw [hn] at e1
      cases e1
      rw [List.getElem?_set_self (by rw [← h.len]; exact (List.getElem?_eq_some_iff.mp hn).1)] at e2
      cases e2
      exact ⟨od, ks, upd_same, upd_same, RpP.mono (Ext.new hz) _ _ p⟩
    · rw [List.getElem?_set_ne (Ne.symm hm)] at e2
      have ne : b ≠ a := fun z => hm (nd_get h.nd e1 (z ▸ hn))
      exact (h.ob m b ob e1 e2).mono (Ext.new hz) (fun w q => by rw [upd_ne ne]; exact q) (fun q => by rw [upd_ne ne]; exact q)
  fr := same_upd h.fr (h.nofr hn)
  off := fun b o e => ⟨by
    rw [upd_ne (ne_of_none e (h.nofr hn))]
    exact (h.off b o e).1, (h.off b o e).2⟩
theorem Rs.unlock (h : Rs K ad S r O H) (hn : r.l[n]? = some a) (hO : O[n]? = some (.fdc kvs)) (ha : S a = some (.frz od (.dK ks))) : Rs K ad (del S a) r (O.set n (.dct kvs)) (upd H a (.dK ks)) where
  sub := fun b w e => by
    by_cases hb : b = a
    · rw [hb, del_at] at e; cases e
    · rw [del_ne hb] at e; rw [upd_ne hb]; exact h.sub b w e
  len := by rw [List.length_set]; exact h.len
  nd := h.nd
  ob := fun m b ob e1 e2 => by
    by_cases hm : m = n
    · subst hm
      obtain ⟨od', ks', z, q, p⟩ := h.ob m a _ hn hO
      rw [hn] at e1
      cases e1
      rw [List.getElem?_set_self (by rw [← h.len]; exact (List.getElem?_eq_some_iff.mp hn).1)] at e2
      cases e2
      rw [ha] at z
      cases z
      exact ⟨del_at, ks, upd_same, rpP_del ha _ _ p⟩
    · rw [List.getElem?_set_ne (Ne.symm hm)] at e2
      have ne : b ≠ a := fun z => hm (nd_get h.nd e1 (z ▸ hn))
      exact ro_del ha ne (h.ob m b ob e1 e2)
  fr := same_upd h.fr (h.nofr hn)
  off := fun b o e => ⟨by
    rw [del_ne (ne_of_none e (h.nofr hn))]
    exact (h.off b o e).1, (h.off b o e).2⟩
end
/-- .. for x in a dict of the store, locked meanwhile -/
def unlockR (n : Nat) : Res D → Res D
  | .ok d O => match O[n]? with
    | some (.fdc kvs) => .ok d (O.set n (.dct kvs))
    | _ => .bad
  | _ => .bad
def mLcD (h : Bool) (src : EM) (vs : List Nat) (b : BM) (tt : TM) (el : EM) : EM := fun L O => match src L O with
  | .ok (.hdl n) _ => match O[n]? with
    | some (.dct kvs) => match src L (O.set n (.fdc kvs)) with
      | .ok (.hdl n') O1 => if n' = n then unlockR n (lcEnd h (lcG (fun i _ => some (kvs.map fun kv => kD kv.1)[i]?) (lcTurn vs b tt el L) kvs.length 0 O1 [])) else .bad
      | _ => .bad
    | _ => .bad
  | _ => .bad
/-- a dict of the store, locked or not, as it is read -/
def dctR (O : Store) : D → Option (List (Key × D))
  | .hdl n => match O[n]? with
    | some (.dct kvs) => some kvs
    | some (.fdc kvs) => some kvs
    | _ => none
  | _ => none
section
variable {X : Cx} {ad : Str → Addr} {J : JP} {W : WX} {m : EM} {bm : BM} {tm : TM} {me : EM} {elt tg iter : Expr} {ifs : List Expr} {scope : Scope} {own : List (Str × Nat)} {pos : Pos}
theorem lcD_imp {hm : Bool} : ∀ σ H Q, (tE X.K ad J W (mLcD hm m (own.map (·.2)) bm tm me)) σ H Q → tLockE (tLc (iKeys (tE X.K ad J W m)) (tGx X.K ad (own.map (·.2)) bm) (tTx X.K ad (own.map (·.2)) tm) (tEx X.K ad (own.map (·.2)) me) (own.map (·.2))) σ H Q := by
  rintro σ H Q ⟨S, r, L, O, j, rl, rs, z⟩
  unfold mLcD at z
  split at z
  · rename_i n O' hs0
    split at z
    · rename_i kvs hO
      split at z
      · rename_i n' O1 hs1
        split at z
        · rename_i hnn
          subst hnn
          have hlt : n' < r.l.length := by rw [rs.len]; exact (List.getElem?_eq_some_iff.mp hO).1
          obtain ⟨a, hn⟩ : ∃ a, r.l[n']? = some a := ⟨_, List.getElem?_eq_getElem hlt⟩
          obtain ⟨hz, ks, ha, hp⟩ := rs.ob n' a _ hn hO
          refine ⟨a, .dK ks, ha, True.intro, fun od => ?_⟩
          have rsl := rs.lock (od := od) hn hz hp
          have ex : Ext S r (upd S a (.frz od (.dK ks))) r := Ext.new hz
          refine ⟨_, r, L, O.set n' (.fdc kvs), J.mono ex.s j, rl.mono ex, rsl, ?_⟩
          rw [hs1]
          intro S2 r2 H2 v e2 s2 p2
          obtain ⟨a2, rfl, hn2⟩ := p2
          have ea : a2 = a := by
            have := pre_get e2.r hn
            rw [hn2] at this
            exact Option.some.inj this
          subst ea
          have hS2 : S2 a2 = some (.frz od (.dK ks)) := e2.s _ _ upd_same
          refine ⟨a2, od, rfl, .inl ⟨ks, s2.sub _ _ hS2, ?_⟩⟩
          have kl : ks.length = kvs.length := RpP.length hp
          have kk : ks.map (·.1) = kvs.map (·.1) := (RpP.keys hp)
          dsimp only
          refine lc_post (W := W) (hm := hm) (Q := fun v H' => H' a2 = some (.frz od (.dK ks)) ∧ Q v (upd H' a2 (.dK ks))) (It' := Itk a2 od ks) (nx := fun i _ => some (kvs.map fun kv => kD kv.1)[i]?) (k := kvs.length) (fun i S r O H d' es el rs hnx => ?_) (fun i S r O H es el rs hnx => ?_) (rl.mono (ex.trans e2)) s2 ?_
          · have hd : (kvs.map fun kv => kD kv.1)[i]? = some d' := Option.some.inj hnx
            rw [List.getElem?_map] at hd
            obtain ⟨kv, hkv, rfl⟩ := Option.map_eq_some_iff.mp hd
            have hi := (List.getElem?_eq_some_iff.mp hkv).1
            refine ⟨⟨rs.sub _ _ (es _ _ hS2), by omega⟩, fun x H' hyy => ⟨hyy.1, ?_⟩⟩
            obtain ⟨_, k, v, h1, h2⟩ := hyy
            have h3 : (ks.map (·.1))[i]? = some k := by rw [List.getElem?_map, h1]; rfl
            rw [kk, List.getElem?_map, hkv] at h3
            cases h3
            have h4 : ∀ q : Key, Rp X.K S r (kD q) (kV q) := fun q => by cases q <;> rfl
            rw [h2]
            exact h4 _
          · have hd : (kvs.map fun kv => kD kv.1)[i]? = none := Option.some.inj hnx
            have := List.getElem?_eq_none_iff.mp hd
            rw [List.length_map] at this
            exact ⟨rs.sub _ _ (es _ _ hS2), by omega⟩
          · generalize lcEnd hm _ = res at z ⊢
            cases res with
            | bad => exact z.elim
            | exc x O => exact z.elim
            | ok d O3 =>
              replace z : Post X.K ad (fun S r => Rp X.K S r) W σ S r Q (match O3[n']? with | some (.fdc kvs) => .ok d (O3.set n' (.dct kvs)) | _ => .bad) := z
              split at z
              · rename_i kvs3 hO3
                intro S3 r3 H3 v3 e3 s3 p3
                have hS3 : S3 a2 = some (.frz od (.dK ks)) := e3.s _ _ hS2
                have hn3 := pre_get e3.r hn2
                have e13 : Ext S r (del S3 a2) r3 := by
                  have e03 := (ex.trans e2).trans e3
                  refine ⟨fun b w hb => ?_, e03.f, e03.r⟩
                  rw [del_ne (fun q => by rw [q, hz] at hb; cases hb)]
                  exact e03.s _ _ hb
                exact ⟨s3.sub _ _ hS3, z (del S3 a2) r3 _ v3 e13 (s3.unlock hn3 hO3 hS3) (rp_del hS3 _ _ p3)⟩
              · exact z.elim
        · exact z.elim
      · exact z.elim
    · exact z.elim
  · exact z.elim
theorem de_lcD {hm : Bool} (hc : X.calm = true) (hN : X.N.Nodup) (hi : PE X iter (tE X.K ad J W m)) (ok : BlkOk X.N X.env.scope scope own)
    (hg : ∀ (s : Shared) (H : Hp) (C : Addr) (cl : List (Str × Addr)) (fp : List Addr) (J' : JP), Cl (own.map (·.2)) J' → PG (X.blk s H scope (PySem.compEnvC scope cl C X.env) fp) tg (tG X.K ad J' bm))
    (ht : ∀ (s : Shared) (H : Hp) (C : Addr) (cl : List (Str × Addr)) (fp : List Addr) (J' : JP), Cl (own.map (·.2)) J' → PTs (X.blk s H scope (PySem.compEnvC scope cl C X.env) fp) ifs (tT X.K ad J' WF tm))
    (he : ∀ (s : Shared) (H : Hp) (C : Addr) (cl : List (Str × Addr)) (fp : List Addr) (J' : JP), Cl (own.map (·.2)) J' → PE (X.blk s H scope (PySem.compEnvC scope cl C X.env) fp) elt (tE X.K ad J' WF me)) (hs : ∀ x, foldedSetIterable iter X.env x = pure x := by intro _; rfl) :
    PE X (.ListComp elt [⟨tg, iter, ifs, 0⟩] scope pos) (tE X.K ad J W (mLcD hm m (own.map (·.2)) bm tm me)) :=
  pe_imp (pe_lock (pe_lc hc hN (pi_keys hi) ok (g := tGx X.K ad (own.map (·.2)) bm) (tt := tTx X.K ad (own.map (·.2)) tm) (te := tEx X.K ad (own.map (·.2)) me) (fun s H C cl fp => gx_of (hg s H C cl fp)) (fun s H C cl fp => tx_of (ht s H C cl fp)) (fun s H C cl fp => ex_of (he s H C cl fp)) hs)) lcD_imp
/-- o[i], o a dict of the store, locked or not -/
def mDGetR (mo mi : EM) : EM := fun L O => (mo L O).bind fun x O1 => (mi L O1).bind fun y O2 => match dctR O2 x, keyD y with
  | some kvs, some k => match valD kvs k with
    | some d => .ok d O2
    | none => .bad
  | _, _ => .bad
theorem dctR_at {S : Hp} {r : Rg} {O : Store} {H : Hp} (rs : Rs X.K ad S r O H) {d : D} {x : V} {kvs : List (Key × D)} (p : Rp X.K S r d x) (h : dctR O d = some kvs) : ∃ a ks, x = .ref a ∧ (H a = some (.dK ks) ∨ ∃ od, H a = some (.frz od (.dK ks))) ∧ RpP X.K S r kvs ks := by
  cases d with
  | hdl n =>
    replace h : (match O[n]? with | some (.dct kvs) => some kvs | some (.fdc kvs) => some kvs | _ => none) = some kvs := h
    split at h
    · rename_i ks hk
      cases h
      obtain ⟨a, rfl, h1, h2, vs, h3, h4⟩ := hdl_at rs p hk
      exact ⟨a, vs, rfl, .inl h3, h4⟩
    · rename_i ks hk
      cases h
      obtain ⟨a, rfl, h1, od, vs, h2, h3, h4⟩ := hdl_at rs p hk
      exact ⟨a, vs, rfl, .inr ⟨od, h3⟩, h4⟩
    · cases h
  | non => cases h
  | bl i => cases h
  | int i => cases h
  | str i => cases h
  | lst i => cases h
  | rol i => cases h
  | tup i => cases h
theorem de_dgetR {mo mi : EM} {o i : Expr} (hu : X.A.units + 1 < cLine) (ho : PE X o (tE X.K ad J W mo)) (hi : PE X i (tE X.K ad J W mi)) (hs : NoSl i := by intro _ _; rfl) : PE X (.Subscript o i pos) (tE X.K ad J W (mDGetR mo mi)) := by
  refine pe_imp (pe_dget hu ho hi hs) ?_
  rintro σ H Q ⟨S, r, L, O, j, rl, rs, q⟩
  refine ⟨S, r, L, O, j, rl, rs, (Post.bind q).imp ?_⟩
  rintro x H1 ⟨S1, r1, d, O1, e1, s1, p1, q1⟩
  refine ⟨S1, r1, L, O1, J.mono e1.s j, rl.mono e1, s1, (Post.bind q1).imp ?_⟩
  rintro y H2 ⟨S2, r2, d2, O2, e2, s2, p2, q2⟩
  split at q2
  · rename_i kvs k hk hy
    obtain ⟨a, ks, rfl, h3, h4⟩ := dctR_at s2 (Rp.mono e2 _ _ p1) hk
    split at q2
    · rename_i v hv
      obtain ⟨u, hu1, hu2⟩ := h4.val.1 v hv
      refine ⟨a, u, rfl, ?_, q2 S2 r2 H2 u (Ext.refl _ _) s2 hu2⟩
      rw [keyD_rp hy p2, ← hu1]
      rcases h3 with h3 | ⟨od, h3⟩
      · exact DGet.k h3
      · exact .inl ⟨ks, k, .inr ⟨od, h3⟩, rfl, rfl⟩
    · exact q2.elim
  · exact q2.elim
end
end DK
end
section
set_option Elab.async false
set_option linter.all false
set_option autoImplicit false
set_option maxRecDepth 100000
set_option maxHeartbeats 4000000
/-! DKDictC: dict comprehensions, by mirrors. -/
namespace DK
open PySem L2
def dcTurn (vs : List Nat) (b : BM) (tt : TM) (kx el : EM) (L : Loc) (d : D) (O : Store) (acc : List (Key × D)) : Option (Store × List (Key × D)) := match b d (wipeL L vs) O with
  | some p => match tt p.1 p.2 with
    | .ok true O2 => match kx p.1 O2 with
      | .ok y O3 => match el p.1 O3 with
        | .ok z O4 => match keyD y with
          | some k => if acc.length ≤ 900000 then some (O4, putKD acc k z) else none
          | none => none
        | _ => none
      | _ => none
    | .ok false O2 => some (O2, acc)
    | _ => none
  | none => none
def dcG (nx : Nat → Store → Option (Option D)) (turn : D → Store → List (Key × D) → Option (Store × List (Key × D))) : Nat → Nat → Store → List (Key × D) → Option (Store × List (Key × D))
  | 0, i, O, acc => match nx i O with
    | some none => some (O, acc)
    | _ => none
  | k + 1, i, O, acc => match nx i O with
    | some none => some (O, acc)
    | some (some d) => match turn d O acc with
      | some p => dcG nx turn k (i + 1) p.1 p.2
      | none => none
    | none => none
def dcEnd : Option (Store × List (Key × D)) → Res D
  | some p => .ok (.hdl p.1.length) (p.1 ++ [.dct p.2])
  | none => .bad
def mDcL (src : EM) (vs : List Nat) (b : BM) (tt : TM) (kx el : EM) : EM := fun L O => (src L O).bind fun d O1 => match lsqOf O1 d with
  | some xs => dcEnd (dcG (fun i O => (lsqOf O d).map (·[i]?)) (dcTurn vs b tt kx el L) xs.length 0 O1 [])
  | none => .bad
section
variable {X : Cx} {ad : Str → Addr} {J : JP} {W : WX} {m : EM} {bm : BM} {tm : TM} {mk me : EM} {kx elt tg iter : Expr} {ifs : List Expr} {scope : Scope} {own : List (Str × Nat)} {pos : Pos}
theorem dc_post {It' : It} {nx : Nat → Store → Option (Option D)} {vs : List Nat} {S1 : Hp} {r1 : Rg} {L : Loc} {σ : L2.St} {Q : VK} {k : Nat} {O1 : Store} {H1 : Hp}
    (hgo : ∀ (i : Nat) (S : Hp) (r : Rg) (O : Store) (H : Hp) (d : D), Same S1 S → r1.l <+: r.l → Rs X.K ad S r O H → nx i O = some (some d) → It'.go i H ∧ ∀ x H', It'.yld i H x H' → H' = H ∧ Rp X.K S r d x)
    (hst : ∀ (i : Nat) (S : Hp) (r : Rg) (O : Store) (H : Hp), Same S1 S → r1.l <+: r.l → Rs X.K ad S r O H → nx i O = some none → It'.stop i H)
    (rl : Rl X.K S1 r1 L σ) (rs : Rs X.K ad S1 r1 O1 H1) (z : Post X.K ad (fun S r => Rp X.K S r) W σ S1 r1 Q (dcEnd (dcG nx (dcTurn vs bm tm mk me L) k 0 O1 []))) :
    ∀ Dn, H1 Dn = none → ∃ W' : Nat → Nat → Hp → Prop, (∃ m, W' 0 m (upd H1 Dn (.dK []))) ∧ ∀ i m H, W' i m H →
      (It'.stop i H ∧ Q (.ref Dn) H) ∨ (It'.go i H ∧ ∃ Nx : Hp → Prop, (∀ H', Nx H' → ∃ m', m' < m ∧ W' (i + 1) m' H') ∧ ∀ x H', It'.yld i H x H' → tGx X.K ad vs bm x (wipe σ vs) H' fun σ2 H2 => wipe σ2 vs = wipe σ vs ∧ tTx X.K ad vs tm σ2 H2 fun b H3 =>
        if b = true then tEx X.K ad vs mk σ2 H3 fun y H4 => tEx X.K ad vs me σ2 H4 fun z H5 => ∃ kvs k, y = kV k ∧ H5 Dn = some (.dK kvs) ∧ kvs.length < sizeLine ∧ Nx (upd H5 Dn (.dK (putK kvs k z))) else Nx H3) := by
  intro Dn hDn
  have hfr : r1.fr Dn = none := rs.fr.free hDn
  have ww : wipe (wipe σ vs) vs = wipe σ vs := by
    have key : ∀ (us : List Nat) (τ : L2.St), (∀ u ∈ us, ∀ w, τ[u]? = some w → w = none) → wipe τ us = τ := fun us => by
      induction us with
      | nil => intro τ _; rfl
      | cons u us ih =>
        intro τ h
        unfold wipe
        rw [ih τ fun u' hu' => h u' (List.mem_cons_of_mem _ hu')]
        refine List.ext_getElem? fun n => ?_
        by_cases hn : u = n
        · subst hn
          by_cases hl : u < τ.length
          · rw [List.getElem?_set_self hl]
            have := h u List.mem_cons_self τ[u] (List.getElem?_eq_getElem hl)
            rw [List.getElem?_eq_getElem hl, this]
          · rw [List.getElem?_eq_none (by rw [List.length_set]; omega), List.getElem?_eq_none (by omega)]
        · rw [List.getElem?_set_ne hn]
    refine key vs _ fun u hu w hw => ?_
    cases w with
    | none => rfl
    | some w => exact absurd hu (wipe_some hw).2
  refine ⟨fun i m H => ∃ S r O acc us, Same S1 S ∧ r1.l <+: r.l ∧ r.fr = r1.fr ∧ Rs X.K ad S (r.at (upd r1.fr Dn (.dK us))) O H ∧ RpP X.K S r acc us ∧ Post X.K ad (fun S r => Rp X.K S r) W σ S1 r1 Q (dcEnd (dcG nx (dcTurn vs bm tm mk me L) m i O acc)),
    ⟨k, S1, r1, O1, [], [], Same.refl _, List.prefix_rfl, rfl, rs.hold hDn, rfl, z⟩, ?_⟩
  rintro i m H ⟨S, r, O, acc, us, es, el, ef, rs, ra, z⟩
  have fin : nx i O = some none → Post X.K ad (fun S r => Rp X.K S r) W σ S1 r1 Q (dcEnd (some (O, acc))) → It'.stop i H ∧ Q (.ref Dn) H := fun hn z => by
    refine ⟨hst i S (r.at (upd r1.fr Dn (.dK us))) O H es el rs hn, ?_⟩
    have rs' : Rs X.K ad S (r.at (upd r.fr Dn (.dK us))) O H := by rw [ef]; exact rs
    obtain ⟨q1, q2, q3, q4⟩ := rs'.unhold (by rw [ef]; exact hfr)
    have e0 : Ext S1 r1 S r := ⟨es, ef, el⟩
    refine z S (r.push Dn) H _ (e0.trans (Ext.push S r Dn)) (q1.pushAt ⟨q3, us, q2, RpP.mono (Ext.push S r Dn) _ _ ra⟩ q4 (by rw [ef]; exact hfr)) ⟨Dn, rfl, ?_⟩
    show (r.l ++ [Dn])[O.length]? = some Dn
    rw [← q1.len, List.getElem?_append_right (Nat.le_refl _)]
    simp
  have next : ∀ m', m = m' + 1 → ∀ d, nx i O = some (some d) → Post X.K ad (fun S r => Rp X.K S r) W σ S1 r1 Q (dcEnd (match dcTurn vs bm tm mk me L d O acc with | some p => dcG nx (dcTurn vs bm tm mk me L) m' (i + 1) p.1 p.2 | none => none)) →
      (It'.go i H ∧ ∃ Nx : Hp → Prop, (∀ H', Nx H' → ∃ m'', m'' < m ∧ (∃ S r O acc us, Same S1 S ∧ r1.l <+: r.l ∧ r.fr = r1.fr ∧ Rs X.K ad S (r.at (upd r1.fr Dn (.dK us))) O H' ∧ RpP X.K S r acc us ∧ Post X.K ad (fun S r => Rp X.K S r) W σ S1 r1 Q (dcEnd (dcG nx (dcTurn vs bm tm mk me L) m'' (i + 1) O acc)))) ∧
        ∀ x H', It'.yld i H x H' → tGx X.K ad vs bm x (wipe σ vs) H' fun σ2 H2 => wipe σ2 vs = wipe σ vs ∧ tTx X.K ad vs tm σ2 H2 fun b H3 =>
          if b = true then tEx X.K ad vs mk σ2 H3 fun y H4 => tEx X.K ad vs me σ2 H4 fun z H5 => ∃ kvs k, y = kV k ∧ H5 Dn = some (.dK kvs) ∧ kvs.length < sizeLine ∧ Nx (upd H5 Dn (.dK (putK kvs k z))) else Nx H3) := by
    intro m' hm' d hd z
    obtain ⟨g1, g2⟩ := hgo i S (r.at (upd r1.fr Dn (.dK us))) O H d es el rs hd
    refine ⟨g1, _, fun H' hN => ⟨m', by omega, hN⟩, fun x H' hy => ?_⟩
    obtain ⟨rfl, px⟩ := g2 x H' hy
    let rr := r.at (upd r1.fr Dn (.dK us))
    have rlw : Rl X.K S rr (wipeL L vs) (wipe σ vs) := ⟨(wipe_rl rl vs).len, fun n d hn => by
      obtain ⟨v, q1, q2⟩ := (wipe_rl rl vs).at_ n d hn
      exact ⟨v, q1, Rp.monoW (r' := rr) es el d v q2⟩⟩
    refine ⟨Jw vs (wipe σ vs), wipe_cl, S, rr, wipeL L vs, O, d, ww, rlw, rs, px, ?_⟩
    unfold dcTurn at z
    generalize bm d (wipeL L vs) O = w at z
    cases w with
    | none => exact z.elim
    | some w =>
      intro S2 r2 σ2 H2 e2 j2 l2 s2
      refine ⟨j2, Jw vs (wipe σ vs), wipe_cl, S2, r2, w.1, w.2, j2, l2, s2, ?_⟩
      replace z : Post X.K ad (fun S r => Rp X.K S r) W σ S1 r1 Q (dcEnd (match (match tm w.1 w.2 with
        | .ok true O2 => match mk w.1 O2 with
          | .ok y O3 => match me w.1 O3 with
            | .ok z O4 => match keyD y with
              | some k => if acc.length ≤ 900000 then some (O4, putKD acc k z) else none
              | none => none
            | _ => none
          | _ => none
        | .ok false O2 => some (O2, acc)
        | _ => none) with | some p => dcG nx (dcTurn vs bm tm mk me L) m' (i + 1) p.1 p.2 | none => none)) := z
      generalize tm w.1 w.2 = t at z
      cases t with
      | exc x O3 => exact z.elim
      | bad => exact z.elim
      | ok k O3 =>
        intro S3 r3 H3 k' e3 s3 ek
        obtain rfl : k' = k := ek
        cases k' with
        | false =>
          rw [if_neg Bool.false_ne_true]
          have e23 := e2.trans e3
          have hr3 : r3 = (r3.at r1.fr).at (upd r1.fr Dn (.dK us)) := by
            obtain ⟨l3, f3⟩ := r3
            have : f3 = upd r1.fr Dn (.dK us) := e23.f
            subst this
            rfl
          rw [hr3] at s3
          exact ⟨S3, r3.at r1.fr, O3, acc, us, es.trans e23.s, List.IsPrefix.trans el e23.r, rfl, s3, RpP.monoW (r := r) (r' := r3.at r1.fr) e23.s e23.r _ _ ra, z⟩
        | true =>
          rw [if_pos rfl]
          refine ⟨Jw vs (wipe σ vs), wipe_cl, S3, r3, w.1, O3, j2, l2.mono e3, s3, ?_⟩
          replace z : Post X.K ad (fun S r => Rp X.K S r) W σ S1 r1 Q (dcEnd (match (match mk w.1 O3 with
            | .ok y O3 => match me w.1 O3 with
              | .ok z O4 => match keyD y with
                | some k => if acc.length ≤ 900000 then some (O4, putKD acc k z) else none
                | none => none
              | _ => none
            | _ => none) with | some p => dcG nx (dcTurn vs bm tm mk me L) m' (i + 1) p.1 p.2 | none => none)) := z
          generalize mk w.1 O3 = t at z
          cases t with
          | exc x O3 => exact z.elim
          | bad => exact z.elim
          | ok y O4 =>
            intro S4 r4 H4 v e4 s4 pv
            refine ⟨Jw vs (wipe σ vs), wipe_cl, S4, r4, w.1, O4, j2, (l2.mono e3).mono e4, s4, ?_⟩
            replace z : Post X.K ad (fun S r => Rp X.K S r) W σ S1 r1 Q (dcEnd (match (match me w.1 O4 with
              | .ok z O4 => match keyD y with
                | some k => if acc.length ≤ 900000 then some (O4, putKD acc k z) else none
                | none => none
              | _ => none) with | some p => dcG nx (dcTurn vs bm tm mk me L) m' (i + 1) p.1 p.2 | none => none)) := z
            generalize me w.1 O4 = t at z
            cases t with
            | exc x O3 => exact z.elim
            | bad => exact z.elim
            | ok x O5 =>
              intro S5 r5 H5 u e5 s5 pu
              have e25 := ((e2.trans e3).trans e4).trans e5
              have hr5 : r5 = (r5.at r1.fr).at (upd r1.fr Dn (.dK us)) := by
                obtain ⟨l5, f5⟩ := r5
                have : f5 = upd r1.fr Dn (.dK us) := e25.f
                subst this
                rfl
              rw [hr5] at s5
              cases hk : keyD y with
              | none =>
                simp only [hk] at z
                exact z.elim
              | some k =>
                simp only [hk] at z
                by_cases hlen : acc.length ≤ 900000
                · rw [if_pos hlen] at z
                  have hv : v = kV k := keyD_rp hk pv
                  have hul : us.length = acc.length := RpP.length ra
                  refine ⟨us, k, hv, s5.fr Dn _ upd_same, by rw [hul]; exact million_lt (by omega), S5, r5.at r1.fr, O5, putKD acc k x, L2.putK us k u, es.trans e25.s, List.IsPrefix.trans el e25.r, rfl, s5.rehold, ?_, z⟩
                  exact RpP.putK (Rp.monoW (r := r5) (r' := r5.at r1.fr) (Same.refl _) List.prefix_rfl _ _ pu) (RpP.monoW (r := r) (r' := r5.at r1.fr) e25.s e25.r _ _ ra)
                · rw [if_neg hlen] at z
                  exact z.elim
  cases hn : nx i O with
  | none =>
    have e : dcG nx (dcTurn vs bm tm mk me L) m i O acc = none := by
      cases m with
      | zero => unfold dcG; rw [hn]
      | succ m => unfold dcG; rw [hn]
    rw [e] at z
    exact z.elim
  | some o =>
    cases o with
    | none =>
      have e : dcG nx (dcTurn vs bm tm mk me L) m i O acc = some (O, acc) := by
        cases m with
        | zero => unfold dcG; rw [hn]
        | succ m => unfold dcG; rw [hn]
      rw [e] at z
      exact .inl (fin hn z)
    | some d =>
      cases m with
      | zero =>
        have e : dcG nx (dcTurn vs bm tm mk me L) 0 i O acc = none := by unfold dcG; rw [hn]
        rw [e] at z
        exact z.elim
      | succ m =>
        have e : dcG nx (dcTurn vs bm tm mk me L) (m + 1) i O acc = (match dcTurn vs bm tm mk me L d O acc with | some p => dcG nx (dcTurn vs bm tm mk me L) m (i + 1) p.1 p.2 | none => none) := by
          show (match nx i O with | some none => some (O, acc) | some (some d) => (match dcTurn vs bm tm mk me L d O acc with | some p => dcG nx (dcTurn vs bm tm mk me L) m (i + 1) p.1 p.2 | none => none) | none => none) = _
          rw [hn]
        rw [e] at z
        exact .inr (next m rfl d hn z)
theorem dcL_imp : ∀ σ H Q, (tE X.K ad J W (mDcL m (own.map (·.2)) bm tm mk me)) σ H Q → tDc (iList X.K (tE X.K ad J W m)) (tGx X.K ad (own.map (·.2)) bm) (tTx X.K ad (own.map (·.2)) tm) (tEx X.K ad (own.map (·.2)) mk) (tEx X.K ad (own.map (·.2)) me) (own.map (·.2)) σ H Q := by
  rintro σ H Q ⟨S, r, L, O, j, rl, rs, z⟩
  refine ⟨S, r, L, O, j, rl, rs, (Post.bind z).imp ?_⟩
  rintro x H1 ⟨S1, r1, d, O1, e1, s1, p1, q1⟩
  replace q1 : Post X.K ad (fun S r => Rp X.K S r) W σ S1 r1 Q (match lsqOf O1 d with
    | some xs => dcEnd (dcG (fun i O => (lsqOf O d).map (·[i]?)) (dcTurn (own.map (·.2)) bm tm mk me L) xs.length 0 O1 [])
    | none => .bad) := q1
  split at q1
  · rename_i xs hx
    obtain ⟨a, vs, rfl, h1, h2⟩ := lsqOf_ok s1 p1 hx
    refine ⟨a, rfl, ⟨vs, h1⟩, dc_post (fun i S r O H d' es el rs hn => ?_) (fun i S r O H es el rs hn => ?_) (rl.mono e1) s1 q1⟩
    · obtain ⟨ys, hy, e⟩ := Option.map_eq_some_iff.mp (show (lsqOf O d).map (·[i]?) = some (some d') from hn)
      obtain ⟨a', us, ea, g1, g2⟩ := lsqOf_ok rs (Rp.monoW es el d _ p1) hy
      cases ea
      obtain ⟨v, hv, pv⟩ := g2.get e
      exact ⟨⟨us, v, g1, hv⟩, fun x H' hyy => ⟨hyy.1, by rw [Option.some.inj ((hyy.2 us g1).symm.trans hv)]; exact pv⟩⟩
    · obtain ⟨ys, hy, e⟩ := Option.map_eq_some_iff.mp (show (lsqOf O d).map (·[i]?) = some none from hn)
      obtain ⟨a', us, ea, g1, g2⟩ := lsqOf_ok rs (Rp.monoW es el d _ p1) hy
      cases ea
      exact ⟨us, g1, by rw [g2.length]; exact List.getElem?_eq_none_iff.mp e⟩
  · exact q1.elim
theorem de_dcL (hc : X.calm = true) (hN : X.N.Nodup) (hi : PE X iter (tE X.K ad J W m)) (ok : BlkOk X.N X.env.scope scope own)
    (hg : ∀ (s : Shared) (H : Hp) (C : Addr) (cl : List (Str × Addr)) (fp : List Addr) (J' : JP), Cl (own.map (·.2)) J' → PG (X.blk s H scope (PySem.compEnvC scope cl C X.env) fp) tg (tG X.K ad J' bm))
    (ht : ∀ (s : Shared) (H : Hp) (C : Addr) (cl : List (Str × Addr)) (fp : List Addr) (J' : JP), Cl (own.map (·.2)) J' → PTs (X.blk s H scope (PySem.compEnvC scope cl C X.env) fp) ifs (tT X.K ad J' WF tm))
    (hk : ∀ (s : Shared) (H : Hp) (C : Addr) (cl : List (Str × Addr)) (fp : List Addr) (J' : JP), Cl (own.map (·.2)) J' → PE (X.blk s H scope (PySem.compEnvC scope cl C X.env) fp) kx (tE X.K ad J' WF mk))
    (he : ∀ (s : Shared) (H : Hp) (C : Addr) (cl : List (Str × Addr)) (fp : List Addr) (J' : JP), Cl (own.map (·.2)) J' → PE (X.blk s H scope (PySem.compEnvC scope cl C X.env) fp) elt (tE X.K ad J' WF me)) (hs : ∀ x, foldedSetIterable iter X.env x = pure x := by intro _; rfl) :
    PE X (.DictComp kx elt [⟨tg, iter, ifs, 0⟩] scope pos) (tE X.K ad J W (mDcL m (own.map (·.2)) bm tm mk me)) :=
  pe_imp (pe_dc hc hN (pi_list hi) ok (g := tGx X.K ad (own.map (·.2)) bm) (tt := tTx X.K ad (own.map (·.2)) tm) (tk := tEx X.K ad (own.map (·.2)) mk) (tv := tEx X.K ad (own.map (·.2)) me) (fun s H C cl fp => gx_of (hg s H C cl fp)) (fun s H C cl fp => tx_of (ht s H C cl fp)) (fun s H C cl fp => ex_of (hk s H C cl fp)) (fun s H C cl fp => ex_of (he s H C cl fp)) hs) dcL_imp
end
end DK
end
section
set_option Elab.async false
set_option linter.all false
set_option autoImplicit false
set_option maxRecDepth 100000
set_option maxHeartbeats 4000000
/-! DKSetC: sorted({.. for ..}) over ints, by a mirror. -/
namespace DK
open PySem L2 PyProof.Rows
/-! ### a set comprehension over any kind of sets -/
abbrev noSet (w : World) : Obj := { cls := .type "set", dict := none, data := .set #[] 0 (.fresh 0 0 (!w.params.followText "set-order")) }
structure SetFam (prog : Program) (w : World) (β : Type) where
  ob : Addr → β → HO
  nil : β
  put : V → β → β → Prop
  new : ∀ (G : Hp) (h : Heap), ObjOk prog w G (h.push (noSet w)) h.objs.size (ob h.objs.size nil)
  add : ∀ {Y : Cx}, Y.prog = prog → Y.w = w → ∀ {pn : List (Addr × Obj)} {τ : L2.St} {G : Hp} {t : Shared} {E : Value → Shared → Prop} {D : Addr} {c c' : β} {y : V} {u : Value} {Q : Value → Shared → Prop}, Inv Y pn τ G t → G D = some (ob D c) → put y c c' → RelV y u →
    (∀ t', Inv Y pn τ (upd G D (ob D c')) t' → Q .none t') → wpAny (model Y.prog Y.w) Y.A (call (.builtin "set.add") [.ref D, u]) Q E t
/-- {elt for target in iter if ..}: D the new set, what a turn puts in told by the kind -/
def tScF {β : Type} (ob : Addr → β → HO) (nil : β) (put : V → β → β → Prop) (wi : TI) (g : TG) (tt : TT) (te : TE) (vs : List Nat) : TE := fun σ H Q => wi σ H fun J H1 =>
  ∀ D, H1 D = none → ∃ V' : Nat → Nat → Hp → Prop, (∃ m, V' 0 m (upd H1 D (ob D nil))) ∧ ∀ i m G, V' i m G →
    (J.stop i G ∧ Q (.ref D) G) ∨ (J.go i G ∧ ∃ N' : Hp → Prop, (∀ G', N' G' → ∃ m', m' < m ∧ V' (i + 1) m' G') ∧
      ∀ x G', J.yld i G x G' → g x (wipe σ vs) G' fun τ G2 => wipe τ vs = wipe σ vs ∧ tt τ G2 fun b G3 => if b = true then te τ G3 fun y G4 => ∃ c c', put y c c' ∧ G4 D = some (ob D c) ∧ N' (upd G4 D (ob D c')) else N' G3)
section
variable {X : Cx} {β : Type} (F : SetFam X.prog X.w β) {elt tg iter : Expr} {ifs : List Expr} {scope : Scope} {own : List (Str × Nat)} {pos : Pos} {wi : TI} {g : TG} {tt : TT} {te : TE}
theorem pe_scF (calm : X.calm = true) (nd : X.N.Nodup) (hi : PI X tg iter wi) (blk : BlkOk X.N X.env.scope scope own)
    (hg : ∀ (s : Shared) (G : Hp) (C : Addr) (cl : List (Str × Addr)) (fp : List Addr), PG (X.blk s G scope (PySem.compEnvC scope cl C X.env) fp) tg g)
    (ht : ∀ (s : Shared) (G : Hp) (C : Addr) (cl : List (Str × Addr)) (fp : List Addr), PTs (X.blk s G scope (PySem.compEnvC scope cl C X.env) fp) ifs tt)
    (he : ∀ (s : Shared) (G : Hp) (C : Addr) (cl : List (Str × Addr)) (fp : List Addr), PE (X.blk s G scope (PySem.compEnvC scope cl C X.env) fp) elt te)
    (unf : ∀ x, foldedSetIterable iter X.env x = pure x := by intro _; rfl) : PE X (.SetComp elt [⟨tg, iter, ifs, 0⟩] scope pos) (tScF F.ob F.nil F.put wi g tt te (own.map (·.2))) := by
  refine ⟨fun pn s σ H Q inv pre => ?_⟩
  rw [PpSet.eval_SetComp]
  have free : ∀ y ∈ scope.names, y.2 = .free → ∃ c, X.env.cells.lookup y.1 = some c := fun y hy e => (blk.free y hy e).elim (fun k => inv.ok.has _ (.inl k)) fun k => inv.ok.has _ (.inr k)
  refine wpAny_comprehension_free rfl unf (closure_ok free) blk.kind (fun y hy e => by rw [blk.uniq y hy, e]) (thn (hi.run pn s σ H _ inv pre) fun xv s1 h1 => thn h1 fun itv s2 h2 => ?_)
  obtain ⟨it, fp, tn, J, H2, rfl, inv2, T, at2, ok2, rest⟩ := h2
  refine PpSet.newSet_ok (newEnv_comp ?_)
  obtain ⟨D, hD⟩ : ∃ D, s2.heap.objs.size = D := ⟨_, rfl⟩
  have none2 : H2 D = none := inv2.hok.fresh (Nat.le_of_eq hD)
  obtain ⟨V', ⟨m0, start⟩, turn⟩ := rest D none2
  obtain ⟨s3, hs3⟩ : ∃ s3 : Shared, { s2 with heap := s2.heap.push (noSet X.w) } = s3 := ⟨_, rfl⟩
  have hp3 : s3.heap = s2.heap.push (noSet X.w) := by rw [← hs3]
  have inv3 : Inv X pn σ (upd H2 D (F.ob D F.nil)) s3 := by
    have := inv2.laid (t' := s2.toks) (a := s2.heap.objs.size) (o := F.ob s2.heap.objs.size F.nil) (h' := s2.heap.push (noSet X.w)) (fun b o e => Heap.get?_push_of_some _ e) (Nat.le_refl _) (F.new _ _)
    rw [hD] at this
    rw [← hs3]
    exact this
  have keep3 : ∀ {b : Addr} {o : Obj}, s2.heap.get? b = some o → s3.heap.get? b = some o := fun e => by rw [hp3]; exact Heap.get?_push_of_some _ e
  have ok3 : ∀ b ∈ fp, FpOk X pn (upd H2 D (F.ob D F.nil)) b ∧ b < s3.heap.objs.size := fun b hb => by
    obtain ⟨o, e, _⟩ := T.obj _ _ at2 b hb
    have lt := Heap.lt_size e
    obtain ⟨k1, k2⟩ := ok2 b hb
    exact ⟨⟨by rw [upd_ne (Nat.ne_of_lt (hD ▸ lt))]; exact k1, k2⟩, by rw [hp3, Heap.size_push]; exact Nat.lt_succ_of_lt lt⟩
  have at3 : tn 0 s3.heap := T.keep _ _ _ at2 fun b _ o e => keep3 e
  have inv4 := block_start inv3 blk nd ok3
  let H3 : Hp := upd H2 D (F.ob D F.nil)
  let C := s3.heap.objs.size
  let cs := cellsFrom (C + 1) scope.names (cloFrom X.env.cells scope.names [])
  have Pg := hg s3 H3 C cs fp
  have Pt := ht s3 H3 C cs fp
  have Pe := he s3 H3 C cs fp
  have emp : ∀ b ∈ fp, H3 b = none := fun b hb => (ok3 b hb).1.1
  show codeAny _ _ (.compStart (.SetComp elt [⟨tg, iter, ifs, 0⟩] scope pos) 0 (.ref it) (.ref s2.heap.objs.size) (compEnvC scope (cellsFrom ((s2.heap.push (noSet X.w)).objs.size + 1) scope.names (cloFrom X.env.cells scope.names [])) (s2.heap.push (noSet X.w)).objs.size X.env))
    (PySem.compPost (model X.prog X.w) X.A X.xe none _ (.ref s2.heap.objs.size) (s2.heap.push (noSet X.w)).objs.size) { s2 with heap := pushCells ((s2.heap.push (noSet X.w)).push { cls := .type "dict", data := .dict #[] }) scope.names }
  have e4 : ({ s2 with heap := pushCells ((s2.heap.push (noSet X.w)).push { cls := .type "dict", data := .dict #[] }) scope.names } : Shared) = { s3 with heap := pushCells (s3.heap.push { cls := .type "dict", data := .dict #[] }) scope.names } := by rw [← hs3]
  rw [e4, ← hp3, hD]
  show codeAny _ _ (.compStart (.SetComp elt [⟨tg, iter, ifs, 0⟩] scope pos) 0 (.ref it) (.ref D) (compEnvC scope cs C X.env)) (PySem.compPost (model X.prog X.w) X.A X.xe none _ (.ref D) C) _
  obtain ⟨env4, henv⟩ : ∃ env4, compEnvC scope cs C X.env = env4 := ⟨_, rfl⟩
  have loc4 : env4.locals = C := by rw [← henv]; rfl
  obtain ⟨s4, hs4⟩ : ∃ s4 : Shared, { s3 with heap := pushCells (s3.heap.push { cls := .type "dict", data := .dict #[] }) scope.names } = s4 := ⟨_, rfl⟩
  have at4 : tn 0 s4.heap := T.keep _ _ _ at3 fun b _ o e => by rw [← hs4]; exact pushCells_keeps _ _ _ _ (Heap.get?_push_of_some _ e)
  change Inv (X.blk s3 H3 scope (compEnvC scope cs C X.env) fp) _ _ _ _ at inv4
  rw [hs4] at inv4 ⊢
  rw [henv] at inv4 Pg Pt Pe ⊢
  have hold : ∀ {τ : L2.St} {G : Hp} {t : Shared}, Inv (X.blk s3 H3 scope env4 fp) [] τ G t → (∀ b ∈ fp, G b = none) → ∀ b ∈ fp, FpOk (X.blk s3 H3 scope env4 fp) [] G b := fun {τ G t} I n b hb =>
    ⟨n b hb, (I.ok.exf b hb).1, I.ok.exfs b hb, .inl hb, fun x c e => (I.ok.exf b hb).2 x c e, fun p hp => absurd (show p ∈ ([] : List (Addr × Obj)) ++ [] from hp) (by simp)⟩
  have all : codeAny (model X.prog X.w) X.A (.compLoop (.SetComp elt [⟨tg, iter, ifs, 0⟩] scope pos) 0 (.ref it) (.ref D) env4) (PySem.compPost (model X.prog X.w) X.A X.xe none (fun v s' => ∃ x H', Inv X pn σ H' s' ∧ RelV x v ∧ Q x H') (.ref D) C) s4 := by
    refine PpSet.compLoopS_any (fun n t => ∃ i G, Inv (X.blk s3 H3 scope env4 fp) [] (wipe σ (own.map (·.2))) G t ∧ tn i t.heap ∧ (∀ b ∈ fp, G b = none) ∧ V' i n G) ?_ m0 ⟨0, H3, inv4, at4, emp, start⟩
    rintro n t5 ⟨i, G5, inv5, at5, emp5, v5⟩
    rcases turn i n G5 v5 with ⟨stop, post⟩ | ⟨go, N', hN, step⟩
    · refine thnF (T.done (X.blk s3 H3 scope env4 fp) rfl rfl rfl calm i [] t5 _ G5 (fun _ _ => False) inv5 (hold inv5 emp5) at5 stop) fun r t6 ⟨hr, inv6⟩ => ?_
      subst hr
      have inv7 : Inv X pn σ G5 t6 := inv3.call' (ch := fp) inv6.os inv6.base inv6.hok inv6.bare fun b hb => by
        obtain ⟨_, k2, _, k4, k5, k6⟩ := (ok3 b hb).1
        exact ⟨k4, k2, k5, k6⟩
      have noC : G5 C = none := by
        have z : G5 env4.locals = none := inv6.free
        rwa [loc4] at z
      obtain ⟨mc, hmc, _⟩ := inv6.loc
      have hmc : t6.heap.Ns env4.locals mc := hmc
      rw [loc4] at hmc
      obtain ⟨f0, f1, f2, f3, f4, f5⟩ := inv3.fpOk (Nat.le_refl _) noC
      exact ⟨mc, hmc, fun h'' sb => ⟨.ref D, G5, inv7.turned (t' := t6.toks) (fun b o hb e => (sb.2 b hb).trans e) f0 f1 f3 f4 f5, rfl, post⟩⟩
    · refine thnF (T.item (X.blk s3 H3 scope env4 fp) rfl rfl rfl calm i [] t5 _ G5 (fun _ _ => False) inv5 (hold inv5 emp5) at5 go) fun r t6 ⟨u, hr, k6⟩ => ?_
      subst hr
      refine thnF k6 fun _ t7 ⟨x, G7, inv7, rel7, y7, at7, emp7⟩ => ?_
      have pin7 := inv7.pinned (hold inv7 emp7) (T.obj _ _ at7)
      refine thnF (Pg.run _ t7 _ G7 x u _ pin7 rel7 (step x G7 y7)) fun _ t8 ⟨τ, G8, inv8, w8, q8⟩ => ?_
      refine thnF (Pt.run _ t8 τ G8 _ inv8 q8) fun b t9 ⟨G9, inv9, q9⟩ => ?_
      have again : ∀ {t : Shared} {G : Hp}, Inv (X.blk s3 H3 scope env4 fp) ([] ++ pinsAt fp t7.heap) τ G t → N' G → ∃ m, m < n ∧ ∃ i G, Inv (X.blk s3 H3 scope env4 fp) [] (wipe σ (own.map (·.2))) G t ∧ tn i t.heap ∧ (∀ b ∈ fp, G b = none) ∧ V' i m G := fun {t G} I nx => by
        obtain ⟨m', lt, v'⟩ := hN G nx
        have pin : ∀ b ∈ fp, ∀ o, t7.heap.get? b = some o → t.heap.get? b = some o ∧ G b = none := fun b hb o e => by
          obtain ⟨z1, z2, _⟩ := I.pin (b, o) (List.mem_append_right _ (List.mem_append_right _ (mem_pinsAt hb e)))
          exact ⟨z1, z2⟩
        refine ⟨m', lt, i + 1, G, (I.unpinned (pins := [])).weak (by rw [← w8, wipe_length]) (fun j v e => ?_), T.keep _ _ _ at7 fun b hb o e => (pin b hb o e).1, fun b hb => ?_, v'⟩
        · rw [← w8] at e
          exact (wipe_some e).1
        · obtain ⟨o, e, _⟩ := T.obj _ _ at7 b hb
          exact (pin b hb o e).2
      cases b with
      | false => exact again inv9 (by simpa using q9)
      | true =>
        simp only [if_true] at q9 ⊢
        refine thnF (Pe.run _ t9 τ G9 _ inv9 q9) fun z t10 ⟨yv, G10, inv10, rel10, c, c', hput, hD10, nx⟩ => ?_
        exact F.add (Y := X.blk s3 H3 scope env4 fp) rfl rfl inv10 hD10 hput rel10 fun t11 inv11 => again inv11 nx
  exact PpSet.codeAny_compStart_set all (T.self X.A 0 _ _ _ at4 all)
end
/-! ### ints -/
def addU (us : List Int) (k : Int) : List Int := if k ∈ us then us else us ++ [k]
/-- each once -/
def distU (ns : List Int) : List Int := ns.foldl addU []
def sortU (ns : List Int) : List Int := (distU ns).mergeSort (fun a b => decide (a ≤ b))
theorem addU_nodup {us : List Int} {k : Int} (h : us.Nodup) : (addU us k).Nodup := by
  unfold addU
  by_cases c : k ∈ us
  · rw [if_pos c]; exact h
  · rw [if_neg c, List.nodup_append]
    refine ⟨h, by simp, fun a ha b hb => ?_⟩
    rw [List.mem_singleton] at hb
    subst hb
    exact fun e => c (e ▸ ha)
theorem addU_mem {us : List Int} {k j : Int} : j ∈ addU us k ↔ j ∈ us ∨ j = k := by
  unfold addU
  by_cases c : k ∈ us
  · rw [if_pos c]
    exact ⟨.inl, fun h => h.elim id fun e => e ▸ c⟩
  · rw [if_neg c, List.mem_append, List.mem_singleton]
theorem foldU_nodup : ∀ {ns us : List Int}, us.Nodup → (ns.foldl addU us).Nodup
  | [], _, h => h
  | _ :: ns, _, h => foldU_nodup (ns := ns) (addU_nodup h)
theorem foldU_mem {j : Int} : ∀ {ns us : List Int}, j ∈ ns.foldl addU us ↔ j ∈ us ∨ j ∈ ns
  | [], us => by simp
  | n :: ns, us => by
    rw [List.foldl_cons, foldU_mem (ns := ns), addU_mem, List.mem_cons, or_assoc]
theorem foldU_len : ∀ {ns us : List Int}, (ns.foldl addU us).length ≤ us.length + ns.length
  | [], us => by simp
  | n :: ns, us => by
    have := foldU_len (ns := ns) (us := addU us n)
    have h : (addU us n).length ≤ us.length + 1 := by
      unfold addU
      split
      · omega
      · rw [List.length_append, List.length_singleton]
        exact Nat.le_refl _
    rw [List.foldl_cons, List.length_cons]
    omega
theorem distU_nodup (ns : List Int) : (distU ns).Nodup := foldU_nodup List.nodup_nil
theorem distU_mem {ns : List Int} {j : Int} : j ∈ distU ns ↔ j ∈ ns := by
  unfold distU
  rw [foldU_mem]
  simp
theorem distU_len (ns : List Int) : (distU ns).length ≤ ns.length := by
  have := foldU_len (ns := ns) (us := [])
  rw [List.length_nil, Nat.zero_add] at this
  exact this
theorem distU_snoc (ns : List Int) (k : Int) : distU (ns ++ [k]) = addU (distU ns) k := by
  unfold distU
  rw [List.foldl_append]
  rfl
theorem sortU_is {us ns : List Int} (hs : us.Pairwise (· < ·)) (hm : ∀ k, k ∈ us ↔ k ∈ ns) : us = sortU ns := by
  have p : us.Perm (distU ns) := (List.perm_ext_iff_of_nodup (hs.imp fun h e => by omega) (distU_nodup ns)).mpr fun k => (hm k).trans distU_mem.symm
  have q : (sortU ns).Perm (distU ns) := List.mergeSort_perm _ _
  have s1 : us.Pairwise (fun a b => decide (a ≤ b) = true) := hs.imp fun h => decide_eq_true (by omega)
  have s2 : (sortU ns).Pairwise (fun a b => decide (a ≤ b) = true) := List.pairwise_mergeSort (fun a b c h1 h2 => by
    have h1 := of_decide_eq_true h1
    have h2 := of_decide_eq_true h2
    exact decide_eq_true (by omega)) (fun a b => by
    rw [Bool.or_eq_true, decide_eq_true_iff, decide_eq_true_iff]
    omega) _
  exact List.Perm.eq_of_pairwise (fun a b _ _ h1 h2 => by
    have h1 := of_decide_eq_true h1
    have h2 := of_decide_eq_true h2
    omega) s1 s2 (p.trans q.symm)
section
variable {prog : Program} {w : World}
def setI (us : List Int) : Int → Bool := fun j => decide (j ∈ us)
def putI (y : V) (us us' : List Int) : Prop := ∃ k, y = .int k ∧ us.length < 4000 ∧ us' = addU us k
def famI (prog : Program) (w : World) : SetFam prog w (List Int) where
  ob D us := SetO w D (setI us) us.length
  nil := []
  put := putI
  new G h := by
    have e : setI [] = fun _ => false := by
      funext j
      simp [setI]
    show ObjOk prog w G _ _ (SetO w _ (setI []) 0)
    rw [e]
    exact setO_new (setR_fresh w)
  add := by
    intro Y hp hw pn τ G t E D us us' y u Q I hD hput hrel h
    subst hw
    obtain ⟨k, rfl, hl, rfl⟩ := hput
    obtain ⟨tk, rfl⟩ := hrel
    have R := setO_get I hD
    refine setR_add R (by unfold scanBound; omega) fun h' sb new => ?_
    have he : ∃ u, h'.get? D = some u := by
      obtain ⟨o, _, _, _, ho, _⟩ := id new
      exact ⟨o, ho⟩
    have e1 : (fun j => setI us j || decide (j = k)) = setI (addU us k) := by
      funext j
      show (decide (j ∈ us) || decide (j = k)) = decide (j ∈ addU us k)
      rw [← Bool.decide_or]
      exact decide_eq_decide.mpr addU_mem.symm
    have e2 : (if setI us k = true then us.length else us.length + 1) = (addU us k).length := by
      unfold setI addU
      by_cases c : k ∈ us
      · rw [if_pos (decide_eq_true c), if_pos c]
      · rw [if_neg (by rw [decide_eq_false c]; exact Bool.false_ne_true), if_neg c, List.length_append]
        rfl
    rw [e1, e2] at new
    exact h _ (I.write (e := D) (t' := t.toks + 1) (by rw [hD]; trivial) (.inl rfl) (fun b u hb hu => (sb.2 b hb).trans hu) he (setO_new new))
end
/-! ### the mirror -/
def scTurn (vs : List Nat) (b : BM) (tt : TM) (el : EM) (L : Loc) (d : D) (O : Store) (acc : List D) : Option (Store × List D) := match b d (wipeL L vs) O with
  | some p => match tt p.1 p.2 with
    | .ok true O2 => match el p.1 O2 with
      | .ok (.int k) O3 => if acc.length < 4000 then some (O3, acc ++ [.int k]) else none
      | _ => none
    | .ok false O2 => some (O2, acc)
    | _ => none
  | none => none
def scEnd (hm : Bool) : Option (Store × List D) → Res D
  | some p => match intsOf p.2 with
    | some ns => if (distU ns).length < 64 then newL hm ((sortU ns).map .int) p.1 else .bad
    | none => .bad
  | none => .bad
/-- sorted({el for target in src if ..}), of ints -/
def mSortSet (hm : Bool) (src : EM) (vs : List Nat) (b : BM) (tt : TM) (el : EM) : EM := fun L O => (src L O).bind fun d O1 => match lsqOf O1 d with
  | some xs => scEnd hm (lcG (fun i O => (lsqOf O d).map (·[i]?)) (scTurn vs b tt el L) xs.length 0 O1 [])
  | none => .bad
theorem intsOf_map : ∀ ns : List Int, intsOf (ns.map D.int) = some ns
  | [] => rfl
  | n :: ns => by
    show (intsOf (ns.map D.int)).map (n :: ·) = _
    rw [intsOf_map]
    rfl
section
variable {X : Cx} {ad : Str → Addr} {J : JP} {W : WX} {m : EM} {bm : BM} {tm : TM} {me : EM} {elt tg iter : Expr} {ifs : List Expr} {scope : Scope} {own : List (Str × Nat)} {pos : Pos}
theorem sc_post {It' : It} {nx : Nat → Store → Option (Option D)} {hm : Bool} {vs : List Nat} {S1 : Hp} {r1 : Rg} {L : Loc} {σ : L2.St} {Q : VK} {k : Nat} {O1 : Store} {H1 : Hp}
    (hgo : ∀ (i : Nat) (S : Hp) (r : Rg) (O : Store) (H : Hp) (d : D), Same S1 S → r1.l <+: r.l → Rs X.K ad S r O H → nx i O = some (some d) → It'.go i H ∧ ∀ x H', It'.yld i H x H' → H' = H ∧ Rp X.K S r d x)
    (hst : ∀ (i : Nat) (S : Hp) (r : Rg) (O : Store) (H : Hp), Same S1 S → r1.l <+: r.l → Rs X.K ad S r O H → nx i O = some none → It'.stop i H)
    (rl : Rl X.K S1 r1 L σ) (rs : Rs X.K ad S1 r1 O1 H1) (z : Post X.K ad (fun S r => Rp X.K S r) W σ S1 r1 Q (scEnd hm (lcG nx (scTurn vs bm tm me L) k 0 O1 []))) :
    ∀ Dn, H1 Dn = none → ∃ V' : Nat → Nat → Hp → Prop, (∃ m, V' 0 m (upd H1 Dn (SetO X.w Dn (setI []) 0))) ∧ ∀ i m H, V' i m H →
      (It'.stop i H ∧ rSortedSet X.w [.ref Dn] H Q) ∨ (It'.go i H ∧ ∃ N' : Hp → Prop, (∀ H', N' H' → ∃ m', m' < m ∧ V' (i + 1) m' H') ∧ ∀ x H', It'.yld i H x H' → tGx X.K ad vs bm x (wipe σ vs) H' fun σ2 H2 => wipe σ2 vs = wipe σ vs ∧ tTx X.K ad vs tm σ2 H2 fun b H3 =>
        if b = true then tEx X.K ad vs me σ2 H3 fun y H4 => ∃ c c', putI y c c' ∧ H4 Dn = some (SetO X.w Dn (setI c) c.length) ∧ N' (upd H4 Dn (SetO X.w Dn (setI c') c'.length)) else N' H3) := by
  intro Dn hDn
  have hfr : r1.fr Dn = none := rs.fr.free hDn
  have ww : wipe (wipe σ vs) vs = wipe σ vs := by
    have key : ∀ (us : List Nat) (τ : L2.St), (∀ u ∈ us, ∀ w, τ[u]? = some w → w = none) → wipe τ us = τ := fun us => by
      induction us with
      | nil => intro τ _; rfl
      | cons u us ih =>
        intro τ h
        unfold wipe
        rw [ih τ fun u' hu' => h u' (List.mem_cons_of_mem _ hu')]
        refine List.ext_getElem? fun n => ?_
        by_cases hn : u = n
        · subst hn
          by_cases hl : u < τ.length
          · rw [List.getElem?_set_self hl]
            have := h u List.mem_cons_self τ[u] (List.getElem?_eq_getElem hl)
            rw [List.getElem?_eq_getElem hl, this]
          · rw [List.getElem?_eq_none (by rw [List.length_set]; omega), List.getElem?_eq_none (by omega)]
        · rw [List.getElem?_set_ne hn]
    refine key vs _ fun u hu w hw => ?_
    cases w with
    | none => rfl
    | some w => exact absurd hu (wipe_some hw).2
  let so : List Int → HO := fun ns => SetO X.w Dn (setI (distU ns)) (distU ns).length
  refine ⟨fun i m H => ∃ (S : Hp) (r : Rg) (O : Store) (ns : List Int), Same S1 S ∧ r1.l <+: r.l ∧ r.fr = r1.fr ∧ Rs X.K ad S (r.at (upd r1.fr Dn (so ns))) O H ∧ Post X.K ad (fun S r => Rp X.K S r) W σ S1 r1 Q (scEnd hm (lcG nx (scTurn vs bm tm me L) m i O (ns.map D.int))),
    ⟨k, S1, r1, O1, [], Same.refl _, List.prefix_rfl, rfl, rs.hold hDn, z⟩, ?_⟩
  rintro i m H ⟨S, r, O, ns, es, el, ef, rs, z⟩
  have fin : nx i O = some none → Post X.K ad (fun S r => Rp X.K S r) W σ S1 r1 Q (scEnd hm (some (O, ns.map .int))) → It'.stop i H ∧ rSortedSet X.w [.ref Dn] H Q := fun hn z => by
    refine ⟨hst i S (r.at (upd r1.fr Dn (so ns))) O H es el rs hn, ?_⟩
    have rs' : Rs X.K ad S (r.at (upd r.fr Dn (so ns))) O H := by rw [ef]; exact rs
    obtain ⟨q1, q2, q3, q4⟩ := rs'.unhold (by rw [ef]; exact hfr)
    have e0 : Ext S1 r1 S r := ⟨es, ef, el⟩
    replace z : Post X.K ad (fun S r => Rp X.K S r) W σ S1 r1 Q (match intsOf (ns.map D.int) with
      | some ns => if (distU ns).length < 64 then newL hm ((sortU ns).map .int) O else .bad
      | none => .bad) := z
    rw [intsOf_map] at z
    replace z : Post X.K ad (fun S r => Rp X.K S r) W σ S1 r1 Q (if (distU ns).length < 64 then newL hm ((sortU ns).map .int) O else .bad) := z
    split at z
    · rename_i hl
      refine ⟨Dn, setI (distU ns), (distU ns).length, rfl, q2, hl, fun us p hs hm' hlen hp => ?_⟩
      have e : us = sortU ns := sortU_is hs fun k => (hm' k).trans ⟨fun h => distU_mem.mp (of_decide_eq_true h), fun h => decide_eq_true (distU_mem.mpr h)⟩
      rw [e]
      exact (newL_post q1 (intV_rp _) (Post.mono e0 z)).2 p hp
    · exact z.elim
  have next : ∀ m', m = m' + 1 → ∀ d, nx i O = some (some d) → Post X.K ad (fun S r => Rp X.K S r) W σ S1 r1 Q (scEnd hm (match scTurn vs bm tm me L d O (ns.map D.int) with | some p => lcG nx (scTurn vs bm tm me L) m' (i + 1) p.1 p.2 | none => none)) →
      (It'.go i H ∧ ∃ N' : Hp → Prop, (∀ H', N' H' → ∃ m'', m'' < m ∧ (∃ (S : Hp) (r : Rg) (O : Store) (ns : List Int), Same S1 S ∧ r1.l <+: r.l ∧ r.fr = r1.fr ∧ Rs X.K ad S (r.at (upd r1.fr Dn (so ns))) O H' ∧ Post X.K ad (fun S r => Rp X.K S r) W σ S1 r1 Q (scEnd hm (lcG nx (scTurn vs bm tm me L) m'' (i + 1) O (ns.map D.int))))) ∧
        ∀ x H', It'.yld i H x H' → tGx X.K ad vs bm x (wipe σ vs) H' fun σ2 H2 => wipe σ2 vs = wipe σ vs ∧ tTx X.K ad vs tm σ2 H2 fun b H3 =>
          if b = true then tEx X.K ad vs me σ2 H3 fun y H4 => ∃ c c', putI y c c' ∧ H4 Dn = some (SetO X.w Dn (setI c) c.length) ∧ N' (upd H4 Dn (SetO X.w Dn (setI c') c'.length)) else N' H3) := by
    intro m' hm' d hd z
    obtain ⟨g1, g2⟩ := hgo i S (r.at (upd r1.fr Dn (so ns))) O H d es el rs hd
    refine ⟨g1, _, fun H' hN => ⟨m', by omega, hN⟩, fun x H' hy => ?_⟩
    obtain ⟨rfl, px⟩ := g2 x H' hy
    let rr := r.at (upd r1.fr Dn (so ns))
    have rlw : Rl X.K S rr (wipeL L vs) (wipe σ vs) := ⟨(wipe_rl rl vs).len, fun n d hn => by
      obtain ⟨v, q1, q2⟩ := (wipe_rl rl vs).at_ n d hn
      exact ⟨v, q1, Rp.monoW (r' := rr) es el d v q2⟩⟩
    refine ⟨Jw vs (wipe σ vs), wipe_cl, S, rr, wipeL L vs, O, d, ww, rlw, rs, px, ?_⟩
    unfold scTurn at z
    generalize bm d (wipeL L vs) O = w at z
    cases w with
    | none => exact z.elim
    | some w =>
      intro S2 r2 σ2 H2 e2 j2 l2 s2
      refine ⟨j2, Jw vs (wipe σ vs), wipe_cl, S2, r2, w.1, w.2, j2, l2, s2, ?_⟩
      replace z : Post X.K ad (fun S r => Rp X.K S r) W σ S1 r1 Q (scEnd hm (match (match tm w.1 w.2 with
        | .ok true O2 => match me w.1 O2 with
          | .ok (.int k) O3 => if (ns.map D.int).length < 4000 then some (O3, ns.map D.int ++ [D.int k]) else none
          | _ => none
        | .ok false O2 => some (O2, ns.map D.int)
        | _ => none) with | some p => lcG nx (scTurn vs bm tm me L) m' (i + 1) p.1 p.2 | none => none)) := z
      generalize tm w.1 w.2 = t at z
      cases t with
      | exc x O3 => exact z.elim
      | bad => exact z.elim
      | ok k O3 =>
        intro S3 r3 H3 k' e3 s3 ek
        obtain rfl : k' = k := ek
        cases k' with
        | false =>
          rw [if_neg Bool.false_ne_true]
          have e23 := e2.trans e3
          have hr3 : r3 = (r3.at r1.fr).at (upd r1.fr Dn (so ns)) := by
            obtain ⟨l3, f3⟩ := r3
            have : f3 = upd r1.fr Dn (so ns) := e23.f
            subst this
            rfl
          rw [hr3] at s3
          exact ⟨S3, r3.at r1.fr, O3, ns, es.trans e23.s, List.IsPrefix.trans el e23.r, rfl, s3, z⟩
        | true =>
          rw [if_pos rfl]
          refine ⟨Jw vs (wipe σ vs), wipe_cl, S3, r3, w.1, O3, j2, l2.mono e3, s3, ?_⟩
          replace z : Post X.K ad (fun S r => Rp X.K S r) W σ S1 r1 Q (scEnd hm (match (match me w.1 O3 with
            | .ok (.int k) O3 => if (ns.map D.int).length < 4000 then some (O3, ns.map D.int ++ [D.int k]) else none
            | _ => none) with | some p => lcG nx (scTurn vs bm tm me L) m' (i + 1) p.1 p.2 | none => none)) := z
          generalize me w.1 O3 = t at z
          cases t with
          | exc x O3 => exact z.elim
          | bad => exact z.elim
          | ok y O4 =>
            intro S4 r4 H4 v e4 s4 pv
            have e24 := (e2.trans e3).trans e4
            have hr4 : r4 = (r4.at r1.fr).at (upd r1.fr Dn (so ns)) := by
              obtain ⟨l4, f4⟩ := r4
              have : f4 = upd r1.fr Dn (so ns) := e24.f
              subst this
              rfl
            rw [hr4] at s4
            cases y with
            | int k =>
              replace z : Post X.K ad (fun S r => Rp X.K S r) W σ S1 r1 Q (scEnd hm (match (if (ns.map D.int).length < 4000 then some (O4, ns.map D.int ++ [D.int k]) else none) with | some p => lcG nx (scTurn vs bm tm me L) m' (i + 1) p.1 p.2 | none => none)) := z
              rw [List.length_map] at z
              by_cases hlen : ns.length < 4000
              · rw [if_pos hlen] at z
                have hv : v = .int k := pv
                have hd := distU_len ns
                refine ⟨distU ns, distU (ns ++ [k]), ⟨k, hv, by omega, distU_snoc ns k⟩, s4.fr Dn _ upd_same, S4, r4.at r1.fr, O4, ns ++ [k], es.trans e24.s, List.IsPrefix.trans el e24.r, rfl, s4.rehold, ?_⟩
                rw [List.map_append]
                exact z
              · rw [if_neg hlen] at z
                exact z.elim
            | hdl n => exact z.elim
            | lst n => exact z.elim
            | rol n => exact z.elim
            | tup n => exact z.elim
            | non => exact z.elim
            | bl b => exact z.elim
            | str b => exact z.elim
  cases hn : nx i O with
  | none =>
    have e : lcG nx (scTurn vs bm tm me L) m i O (ns.map D.int) = none := by
      cases m with
      | zero => unfold lcG; rw [hn]
      | succ m => unfold lcG; rw [hn]
    rw [e] at z
    exact z.elim
  | some o =>
    cases o with
    | none =>
      have e : lcG nx (scTurn vs bm tm me L) m i O (ns.map D.int) = some (O, ns.map .int) := by
        cases m with
        | zero => unfold lcG; rw [hn]
        | succ m => unfold lcG; rw [hn]
      rw [e] at z
      exact .inl (fin hn z)
    | some d =>
      cases m with
      | zero =>
        have e : lcG nx (scTurn vs bm tm me L) 0 i O (ns.map D.int) = none := by unfold lcG; rw [hn]
        rw [e] at z
        exact z.elim
      | succ m =>
        have e : lcG nx (scTurn vs bm tm me L) (m + 1) i O (ns.map D.int) = (match scTurn vs bm tm me L d O (ns.map D.int) with | some p => lcG nx (scTurn vs bm tm me L) m (i + 1) p.1 p.2 | none => none) := by
          show (match nx i O with | some none => some (O, ns.map D.int) | some (some d) => (match scTurn vs bm tm me L d O (ns.map D.int) with | some p => lcG nx (scTurn vs bm tm me L) m (i + 1) p.1 p.2 | none => none) | none => none) = _
          rw [hn]
        rw [e] at z
        exact .inr (next m rfl d hn z)
theorem sc_imp {hm : Bool} : ∀ σ H Q, (tE X.K ad J W (mSortSet hm m (own.map (·.2)) bm tm me)) σ H Q → tCB (rSortedSet X.w) (tCons (tScF (famI X.prog X.w).ob (famI X.prog X.w).nil (famI X.prog X.w).put (iList X.K (tE X.K ad J W m)) (tGx X.K ad (own.map (·.2)) bm) (tTx X.K ad (own.map (·.2)) tm) (tEx X.K ad (own.map (·.2)) me) (own.map (·.2))) tNil) σ H Q := by
  rintro σ H Q ⟨S, r, L, O, j, rl, rs, z⟩
  refine ⟨S, r, L, O, j, rl, rs, (Post.bind z).imp ?_⟩
  rintro x H1 ⟨S1, r1, d, O1, e1, s1, p1, q1⟩
  replace q1 : Post X.K ad (fun S r => Rp X.K S r) W σ S1 r1 Q (match lsqOf O1 d with
    | some xs => scEnd hm (lcG (fun i O => (lsqOf O d).map (·[i]?)) (scTurn (own.map (·.2)) bm tm me L) xs.length 0 O1 [])
    | none => .bad) := q1
  split at q1
  · rename_i xs hx
    obtain ⟨a, vs, rfl, h1, h2⟩ := lsqOf_ok s1 p1 hx
    refine ⟨a, rfl, ⟨vs, h1⟩, sc_post (fun i S r O H d' es el rs hn => ?_) (fun i S r O H es el rs hn => ?_) (rl.mono e1) s1 q1⟩
    · obtain ⟨ys, hy, e⟩ := Option.map_eq_some_iff.mp (show (lsqOf O d).map (·[i]?) = some (some d') from hn)
      obtain ⟨a', us, ea, g1, g2⟩ := lsqOf_ok rs (Rp.monoW es el d _ p1) hy
      cases ea
      obtain ⟨v, hv, pv⟩ := g2.get e
      exact ⟨⟨us, v, g1, hv⟩, fun x H' hyy => ⟨hyy.1, by rw [Option.some.inj ((hyy.2 us g1).symm.trans hv)]; exact pv⟩⟩
    · obtain ⟨ys, hy, e⟩ := Option.map_eq_some_iff.mp (show (lsqOf O d).map (·[i]?) = some none from hn)
      obtain ⟨a', us, ea, g1, g2⟩ := lsqOf_ok rs (Rp.monoW es el d _ p1) hy
      cases ea
      exact ⟨us, g1, by rw [g2.length]; exact List.getElem?_eq_none_iff.mp e⟩
  · exact q1.elim
theorem de_sortSet (hm : Bool) {x : Str} {p pos' : Pos} (hc : X.calm = true) (hN : X.N.Nodup) (hx : Gl X x) (hmg : X.mg x = none) (hv : bootBuiltins x = some (.builtin "sorted")) (hi : PE X iter (tE X.K ad J W m)) (ok : BlkOk X.N X.env.scope scope own)
    (hg : ∀ (s : Shared) (H : Hp) (C : Addr) (cl : List (Str × Addr)) (fp : List Addr) (J' : JP), Cl (own.map (·.2)) J' → PG (X.blk s H scope (PySem.compEnvC scope cl C X.env) fp) tg (tG X.K ad J' bm))
    (ht : ∀ (s : Shared) (H : Hp) (C : Addr) (cl : List (Str × Addr)) (fp : List Addr) (J' : JP), Cl (own.map (·.2)) J' → PTs (X.blk s H scope (PySem.compEnvC scope cl C X.env) fp) ifs (tT X.K ad J' WF tm))
    (he : ∀ (s : Shared) (H : Hp) (C : Addr) (cl : List (Str × Addr)) (fp : List Addr) (J' : JP), Cl (own.map (·.2)) J' → PE (X.blk s H scope (PySem.compEnvC scope cl C X.env) fp) elt (tE X.K ad J' WF me)) (hs : ∀ x, foldedSetIterable iter X.env x = pure x := by intro _; rfl)
    (hn : x ≠ "__name__" := by decide) (hdb : (x == ("__debug__" : Str)) = false := by decide) (hst : starEach [.SetComp elt [⟨tg, iter, ifs, 0⟩] scope pos] X.env = (false, eval (.SetComp elt [⟨tg, iter, ifs, 0⟩] scope pos) X.env) :: starEach [] X.env := by rfl) (hpl : (backTo pos' (starEach [] X.env)).any (·.1) = false := by rfl) :
    PE X (.Call (.Name x p) [.SetComp elt [⟨tg, iter, ifs, 0⟩] scope pos] [] pos') (tE X.K ad J W (mSortSet hm m (own.map (·.2)) bm tm me)) :=
  pe_imp (pe_callB (cr_sortedSet hc) hx hmg hv (pa_cons (pe_scF (famI X.prog X.w) hc hN (pi_list hi) ok (g := tGx X.K ad (own.map (·.2)) bm) (tt := tTx X.K ad (own.map (·.2)) tm) (te := tEx X.K ad (own.map (·.2)) me) (fun s H C cl fp => gx_of (hg s H C cl fp)) (fun s H C cl fp => tx_of (ht s H C cl fp)) (fun s H C cl fp => ex_of (he s H C cl fp)) hs) pa_nil hst) hn hdb hst hpl) sc_imp
end
end DK
end
section
set_option Elab.async false
set_option linter.all false
set_option autoImplicit false
set_option maxRecDepth 100000
set_option maxHeartbeats 4000000
/-! DKIsB: `is True`, `is False` of truth values. -/
namespace DK
open PySem L2
def gIsB : Store → D → D → Option (D × Store) := fun O x y => match x, y with
  | .bl a, .bl b => some (.bl (decide (a = b)), O)
  | _, _ => none
section
variable {X : Cx} {ad : Str → Addr}
theorem od_isB : OpD X ad (compareOp .Is) gIsB where
  ok := by
    refine ⟨_, op_isBl, ?_⟩
    intro S r O H x y d e W σ Q rs px py p
    unfold gIsB at p
    split at p
    · rename_i a b
      exact ⟨a, b, px, py, p S r H _ (Ext.refl _ _) rs rfl⟩
    · exact p.elim
end
end DK
end
section
set_option Elab.async false
set_option linter.all false
set_option autoImplicit false
set_option maxRecDepth 100000
set_option maxHeartbeats 4000000
/-! DKLaws: what many laws share, in plain Lean: draws that keep the rest of the store, picks, checked numbers, sameness. -/
namespace DK
open PySem L2
theorem pmono {n a c : Nat} {O : Store} (hac : a ≤ c) : Pool a n O → Pool c n O := fun ⟨ns, z, la, li, k, h, h1, h2, h3, h4, h5, h6, h7⟩ => ⟨ns, z, la, li, k, h, h1, h2, h3, h4, h5, h6, by omega⟩
/-- what a write to the pool's place leaves -/
def Keep (n : Nat) (R : Store → Prop) : Prop := ∀ O P, R O → R (O.set n (.lst P))
theorem keep_at {n i : Nat} {x : Option Ob} (h : i ≠ n) : Keep n fun O => O[i]? = x := fun O P r => by
  show (O.set n (.lst P))[i]? = x
  rw [List.getElem?_set_ne (fun z => h z.symm)]; exact r
theorem keep_and {n : Nat} {R S : Store → Prop} (h : Keep n R) (k : Keep n S) : Keep n fun O => R O ∧ S O := fun O P r => ⟨h O P r.1, k O P r.2⟩
theorem keep_len {n : Nat} {m : Nat → Prop} : Keep n fun O => m O.length := fun O P r => by
  show m (O.set n (.lst P)).length
  rw [List.length_set]; exact r
theorem draw_R {b n : Nat} {O : Store} {R : Store → Prop} {many : Int} (k : Keep n R) (h : Pool b n O) (r : R O) (hm : 0 < many) (hm2 : many ≤ 2 ^ 64) (hb : b ≤ 2 ^ 64) :
    ∃ v O', fDraw [.hdl n, .int many] O = .ok (.int v) O' ∧ 0 ≤ v ∧ v < many ∧ Pool (b + 1) n O' ∧ R O' := by
  obtain ⟨v, P, e, v0, v1, p⟩ := draw_ok h hm hm2 hb
  exact ⟨v, _, e, v0, v1, p, k _ _ r⟩
def bPick : SM := (sRet (mOp gIx (mVar 1) (mFn (arity 2 fDraw) [] (mCons (mVar 0) (mCons (mCall (g1 gLen) (mCons (mVar 1) mNil)) mNil)))))
def fPick : FM := runF 2 bPick
theorem pick_R {b n : Nat} {O : Store} {R : Store → Prop} {ds : List D} (k : Keep n R) (h : Pool b n O) (r : R O) (h0 : 0 < ds.length) (h1 : ds.length ≤ 2 ^ 64) (hb : b ≤ 2 ^ 64) :
    ∃ d O', fPick [.hdl n, .lst ds] O = .ok d O' ∧ d ∈ ds ∧ Pool (b + 1) n O' ∧ R O' := by
  obtain ⟨v, O', e, v0, v1, hp, hr⟩ := draw_R (many := ds.length) k h r (by omega) (by omega) hb
  obtain ⟨d, hd⟩ : ∃ d, ds[v.toNat]? = some d := ⟨ds[v.toNat]'(by omega), List.getElem?_eq_getElem _⟩
  have hi : atI ds v = some d := atI_nat v0 hd
  refine ⟨d, O', ?_, List.mem_of_getElem? hd, hp, hr⟩
  simp [fPick, bPick, runF, sSeq, sIf, sNext, sDrop, sRet, sRetN, sAsg, ofRes, ofB, bName, bNil, bCons, bTup, bLst, bSubL, mTest, mOp, mVar, mC, mChain, mAnd, mOr, mNot, mIf, mAndV, mOrV, mNotV, mNeg, mCons, mNil, mTup, mLst, newL, mCall, mFn, arity, g1, g2, gLen, gInt, gAbs, gMax2, gMin2, gIx, seqOf, lsqOf, lstOf, Res.bind, ofO, gAdd_ok, gSub_ok, gEq_int, gNe_int, gLt_int, gLe_int, gGt_int, gGe_int, gEq_bl, gNe_bl, gEq_str, gNe_str, mIsi, mIsiT, tyD, kitL, kitTab, atI_c0, atI_c1, atI_c2, atI_c3, atI_c4, sForR1, int1, int2, mMeth, mMake, mFld, sFldM, gIs, gIsNot, isNon_t, sRaise, gList, newLO, e, hi]
/-! ### checked numbers -/
def bIsNum : SM := (sSeq (sIf (mOr (mTest (mIsi "bool" (mVar 0))) (mNot (mTest (mIsi "int" (mVar 0))))) (sRet (mC (.bl false))) sNext)
    (sRet (mChain gLe gLe (mVar 1) (mVar 0) (mVar 2))))
def fIsNum : FM := runF 3 bIsNum
def bChk : SM := (sSeq (sIf (mNot (mTest (mFn (arity 3 fIsNum) [] (mCons (mVar 0) (mCons (mVar 1) (mCons (mVar 2) mNil)))))) (sRaise "InvalidNumber" (mCons (mOp (gAdd false) (mOp (gAdd false) (mOp (gAdd false) (mC (.str "no number from ")) (mCall (g1 gStr) (mCons (mVar 1) mNil))) (mC (.str " to "))) (mCall (g1 gStr) (mCons (mVar 2) mNil))) mNil)) sNext)
    (sRet (mVar 0)))
def fChk : FM := runF 3 bChk
theorem chk_yes {O : Store} {v a c : Int} (h0 : a ≤ v) (h1 : v ≤ c) : fChk [.int v, .int a, .int c] O = .ok (.int v) O := by
  simp [fChk, bChk, fIsNum, bIsNum, runF, sSeq, sIf, sNext, sDrop, sRet, sRetN, sAsg, ofRes, ofB, bName, bNil, bCons, bTup, bLst, bSubL, mTest, mOp, mVar, mC, mChain, mAnd, mOr, mNot, mIf, mAndV, mOrV, mNotV, mNeg, mCons, mNil, mTup, mLst, newL, mCall, mFn, arity, g1, g2, gLen, gInt, gAbs, gMax2, gMin2, gIx, seqOf, lsqOf, lstOf, Res.bind, ofO, gAdd_ok, gSub_ok, gEq_int, gNe_int, gLt_int, gLe_int, gGt_int, gGe_int, gEq_bl, gNe_bl, gEq_str, gNe_str, mIsi, mIsiT, tyD, kitL, kitTab, atI_c0, atI_c1, atI_c2, atI_c3, atI_c4, sForR1, int1, int2, mMeth, mMake, mFld, sFldM, gIs, gIsNot, isNon_t, sRaise, gList, newLO, h0, h1]
/-- the bound's text can be told -/
def MsgOk (a c : Int) : Prop := ∃ z, ∀ (d : D) (O : Store), (mCons (mOp (gAdd false) (mOp (gAdd false) (mOp (gAdd false) (mC (.str "no number from ")) (mCall (g1 gStr) (mCons (mVar 1) mNil))) (mC (.str " to "))) (mCall (g1 gStr) (mCons (mVar 2) mNil))) mNil) [some d, some (.int a), some (.int c)] O = .ok [z] O
theorem chk_no {O : Store} {d : D} {a c : Int} (m : MsgOk a c) (h : fIsNum [d, .int a, .int c] O = .ok (.bl false) O) : fChk [d, .int a, .int c] O = .exc ⟨"InvalidNumber", none⟩ O := by
  obtain ⟨z, msg⟩ := m
  have msg := msg d O
  unfold fChk bChk
  generalize (mCons (mOp (gAdd false) (mOp (gAdd false) (mOp (gAdd false) (mC (.str "no number from ")) (mCall (g1 gStr) (mCons (mVar 1) mNil))) (mC (.str " to "))) (mCall (g1 gStr) (mCons (mVar 2) mNil))) mNil) = m at msg ⊢
  simp [runF, sSeq, sIf, sNext, sDrop, sRet, sRetN, sAsg, ofRes, ofB, bName, bNil, bCons, bTup, bLst, bSubL, mTest, mOp, mVar, mC, mChain, mAnd, mOr, mNot, mIf, mAndV, mOrV, mNotV, mNeg, mCons, mNil, mTup, mLst, newL, mCall, mFn, arity, g1, g2, gLen, gInt, gAbs, gMax2, gMin2, gIx, seqOf, lsqOf, lstOf, Res.bind, ofO, gAdd_ok, gSub_ok, gEq_int, gNe_int, gLt_int, gLe_int, gGt_int, gGe_int, gEq_bl, gNe_bl, gEq_str, gNe_str, mIsi, mIsiT, tyD, kitL, kitTab, atI_c0, atI_c1, atI_c2, atI_c3, atI_c4, sForR1, int1, int2, mMeth, mMake, mFld, sFldM, gIs, gIsNot, isNon_t, sRaise, gList, newLO, h, msg]
theorem isnum_out {O : Store} {v a c : Int} (h : v < a ∨ c < v) : fIsNum [.int v, .int a, .int c] O = .ok (.bl false) O := by
  by_cases h1 : a ≤ v
  · have h2 : ¬ v ≤ c := by omega
    simp [fIsNum, bIsNum, runF, sSeq, sIf, sNext, sDrop, sRet, sRetN, sAsg, ofRes, ofB, bName, bNil, bCons, bTup, bLst, bSubL, mTest, mOp, mVar, mC, mChain, mAnd, mOr, mNot, mIf, mAndV, mOrV, mNotV, mNeg, mCons, mNil, mTup, mLst, newL, mCall, mFn, arity, g1, g2, gLen, gInt, gAbs, gMax2, gMin2, gIx, seqOf, lsqOf, lstOf, Res.bind, ofO, gAdd_ok, gSub_ok, gEq_int, gNe_int, gLt_int, gLe_int, gGt_int, gGe_int, gEq_bl, gNe_bl, gEq_str, gNe_str, mIsi, mIsiT, tyD, kitL, kitTab, atI_c0, atI_c1, atI_c2, atI_c3, atI_c4, sForR1, int1, int2, mMeth, mMake, mFld, sFldM, gIs, gIsNot, isNon_t, sRaise, gList, newLO, h1, h2]
  · simp [fIsNum, bIsNum, runF, sSeq, sIf, sNext, sDrop, sRet, sRetN, sAsg, ofRes, ofB, bName, bNil, bCons, bTup, bLst, bSubL, mTest, mOp, mVar, mC, mChain, mAnd, mOr, mNot, mIf, mAndV, mOrV, mNotV, mNeg, mCons, mNil, mTup, mLst, newL, mCall, mFn, arity, g1, g2, gLen, gInt, gAbs, gMax2, gMin2, gIx, seqOf, lsqOf, lstOf, Res.bind, ofO, gAdd_ok, gSub_ok, gEq_int, gNe_int, gLt_int, gLe_int, gGt_int, gGe_int, gEq_bl, gNe_bl, gEq_str, gNe_str, mIsi, mIsiT, tyD, kitL, kitTab, atI_c0, atI_c1, atI_c2, atI_c3, atI_c4, sForR1, int1, int2, mMeth, mMake, mFld, sFldM, gIs, gIsNot, isNon_t, sRaise, gList, newLO, h1]
theorem isnum_bl {O : Store} {v : Bool} {a c : Int} : fIsNum [.bl v, .int a, .int c] O = .ok (.bl false) O := by
  simp [fIsNum, bIsNum, runF, sSeq, sIf, sNext, sDrop, sRet, sRetN, sAsg, ofRes, ofB, bName, bNil, bCons, bTup, bLst, bSubL, mTest, mOp, mVar, mC, mChain, mAnd, mOr, mNot, mIf, mAndV, mOrV, mNotV, mNeg, mCons, mNil, mTup, mLst, newL, mCall, mFn, arity, g1, g2, gLen, gInt, gAbs, gMax2, gMin2, gIx, seqOf, lsqOf, lstOf, Res.bind, ofO, gAdd_ok, gSub_ok, gEq_int, gNe_int, gLt_int, gLe_int, gGt_int, gGe_int, gEq_bl, gNe_bl, gEq_str, gNe_str, mIsi, mIsiT, tyD, kitL, kitTab, atI_c0, atI_c1, atI_c2, atI_c3, atI_c4, sForR1, int1, int2, mMeth, mMake, mFld, sFldM, gIs, gIsNot, isNon_t, sRaise, gList, newLO]
/-! ### comprehensions over a range -/
theorem lc_keeps {I : Nat → Store → List D → Prop} {turn : D → Store → List D → Option (Store × List D)} {ds : List D} : ∀ (k i : Nat) (O : Store) (acc : List D), ds.length = i + k → I i O acc →
    (∀ j d O acc, ds[j]? = some d → I j O acc → ∃ O' acc', turn d O acc = some (O', acc') ∧ I (j + 1) O' acc') → ∃ O' acc', lcG (fun i _ => some ds[i]?) turn k i O acc = some (O', acc') ∧ I ds.length O' acc'
  | 0, i, O, acc, h, hI, _ => by
    have e : ds[i]? = none := List.getElem?_eq_none (by omega)
    refine ⟨O, acc, ?_, by rw [show ds.length = i by omega]; exact hI⟩
    unfold lcG
    rw [e]
  | k + 1, i, O, acc, h, hI, st => by
    obtain ⟨d, hd⟩ : ∃ d, ds[i]? = some d := ⟨ds[i]'(by omega), List.getElem?_eq_getElem _⟩
    obtain ⟨O1, acc1, e1, h1⟩ := st i d O acc hd hI
    obtain ⟨O2, acc2, e2, h2⟩ := lc_keeps k (i + 1) O1 acc1 (by omega) h1 st
    refine ⟨O2, acc2, ?_, h2⟩
    unfold lcG
    rw [hd]
    show (match turn d O acc with | some p => lcG (fun i _ => some ds[i]?) turn k (i + 1) p.1 p.2 | none => none) = _
    rw [e1]
    exact e2
theorem rangeD_len (a : Int) (n : Nat) : (rangeD a n).length = n := by simp [rangeD]
/-- [el for k in range(j)], the element one that keeps the invariant -/
theorem lcR1_keeps {I : Nat → Store → List D → Prop} {t : AM} {vs : List Nat} {b : BM} {el : EM} {L : Loc} {O O1 : Store} {j : Int} (ht : t L O = .ok [.int j] O1) (h0 : 0 ≤ j) (h1 : j ≤ 100000) (hI : I 0 O1 []) (hacc : ∀ i O acc, I i O acc → acc.length ≤ 900000)
    (st : ∀ (i : Nat) O acc, (i : Int) < j → I i O acc → ∃ L' y O', b (.int (0 + (i : Int))) (wipeL L vs) O = some (L', O) ∧ el L' O = .ok y O' ∧ I (i + 1) O' (acc ++ [y])) :
    ∃ O' ys, mLcR1 false t vs b mYes el L O = .ok (.lst ys) O' ∧ I j.toNat O' ys := by
  obtain ⟨O2, ys, e, h⟩ := lc_keeps (I := I) (turn := lcTurn vs b mYes el L) (ds := rangeD 0 j.toNat) j.toNat 0 O1 [] (by rw [rangeD_len]; omega) hI fun i d O acc hd hI => by
    have hl := (List.getElem?_eq_some_iff.mp hd).1
    rw [rangeD_len] at hl
    obtain rfl : d = .int (0 + (i : Int)) := by
      unfold rangeD at hd
      rw [List.getElem?_map, List.getElem?_range hl] at hd
      exact (Option.some.inj hd).symm
    obtain ⟨L', y, O', e1, e2, h2⟩ := st i O acc (by omega) hI
    refine ⟨O', acc ++ [y], ?_, h2⟩
    show (match b (.int (0 + (i : Int))) (wipeL L vs) O with
      | some p => (match mYes p.1 p.2 with
        | .ok true O2 => (match el p.1 O2 with
          | .ok y O3 => if acc.length ≤ 900000 then some (O3, acc ++ [y]) else none
          | _ => none)
        | .ok false O2 => some (O2, acc)
        | _ => none)
      | none => none) = _
    rw [e1]
    show (match el L' O with
          | .ok y O3 => if acc.length ≤ 900000 then some (O3, acc ++ [y]) else none
          | _ => none) = _
    rw [e2]
    show (if acc.length ≤ 900000 then some (O', acc ++ [y]) else none) = _
    rw [if_pos (hacc _ _ _ hI)]
  refine ⟨O2, ys, ?_, by rw [rangeD_len] at h; exact h⟩
  show ((t L O).bind fun ds O1 => match int1 ds with
    | some j => lcEnd false (lcG (fun i _ => some (rangeD 0 j.toNat)[i]?) (lcTurn vs b mYes el L) j.toNat 0 O1 [])
    | none => .bad) = _
  rw [ht]
  show (match int1 [.int j] with
    | some j => lcEnd false (lcG (fun i _ => some (rangeD 0 j.toNat)[i]?) (lcTurn vs b mYes el L) j.toNat 0 O1 [])
    | none => .bad) = _
  rw [show int1 [.int j] = some j by simp [int1]; omega]
  show lcEnd false (lcG (fun i _ => some (rangeD 0 j.toNat)[i]?) (lcTurn vs b mYes el L) j.toNat 0 O1 []) = _
  rw [e]
  show newL false ys O2 = _
  have hy := hacc _ _ _ h
  simp [newL]
  omega
/-- a loop over a list of the store that the turns leave -/
theorem loopH_keeps {turn : D → SM} {n : Nat} {xs : List D} {I : Nat → Loc → Store → Prop} (ho : ∀ j L O, I j L O → O[n]? = some (.lst xs)) : ∀ (k i : Nat) (L : Loc) (O : Store), xs.length = i + k → I i L O →
    (∀ j d L O, xs[j]? = some d → I j L O → ∃ L' O', turn d L O = .next L' O' ∧ I (j + 1) L' O') → ∃ L' O', loopH turn n k i L O = .next L' O' ∧ I xs.length L' O'
  | 0, i, L, O, hk, h, _ => by
    refine ⟨L, O, ?_, by rw [show xs.length = i by omega]; exact h⟩
    show (match O[n]? with | some (.lst xs) => if xs.length ≤ i then SR.next L O else .bad | _ => .bad) = _
    rw [ho _ _ _ h]
    show (if xs.length ≤ i then SR.next L O else .bad) = _
    rw [if_pos (by omega)]
  | k + 1, i, L, O, hk, h, st => by
    obtain ⟨d, hd⟩ : ∃ d, xs[i]? = some d := ⟨xs[i]'(by omega), List.getElem?_eq_getElem _⟩
    obtain ⟨L1, O1, e, h1⟩ := st i d L O hd h
    obtain ⟨L2, O2, e2, h2⟩ := loopH_keeps ho k (i + 1) L1 O1 (by omega) h1 st
    refine ⟨L2, O2, ?_, h2⟩
    show (match O[n]? with
    | some (.lst xs) => match xs[i]? with
      | some d => match turn d L O with
        | .next L1 O1 => loopH turn n k (i + 1) L1 O1
        | .cnt L1 O1 => loopH turn n k (i + 1) L1 O1
        | .brk L1 O1 => .next L1 O1
        | .ret d O1 => .ret d O1
        | .exc x L1 O1 => .exc x L1 O1
        | .bad => .bad
      | none => .next L O
    | _ => .bad) = _
    rw [ho _ _ _ h]
    show (match xs[i]? with
      | some d => match turn d L O with
        | .next L1 O1 => loopH turn n k (i + 1) L1 O1
        | .cnt L1 O1 => loopH turn n k (i + 1) L1 O1
        | .brk L1 O1 => .next L1 O1
        | .ret d O1 => .ret d O1
        | .exc x L1 O1 => .exc x L1 O1
        | .bad => .bad
      | none => .next L O) = _
    rw [hd]
    show (match turn d L O with
        | .next L1 O1 => loopH turn n k (i + 1) L1 O1
        | .cnt L1 O1 => loopH turn n k (i + 1) L1 O1
        | .brk L1 O1 => .next L1 O1
        | .ret d O1 => .ret d O1
        | .exc x L1 O1 => .exc x L1 O1
        | .bad => .bad) = _
    rw [e]
    exact e2
end DK
end
section
set_option Elab.async false
set_option linter.all false
set_option autoImplicit false
set_option maxRecDepth 100000
set_option maxHeartbeats 4000000
/-! DKLoop: loops, comprehensions and frames, in plain Lean. -/
namespace DK
open PySem L2
/-! ### frames -/
/-- all but the draws' state stands as before -/
def Fr (O O' : Store) : Prop := O.length ≤ O'.length ∧ ∀ i, 0 < i → i < O.length → O'[i]? = O[i]?
theorem Fr.refl (O : Store) : Fr O O := ⟨Nat.le_refl _, fun _ _ _ => rfl⟩
theorem Fr.trans {O O1 O2 : Store} (a : Fr O O1) (b : Fr O1 O2) : Fr O O2 := ⟨Nat.le_trans a.1 b.1, fun i h0 h => (b.2 i h0 (Nat.lt_of_lt_of_le h a.1)).trans (a.2 i h0 h)⟩
theorem Fr.at {O O' : Store} {i : Nat} {x : Ob} (f : Fr O O') (h0 : 0 < i) (h : O[i]? = some x) : O'[i]? = some x := (f.2 i h0 (List.getElem?_eq_some_iff.mp h).1).trans h
theorem fr_set0 {O : Store} {p : Ob} : Fr O (O.set 0 p) := ⟨by rw [List.length_set]; exact Nat.le_refl _, fun i h0 _ => List.getElem?_set_ne (by omega)⟩
theorem fr_app {O : Store} {J : Store} : Fr O (O ++ J) := ⟨by rw [List.length_append]; omega, fun i h0 h => List.getElem?_append_left h⟩
theorem fr_setNew {O O' : Store} {n : Nat} {p : Ob} (f : Fr O O') (h : O.length ≤ n) : Fr O (O'.set n p) := ⟨by rw [List.length_set]; exact f.1, fun i h0 hi => by rw [List.getElem?_set_ne (by omega)]; exact f.2 i h0 hi⟩
/-- everything stands as before -/
def Fz (O O' : Store) : Prop := O.length ≤ O'.length ∧ ∀ i, i < O.length → O'[i]? = O[i]?
theorem Fz.refl (O : Store) : Fz O O := ⟨Nat.le_refl _, fun _ _ => rfl⟩
theorem Fz.trans {O O1 O2 : Store} (a : Fz O O1) (b : Fz O1 O2) : Fz O O2 := ⟨Nat.le_trans a.1 b.1, fun i h => (b.2 i (Nat.lt_of_lt_of_le h a.1)).trans (a.2 i h)⟩
theorem Fz.at {O O' : Store} {i : Nat} {x : Ob} (f : Fz O O') (h : O[i]? = some x) : O'[i]? = some x := (f.2 i (List.getElem?_eq_some_iff.mp h).1).trans h
theorem Fz.fr {O O' : Store} (f : Fz O O') : Fr O O' := ⟨f.1, fun i _ h => f.2 i h⟩
theorem fz_app {O : Store} {J : Store} : Fz O (O ++ J) := ⟨by rw [List.length_append]; omega, fun i h => List.getElem?_append_left h⟩
theorem fz_setNew {O O' : Store} {n : Nat} {p : Ob} (f : Fz O O') (h : O.length ≤ n) : Fz O (O'.set n p) := ⟨by rw [List.length_set]; exact f.1, fun i hi => by rw [List.getElem?_set_ne (by omega)]; exact f.2 i hi⟩
theorem Take.fz {b : Nat} {O O' : Store} (h : Take b 0 O) (f : Fz O O') : Take b 0 O' := by
  obtain ⟨ns, z, la, h, r⟩ := h
  exact ⟨ns, z, la, f.at h, r⟩
theorem Take.len {b : Nat} {O : Store} (h : Take b 0 O) : 0 < O.length := by
  obtain ⟨ns, z, la, h, r⟩ := h
  exact (List.getElem?_eq_some_iff.mp h).1
theorem Take.set {b n : Nat} {O : Store} {p : Ob} (h : Take b 0 O) (hn : n ≠ 0) : Take b 0 (O.set n p) := by
  obtain ⟨ns, z, la, h, r⟩ := h
  exact ⟨ns, z, la, by rw [List.getElem?_set_ne hn]; exact h, r⟩
theorem tk1 {b : Nat} {O : Store} {m : Int} (h : Take b 0 O) (hm : 0 < m) (hm2 : m ≤ 2 ^ 32) (hb : b ≤ 2 ^ 31) :
    ∃ v O', fTake [.hdl 0, .int m] O = .ok (.int v) O' ∧ 0 ≤ v ∧ v < m ∧ Take (b + 1) 0 O' ∧ Fr O O' ∧ O'.length = O.length := by
  obtain ⟨v, P, e, v0, v1, p⟩ := take_ok h hm (by omega) (by omega)
  exact ⟨v, _, e, v0, v1, p, fr_set0, List.length_set ..⟩
/-! ### loops -/
theorem forR1_keeps {t : AM} {b : BM} {body : SM} {I : Nat → Loc → Store → Prop} {L : Loc} {O O1 : Store} {j : Int} (ht : t L O = .ok [.int j] O1) (h0 : 0 ≤ j) (h1 : j ≤ 1000000) (hI : I 0 L O1)
    (st : ∀ (i : Nat) L O, (i : Int) < j → I i L O → ∃ L' O', turnOf b body (.int i) L O = .next L' O' ∧ I (i + 1) L' O') : ∃ L' O', sForR1 t b body L O = .next L' O' ∧ I j.toNat L' O' := by
  obtain ⟨L', O', e, h⟩ := loopD_keeps (turn := turnOf b body) (I := I) (rangeD 0 j.toNat) 0 L O1 hI fun i d L O hd hI => by
    have hl := (List.getElem?_eq_some_iff.mp hd).1
    rw [rangeD_len] at hl
    obtain rfl : d = .int (i : Int) := by
      unfold rangeD at hd
      rw [List.getElem?_map, List.getElem?_range hl] at hd
      have := (Option.some.inj hd).symm
      rw [this]
      show D.int (0 + (i : Int)) = _
      rw [Int.zero_add]
    rw [Nat.zero_add] at hI ⊢
    exact st i L O (by omega) hI
  rw [Nat.zero_add, rangeD_len] at h
  refine ⟨L', O', ?_, h⟩
  show ofRes L (t L O) (fun ds O1 => match int1 ds with
    | some j => loopD (turnOf b body) (rangeD 0 j.toNat) L O1
    | none => .bad) = _
  rw [ht]
  show (match int1 [.int j] with
    | some j => loopD (turnOf b body) (rangeD 0 j.toNat) L O1
    | none => .bad) = _
  rw [show int1 [.int j] = some j by simp [int1]; omega]
  exact e
theorem forL_keeps {m : EM} {b : BM} {body : SM} {I : Nat → Loc → Store → Prop} {L : Loc} {O O1 : Store} {ds : List D} (ht : m L O = .ok (.lst ds) O1) (hI : I 0 L O1)
    (st : ∀ (i : Nat) d L O, ds[i]? = some d → I i L O → ∃ L' O', turnOf b body d L O = .next L' O' ∧ I (i + 1) L' O') : ∃ L' O', sForL m b body L O = .next L' O' ∧ I ds.length L' O' := by
  obtain ⟨L', O', e, h⟩ := loopD_keeps (turn := turnOf b body) (I := I) ds 0 L O1 hI fun i d L O hd hI => by
    rw [Nat.zero_add] at hI ⊢
    exact st i d L O hd hI
  rw [Nat.zero_add] at h
  refine ⟨L', O', ?_, h⟩
  show ofRes L (m L O) _ = _
  rw [ht]
  exact e
/-- a turn that hands back, or all turns gone through -/
theorem loopD_seek {turn : D → SM} {I : Nat → Loc → Store → Prop} {R : D → Store → Prop} : ∀ (ds : List D) (i : Nat) (L : Loc) (O : Store), I i L O →
    (∀ j d L O, ds[j]? = some d → I (i + j) L O → (∃ L' O', turn d L O = .next L' O' ∧ I (i + j + 1) L' O') ∨ ∃ y O', turn d L O = .ret y O' ∧ R y O') →
    (∃ L' O', loopD turn ds L O = .next L' O' ∧ I (i + ds.length) L' O') ∨ ∃ y O', loopD turn ds L O = .ret y O' ∧ R y O'
  | [], i, L, O, h, _ => .inl ⟨L, O, rfl, h⟩
  | d :: ds, i, L, O, h, k => by
    rw [loopD_cons]
    rcases k 0 d L O rfl h with ⟨L1, O1, e, h1⟩ | ⟨y, O1, e, h1⟩
    · rw [e]
      have := loopD_seek (turn := turn) (I := I) (R := R) ds (i + 1) L1 O1 h1 fun j d' L O hd hI => by
        have := k (j + 1) d' L O hd (by rw [show i + (j + 1) = i + 1 + j by omega]; exact hI)
        rw [show i + (j + 1) + 1 = i + 1 + j + 1 by omega] at this
        exact this
      rw [show i + (d :: ds).length = i + 1 + ds.length by rw [List.length_cons]; omega]
      exact this
    · rw [e]
      exact .inr ⟨y, O1, rfl, h1⟩
theorem forL_seek {m : EM} {b : BM} {body : SM} {I : Nat → Loc → Store → Prop} {R : D → Store → Prop} {L : Loc} {O O1 : Store} {ds : List D} (ht : m L O = .ok (.lst ds) O1) (hI : I 0 L O1)
    (st : ∀ (i : Nat) d L O, ds[i]? = some d → I i L O → (∃ L' O', turnOf b body d L O = .next L' O' ∧ I (i + 1) L' O') ∨ ∃ y O', turnOf b body d L O = .ret y O' ∧ R y O') :
    (∃ L' O', sForL m b body L O = .next L' O' ∧ I ds.length L' O') ∨ ∃ y O', sForL m b body L O = .ret y O' ∧ R y O' := by
  have e2 : sForL m b body L O = loopD (turnOf b body) ds L O1 := by
    show ofRes L (m L O) _ = _
    rw [ht]
    rfl
  rw [e2]
  have := loopD_seek (turn := turnOf b body) (I := I) (R := R) ds 0 L O1 hI fun i d L O hd hI => by
    rw [Nat.zero_add] at hI ⊢
    exact st i d L O hd hI
  rw [Nat.zero_add] at this
  exact this
/-! ### comprehensions -/
theorem lc_pureG {nx : Nat → Store → Option (Option D)} {turn : D → Store → List D → Option (Store × List D)} {ds : List D} {O : Store} {f : D → Option D} (hn : ∀ i, nx i O = some ds[i]?)
    (ht : ∀ d ∈ ds, ∀ acc : List D, acc.length ≤ 900000 → turn d O acc = some (O, acc ++ (f d).toList)) : ∀ (k i : Nat) (acc : List D), ds.length = i + k → acc.length + k ≤ 900000 → lcG nx turn k i O acc = some (O, acc ++ (ds.drop i).filterMap f)
  | 0, i, acc, h, hl => by
    unfold lcG
    rw [hn, List.getElem?_eq_none (by omega), List.drop_eq_nil_of_le (by omega)]
    simp
  | k + 1, i, acc, h, hl => by
    have hi : i < ds.length := by omega
    unfold lcG
    rw [hn, List.getElem?_eq_getElem hi]
    show (match turn ds[i] O acc with | some p => lcG nx turn k (i + 1) p.1 p.2 | none => none) = _
    rw [ht _ (List.getElem_mem hi) acc (by omega)]
    show lcG nx turn k (i + 1) O (acc ++ (f ds[i]).toList) = _
    have hz : (f ds[i]).toList.length ≤ 1 := by cases f ds[i] <;> simp
    rw [lc_pureG hn ht k (i + 1) _ (by omega) (by rw [List.length_append]; omega), List.drop_eq_getElem_cons hi, List.filterMap_cons, List.append_assoc]
    cases f ds[i] <;> rfl
theorem lcL_pure {src : EM} {vs : List Nat} {b : BM} {tt : TM} {el : EM} {L : Loc} {O O1 : Store} {d : D} {ds : List D} (f : D → Option D) (hs : src L O = .ok d O1) (hd : lsqOf O1 d = some ds) (hl : ds.length ≤ 900000)
    (st : ∀ d ∈ ds, ∃ L', b d (wipeL L vs) O1 = some (L', O1) ∧ ((∃ y, tt L' O1 = .ok true O1 ∧ el L' O1 = .ok y O1 ∧ f d = some y) ∨ (tt L' O1 = .ok false O1 ∧ f d = none))) :
    mLcL false src vs b tt el L O = .ok (.lst (ds.filterMap f)) O1 := by
  show ((src L O).bind fun d O1 => match lsqOf O1 d with
    | some xs => lcEnd false (lcG (fun i O => (lsqOf O d).map (·[i]?)) (lcTurn vs b tt el L) xs.length 0 O1 [])
    | none => .bad) = _
  rw [hs]
  show (match lsqOf O1 d with
    | some xs => lcEnd false (lcG (fun i O => (lsqOf O d).map (·[i]?)) (lcTurn vs b tt el L) xs.length 0 O1 [])
    | none => .bad) = _
  rw [hd]
  show lcEnd false (lcG (fun i O => (lsqOf O d).map (·[i]?)) (lcTurn vs b tt el L) ds.length 0 O1 []) = _
  rw [lc_pureG (f := f) (ds := ds) (fun i => by rw [hd]; rfl) (fun d' hd' acc ha => by
    obtain ⟨L', e1, e2⟩ := st d' hd'
    show (match b d' (wipeL L vs) O1 with
      | some p => (match tt p.1 p.2 with
        | .ok true O2 => (match el p.1 O2 with
          | .ok y O3 => if acc.length ≤ 900000 then some (O3, acc ++ [y]) else none
          | _ => none)
        | .ok false O2 => some (O2, acc)
        | _ => none)
      | none => none) = _
    rw [e1]
    rcases e2 with ⟨y, e2, e3, e4⟩ | ⟨e2, e4⟩
    · simp only [e2, e3, e4, if_pos ha]
      rfl
    · simp only [e2, e4]
      simp) ds.length 0 [] (by omega) (by simpa using hl)]
  show newL false ([] ++ (ds.drop 0).filterMap f) O1 = _
  have : (ds.filterMap f).length ≤ 1000000 := Nat.le_trans (List.length_filterMap_le ..) (by omega)
  simp [newL, this]
/-- elements and tests that may change the store -/
theorem lcL_keeps {I : Nat → Store → List D → Prop} {src : EM} {vs : List Nat} {b : BM} {tt : TM} {el : EM} {L : Loc} {O O1 : Store} {ds : List D} (hs : src L O = .ok (.lst ds) O1) (hI : I 0 O1 []) (hl : ds.length ≤ 800000)
    (st : ∀ (i : Nat) d O acc, ds[i]? = some d → acc.length ≤ i → I i O acc → ∃ L' O' acc', b d (wipeL L vs) O = some (L', O) ∧ ((∃ y O2, tt L' O = .ok true O2 ∧ el L' O2 = .ok y O' ∧ acc' = acc ++ [y]) ∨ (tt L' O = .ok false O' ∧ acc' = acc)) ∧ I (i + 1) O' acc') :
    ∃ O' ys, mLcL false src vs b tt el L O = .ok (.lst ys) O' ∧ I ds.length O' ys ∧ ys.length ≤ ds.length := by
  obtain ⟨O2, ys, e, h, hy⟩ := lc_keeps (I := fun i O acc => I i O acc ∧ acc.length ≤ i) (turn := lcTurn vs b tt el L) (ds := ds) ds.length 0 O1 [] (by omega) ⟨hI, Nat.le_refl _⟩ fun i d O acc hd ⟨hI, ha⟩ => by
    have hi := (List.getElem?_eq_some_iff.mp hd).1
    obtain ⟨L', O', acc', e1, e2, h2⟩ := st i d O acc hd ha hI
    refine ⟨O', acc', ?_, h2, ?_⟩
    · show (match b d (wipeL L vs) O with
        | some p => (match tt p.1 p.2 with
          | .ok true O2 => (match el p.1 O2 with
            | .ok y O3 => if acc.length ≤ 900000 then some (O3, acc ++ [y]) else none
            | _ => none)
          | .ok false O2 => some (O2, acc)
          | _ => none)
        | none => none) = _
      rw [e1]
      rcases e2 with ⟨y, O2, e2, e3, rfl⟩ | ⟨e2, rfl⟩
      · simp only [e2, e3, if_pos (show acc.length ≤ 900000 by omega)]
      · simp only [e2]
    · rcases e2 with ⟨y, O2, e2, e3, rfl⟩ | ⟨e2, rfl⟩
      · rw [List.length_append, List.length_singleton]; omega
      · omega
  refine ⟨O2, ys, ?_, h, hy⟩
  show ((src L O).bind fun d O1 => match lsqOf O1 d with
    | some xs => lcEnd false (lcG (fun i O => (lsqOf O d).map (·[i]?)) (lcTurn vs b tt el L) xs.length 0 O1 [])
    | none => .bad) = _
  rw [hs]
  show lcEnd false (lcG (fun i _ => some ds[i]?) (lcTurn vs b tt el L) ds.length 0 O1 []) = _
  rw [e]
  show newL false ys O2 = _
  simp [newL]
  omega
/-! ### lists that grow -/
theorem app_ok {m e : EM} {L : Loc} {O O1 O2 : Store} {n : Nat} {xs0 xs : List D} {y : D} (hm : m L O = .ok (.hdl n) O1) (h0 : O1[n]? = some (.lst xs0)) (he : e L O1 = .ok y O2) (h1 : O2[n]? = some (.lst xs)) (hl : xs.length ≤ 1000000) :
    mApp m e L O = .ok .non (O2.set n (.lst (xs ++ [y]))) := by
  simp [mApp, hm, Res.bind, lstOf, h0, he, h1, hl]
theorem slice_to {O : Store} {xs : List D} {v : Int} (h0 : 0 ≤ v) (hl : xs.length ≤ 1000000) : gSl false (.lst xs) none (some v) O = .ok (.lst (xs.take v.toNat)) O := by
  show newL false (cutD xs none (some v)) O = _
  have e : cutD xs none (some v) = xs.take v.toNat := by
    unfold cutD
    rw [show HT.sIx xs.length 0 none = 0 from rfl]
    show (xs.drop 0).take ((if v < 0 then (v + (xs.length : Int)).toNat else min v.toNat xs.length) - 0) = _
    rw [if_neg (by omega), List.drop_zero, Nat.sub_zero]
    rcases Nat.le_total v.toNat xs.length with c | c
    · rw [Nat.min_eq_left c]
    · rw [Nat.min_eq_right c, List.take_length, List.take_of_length_le c]
  rw [e]
  have : (xs.take v.toNat).length ≤ 1000000 := by rw [List.length_take]; omega
  simp [newL]
  omega
/-! ### texts in order -/
theorem ltSV_total {a b : Str} (h : a ≠ b) : ltSV a b = true ∨ ltSV b a = true := by
  cases h1 : ltSV a b
  · cases h2 : ltSV b a
    · exact absurd (leS_anti a b (by unfold leS; unfold ltSV at h2; rw [h2]; rfl) (by unfold leS; unfold ltSV at h1; rw [h1]; rfl)) h
    · exact .inr rfl
  · exact .inl rfl
theorem ltSV_asym {a b : Str} (h : ltSV a b = true) : ltSV b a = false := by
  cases h2 : ltSV b a
  · rfl
  · have := leS_total a b
    unfold leS at this
    unfold ltSV at h h2
    rw [h, h2] at this
    simp at this
theorem ltSV_ne {a b : Str} (h : ltSV a b = true) : a ≠ b := by
  intro z
  subst z
  have := ltSV_asym h
  rw [h] at this
  cases this
/-- the lesser and the greater one of two texts -/
theorem minmax {a b : Str} (h : a ≠ b) : ∃ x y, (if ltSV b a = true then b else a) = x ∧ (if ltSV a b = true then b else a) = y ∧ ltSV x y = true ∧ ((x = a ∧ y = b) ∨ (x = b ∧ y = a)) := by
  rcases ltSV_total h with h1 | h1
  · have h2 := ltSV_asym h1
    exact ⟨a, b, by rw [h2]; rfl, by rw [h1]; rfl, h1, .inl ⟨rfl, rfl⟩⟩
  · have h2 := ltSV_asym h1
    exact ⟨b, a, by rw [h1]; rfl, by rw [h2]; rfl, h1, .inr ⟨rfl, rfl⟩⟩
end DK
end
section
set_option Elab.async false
set_option linter.all false
set_option autoImplicit false
set_option maxRecDepth 100000
set_option maxHeartbeats 4000000
/-! DKEq: == of values that stand as they are, in plain Lean. -/
namespace DK
open PySem L2
mutual
def pdD : D → PyData
  | .non => .none
  | .bl b => .bool b
  | .int i => .int i
  | .str s => .str s
  | .lst xs => .list (pdAll xs)
  | .rol xs => .list (pdAll xs)
  | .tup xs => .tuple (pdAll xs)
  | .hdl _ => .none
def pdAll : List D → List PyData
  | [] => []
  | x :: xs => pdD x :: pdAll xs
end
mutual
/-- no object of the store within, at most n deep -/
def okV : D → Nat → Bool
  | .non, _ => true
  | .bl _, _ => true
  | .int _, _ => true
  | .str s, _ => PySem.PyData.strOk s
  | .lst xs, n => okAll xs (n - 1) && decide (0 < n)
  | .rol xs, n => okAll xs (n - 1) && decide (0 < n)
  | .tup xs, n => okAll xs (n - 1) && decide (0 < n)
  | .hdl _, _ => false
def okAll : List D → Nat → Bool
  | [], _ => true
  | x :: xs, n => okV x n && okAll xs n
end
mutual
theorem deep_pd (O : Store) : ∀ (d : D) (n : Nat), okV d n = true → deep O (n + 1) d = some (pdD d)
  | .non, n, _ => rfl
  | .bl _, n, _ => rfl
  | .int _, n, _ => rfl
  | .str _, n, _ => rfl
  | .hdl _, n, h => by cases h
  | .lst xs, n, h => by
    obtain ⟨h1, h2⟩ := Bool.and_eq_true_iff.mp (show (okAll xs (n - 1) && decide (0 < n)) = true from h)
    have h2 := of_decide_eq_true h2
    show (xs.mapM (deep O n)).map PyData.list = _
    have := deep_pdAll O xs (n - 1) h1
    rw [show n - 1 + 1 = n by omega] at this
    rw [this]
    rfl
  | .rol xs, n, h => by
    obtain ⟨h1, h2⟩ := Bool.and_eq_true_iff.mp (show (okAll xs (n - 1) && decide (0 < n)) = true from h)
    have h2 := of_decide_eq_true h2
    show (xs.mapM (deep O n)).map PyData.list = _
    have := deep_pdAll O xs (n - 1) h1
    rw [show n - 1 + 1 = n by omega] at this
    rw [this]
    rfl
  | .tup xs, n, h => by
    obtain ⟨h1, h2⟩ := Bool.and_eq_true_iff.mp (show (okAll xs (n - 1) && decide (0 < n)) = true from h)
    have h2 := of_decide_eq_true h2
    show (xs.mapM (deep O n)).map PyData.tuple = _
    have := deep_pdAll O xs (n - 1) h1
    rw [show n - 1 + 1 = n by omega] at this
    rw [this]
    rfl
theorem deep_pdAll (O : Store) : ∀ (ds : List D) (n : Nat), okAll ds n = true → ds.mapM (deep O (n + 1)) = some (pdAll ds)
  | [], n, _ => by simp [pdAll]
  | d :: ds, n, h => by
    obtain ⟨h1, h2⟩ := Bool.and_eq_true_iff.mp (show (okV d n && okAll ds n) = true from h)
    rw [mapM_cons, deep_pd O d n h1]
    show (ds.mapM (deep O (n + 1))).bind _ = _
    rw [deep_pdAll O ds n h2]
    rfl
end
mutual
theorem shape_pd : ∀ (d : D) (n : Nat), okV d n = true → (pdD d).canLay0 = true ∧ (pdD d).depth ≤ n
  | .non, n, _ => ⟨rfl, Nat.zero_le _⟩
  | .bl _, n, _ => ⟨rfl, Nat.zero_le _⟩
  | .int _, n, _ => ⟨rfl, Nat.zero_le _⟩
  | .str s, n, h => ⟨by simpa [pdD, PyData.canLay0, okV] using h, Nat.zero_le _⟩
  | .hdl _, n, h => by cases h
  | .lst xs, n, h => by
    obtain ⟨h1, h2⟩ := Bool.and_eq_true_iff.mp (show (okAll xs (n - 1) && decide (0 < n)) = true from h)
    have h2 := of_decide_eq_true h2
    obtain ⟨q1, q2⟩ := shape_pdAll xs (n - 1) h1
    exact ⟨by simpa [pdD, PyData.canLay0] using q1, by simp only [pdD, PyData.depth]; omega⟩
  | .rol xs, n, h => by
    obtain ⟨h1, h2⟩ := Bool.and_eq_true_iff.mp (show (okAll xs (n - 1) && decide (0 < n)) = true from h)
    have h2 := of_decide_eq_true h2
    obtain ⟨q1, q2⟩ := shape_pdAll xs (n - 1) h1
    exact ⟨by simpa [pdD, PyData.canLay0] using q1, by simp only [pdD, PyData.depth]; omega⟩
  | .tup xs, n, h => by
    obtain ⟨h1, h2⟩ := Bool.and_eq_true_iff.mp (show (okAll xs (n - 1) && decide (0 < n)) = true from h)
    have h2 := of_decide_eq_true h2
    obtain ⟨q1, q2⟩ := shape_pdAll xs (n - 1) h1
    exact ⟨by simpa [pdD, PyData.canLay0] using q1, by simp only [pdD, PyData.depth]; omega⟩
theorem shape_pdAll : ∀ (ds : List D) (n : Nat), okAll ds n = true → PyData.canLayAll0 (pdAll ds) = true ∧ PyData.depthAll (pdAll ds) ≤ n
  | [], n, _ => ⟨by simp [pdAll, PyData.canLayAll0], by simp [pdAll, PyData.depthAll]⟩
  | d :: ds, n, h => by
    obtain ⟨h1, h2⟩ := Bool.and_eq_true_iff.mp (show (okV d n && okAll ds n) = true from h)
    obtain ⟨p1, p2⟩ := shape_pd d n h1
    obtain ⟨q1, q2⟩ := shape_pdAll ds n h2
    exact ⟨by simp [pdAll, PyData.canLayAll0, p1, q1], by simp only [pdAll, PyData.depthAll]; omega⟩
end
theorem shaped_pd {d : D} (h : okV d 29 = true) : SeqAt.shaped (pdD d) = true := by
  obtain ⟨h1, h2⟩ := shape_pd d 29 h
  unfold SeqAt.shaped
  rw [h1]
  simp
  all_goals omega
theorem eqD_pd {O : Store} {x y : D} (hx : okV x 29 = true) (hy : okV y 29 = true) (hf : flatOf x = none ∨ flatOf y = none) : eqD O x y = some (PyData.eqv (pdD x) (pdD y)) := by
  have e : eqD O x y = match deep O 30 x, deep O 30 y with
    | some p, some q => if SeqAt.shaped p = true ∧ SeqAt.shaped q = true then some (PyData.eqv p q) else none
    | _, _ => none := by
    unfold eqD
    rcases hf with hf | hf
    · rw [hf]
      all_goals (cases flatOf y <;> rfl)
    · rw [hf]
      all_goals (cases flatOf x <;> rfl)
  rw [e, deep_pd O x 29 hx, deep_pd O y 29 hy]
  show (if SeqAt.shaped (pdD x) = true ∧ SeqAt.shaped (pdD y) = true then some (PyData.eqv (pdD x) (pdD y)) else none) = _
  rw [if_pos ⟨shaped_pd hx, shaped_pd hy⟩]
theorem eqv_self {x : D} (hx : okV x 29 = true) : PyData.eqv (pdD x) (pdD x) = true := PySem.SeqAt.eqv_refl_plain _ (PyData.plain_of_canLay0 _ (shape_pd x 29 hx).1)
/-- an object of the store reads as its list -/
theorem eqD_hl {O : Store} {n : Nat} {xs : List D} {y : D} (h : O[n]? = some (.lst xs)) : eqD O (.hdl n) y = eqD O (.lst xs) y := by
  have e : deep O 30 (.hdl n) = deep O 30 (.lst xs) := by
    show (match O[n]? with | some (.lst xs) => (xs.mapM (deep O 29)).map PyData.list | _ => none) = _
    rw [h]
    rfl
  unfold eqD
  rw [e]
  rfl
theorem eqD_hr {O : Store} {n : Nat} {xs : List D} {y : D} (h : O[n]? = some (.lst xs)) : eqD O y (.hdl n) = eqD O y (.lst xs) := by
  have e : deep O 30 (.hdl n) = deep O 30 (.lst xs) := by
    show (match O[n]? with | some (.lst xs) => (xs.mapM (deep O 29)).map PyData.list | _ => none) = _
    rw [h]
    rfl
  unfold eqD
  rw [e]
  cases flatOf y <;> rfl
theorem gEq_of {O : Store} {x y : D} {b : Bool} (h : eqD O x y = some b) : gEq O x y = some (.bl b, O) := by unfold gEq; rw [h]
theorem gNe_of {O : Store} {x y : D} {b : Bool} (h : eqD O x y = some b) : gNe O x y = some (.bl (!b), O) := by unfold gNe; rw [h]
theorem gEq_self {O : Store} {x : D} (hx : okV x 29 = true) (hf : flatOf x = none) : gEq O x x = some (.bl true, O) := by rw [gEq_of (eqD_pd hx hx (.inl hf)), eqv_self hx]
theorem gNe_self {O : Store} {x : D} (hx : okV x 29 = true) (hf : flatOf x = none) : gNe O x x = some (.bl false, O) := by rw [gNe_of (eqD_pd hx hx (.inl hf)), eqv_self hx]; rfl
theorem okAll_of {n : Nat} : ∀ {ds : List D}, (∀ d ∈ ds, okV d n = true) → okAll ds n = true
  | [], _ => rfl
  | d :: ds, h => by
    show (okV d n && okAll ds n) = true
    rw [h d (by simp), okAll_of fun x hx => h x (List.mem_cons_of_mem _ hx)]
    rfl
theorem okV_lst {n : Nat} {ds : List D} (h : ∀ d ∈ ds, okV d n = true) : okV (.lst ds) (n + 1) = true := by
  show (okAll ds (n + 1 - 1) && decide (0 < n + 1)) = true
  rw [Nat.add_sub_cancel, okAll_of h]
  simp
theorem okV_tup {n : Nat} {ds : List D} (h : ∀ d ∈ ds, okV d n = true) : okV (.tup ds) (n + 1) = true := by
  show (okAll ds (n + 1 - 1) && decide (0 < n + 1)) = true
  rw [Nat.add_sub_cancel, okAll_of h]
  simp
theorem okV_strs {n : Nat} {xs : List Str} (h : ∀ x ∈ xs, PyData.strOk x = true) : okV (.lst (xs.map .str)) (n + 1) = true := okV_lst fun d hd => by
  obtain ⟨x, hx, rfl⟩ := List.mem_map.mp hd
  exact h x hx
end DK
end
section
set_option Elab.async false
set_option linter.all false
set_option autoImplicit false
set_option maxRecDepth 100000
set_option maxHeartbeats 4000000
/-! mirrors that many laws share: printed by mirrors.py. -/
namespace DK.W
open PySem L2 DK
def b_law_cell : SM := (sSeq (sIf (mTest (mOp gLt (mVar 1) (mCall (g1 gLen) (mCons (mVar 0) mNil)))) (sRet (mCall (g1 gAbs) (mCons (mCall (g1 gInt) (mCons (mOp gIx (mVar 0) (mVar 1)) mNil)) mNil))) sNext)
    (sRet (mOp (gAdd false) (mOp gMul (mC (.int 37)) (mVar 1)) (mC (.int 11)))))
def f_law_cell : FM := runF 2 b_law_cell
def b_law_take : SM := (sSeq (sIf (mTest (mOp gGt (mOp gIx (mVar 0) (mC (.int 2))) (mC (.int 0)))) (sSeq (sAsg (mOp gMod (mCall (g1 gInt) (mCons (mOp gIx (mVar 0) (mC (.int 2))) mNil)) (mVar 1)) (bName 2))
    (sSeq (sAsg (mOp gFdiv (mCall (g1 gInt) (mCons (mOp gIx (mVar 0) (mC (.int 2))) mNil)) (mVar 1)) (bSubL (mVar 0) (mC (.int 2))))
    (sRet (mVar 2)))) sNext)
    (sSeq (sAsg (mFn (arity 2 f_law_cell) [] (mCons (mOp gIx (mVar 0) (mC (.int 0))) (mCons (mOp gIx (mVar 0) (mC (.int 1))) mNil))) (bName 3))
    (sSeq (sAsg (mOp (gAdd false) (mOp gIx (mVar 0) (mC (.int 1))) (mC (.int 1))) (bSubL (mVar 0) (mC (.int 1))))
    (sSeq (sIf (mTest (mOp gGe (mVar 3) (mOp gPow (mC (.int 10)) (mC (.int 9))))) (sAsg (mOp gFdiv (mCall (g1 gInt) (mCons (mVar 3) mNil)) (mVar 1)) (bSubL (mVar 0) (mC (.int 2)))) sNext)
    (sRet (mOp gMod (mCall (g1 gInt) (mCons (mVar 3) mNil)) (mVar 1)))))))
def f_law_take : FM := runF 4 b_law_take
def b_law_plant : SM := (sSeq (sAsg (mOp gIx (mVar 2) (mFn (arity 2 f_law_take) [] (mCons (mVar 0) (mCons (mCall (g1 gLen) (mCons (mVar 2) mNil)) mNil)))) (bName 3))
    (sSeq (sAsg (mOp gIx (mLst false (mCons (mC (.int 0)) (mCons (mC (.int 3)) (mCons (mC (.int 5)) (mCons (mC (.int 9)) (mCons (mC (.int 12)) (mCons (mC (.int 20)) mNil))))))) (mFn (arity 2 f_law_take) [] (mCons (mVar 0) (mCons (mC (.int 6)) mNil)))) (bName 4))
    (sSeq (sIf (mOr (mTest (mOp gEq (mFn (arity 2 f_law_take) [] (mCons (mVar 0) (mCons (mC (.int 3)) mNil))) (mC (.int 0)))) (mTest (mOp gEq (mVar 1) (mC (.str "pa"))))) (sSeq (sAsg (mOp (gAdd false) (mC (.int 1)) (mFn (arity 2 f_law_take) [] (mCons (mVar 0) (mCons (mC (.int 9)) mNil)))) (bName 5))
    (sRet (mTup (mCons (mVar 1) (mCons (mVar 3) (mCons (mC (.int 0)) (mCons (mVar 4) (mCons (mVar 5) (mCons (mC (.int 1000000)) (mCons (mC (.int 1000000)) (mCons (mVar 5) (mCons (mC (.bl true)) mNil)))))))))))) sNext)
    (sSeq (sAsg (mOp gIx (mLst false (mCons (mC (.int 0)) (mCons (mC (.int 3)) (mCons (mC (.int 5)) (mCons (mC (.int 9)) (mCons (mC (.int 14)) (mCons (mC (.int 25)) mNil))))))) (mFn (arity 2 f_law_take) [] (mCons (mVar 0) (mCons (mC (.int 6)) mNil)))) (bName 6))
    (sSeq (sAsg (mOp (gAdd false) (mC (.int 1)) (mFn (arity 2 f_law_take) [] (mCons (mVar 0) (mCons (mC (.int 6)) mNil)))) (bName 7))
    (sSeq (sAsg (mOp gIx (mLst false (mCons (mC (.int 0)) (mCons (mC (.int 4)) (mCons (mC (.int 9)) (mCons (mC (.int 15)) (mCons (mC (.int 30)) (mCons (mC (.int 200)) mNil))))))) (mFn (arity 2 f_law_take) [] (mCons (mVar 0) (mCons (mC (.int 6)) mNil)))) (bName 8))
    (sSeq (sAsg (mOp (gAdd false) (mVar 8) (mOp gIx (mLst false (mCons (mC (.int 0)) (mCons (mC (.int 1)) (mCons (mC (.int 5)) (mCons (mC (.int 12)) (mCons (mC (.int 40)) mNil)))))) (mFn (arity 2 f_law_take) [] (mCons (mVar 0) (mCons (mC (.int 5)) mNil))))) (bName 9))
    (sRet (mTup (mCons (mVar 1) (mCons (mVar 3) (mCons (mVar 6) (mCons (mVar 4) (mCons (mVar 7) (mCons (mVar 8) (mCons (mVar 9) (mCons (mOp (gAdd false) (mVar 7) (mFn (arity 2 f_law_take) [] (mCons (mVar 0) (mCons (mC (.int 9)) mNil)))) (mCons (mC (.bl false)) mNil))))))))))))))))))
def f_law_plant : FM := runF 10 b_law_plant
def b_law_line : SM := (sSeq (sAsg (mFn (arity 2 f_law_take) [] (mCons (mVar 0) (mCons (mCall (g1 gLen) (mCons (mVar 2) mNil)) mNil))) (bName 3))
    (sSeq (sAsg (mOp gMod (mOp (gAdd false) (mOp (gAdd false) (mVar 3) (mC (.int 1))) (mFn (arity 2 f_law_take) [] (mCons (mVar 0) (mCons (mOp gSub (mCall (g1 gLen) (mCons (mVar 2) mNil)) (mC (.int 1))) mNil)))) (mCall (g1 gLen) (mCons (mVar 2) mNil))) (bName 4))
    (sSeq (sAsg (mOp gIx (mLst false (mCons (mC (.int 0)) (mCons (mC (.int 0)) (mCons (mC (.int 3)) (mCons (mC (.int 8)) (mCons (mC (.int 12)) (mCons (mC (.int 20)) (mCons (mC (.int 31)) mNil)))))))) (mFn (arity 2 f_law_take) [] (mCons (mVar 0) (mCons (mC (.int 7)) mNil)))) (bName 5))
    (sRet (mTup (mCons (mVar 1) (mCons (mCall (g2 gMinA) (mCons (mOp gIx (mVar 2) (mVar 3)) (mCons (mOp gIx (mVar 2) (mVar 4)) mNil))) (mCons (mCall (g2 gMaxA) (mCons (mOp gIx (mVar 2) (mVar 3)) (mCons (mOp gIx (mVar 2) (mVar 4)) mNil))) (mCons (mVar 5) (mCons (mOp (gAdd false) (mC (.int 1)) (mFn (arity 2 f_law_take) [] (mCons (mVar 0) (mCons (mC (.int 9)) mNil)))) mNil))))))))))
def f_law_line : FM := runF 6 b_law_line
def b_law_world : SM := (sSeq (sAsg (mSl false (mLst false (mCons (mC (.str "ash")) (mCons (mC (.str "bay")) (mCons (mC (.str "elm")) (mCons (mC (.str "fir")) (mCons (mC (.str "gum")) (mCons (mC (.str "ivy")) mNil))))))) oNone (oSome (mOp (gAdd false) (mC (.int 1)) (mFn (arity 2 f_law_take) [] (mCons (mVar 0) (mCons (mC (.int 6)) mNil)))))) (bName 1))
    (sSeq (sAsg (mLst true mNil) (bName 2))
    (sSeq (sIf (mTest (mOp gGt (mCall (g1 gLen) (mCons (mVar 1) mNil)) (mC (.int 1)))) (sForR1 (mCons (mFn (arity 2 f_law_take) [] (mCons (mVar 0) (mCons (mC (.int 9)) mNil))) mNil) (bName 3) (sDrop (mApp (mVar 2) (mFn (arity 3 f_law_line) [] (mCons (mVar 0) (mCons (mOp (gAdd false) (mC (.str "l")) (mOp gIx (mC (.str "abcdefgh")) (mVar 3))) (mCons (mVar 1) mNil))))))) sNext)
    (sSeq (sAsg (mLst true mNil) (bName 4))
    (sSeq (sForR1 (mCons (mFn (arity 2 f_law_take) [] (mCons (mVar 0) (mCons (mC (.int 6)) mNil))) mNil) (bName 3) (sDrop (mApp (mVar 4) (mFn (arity 3 f_law_plant) [] (mCons (mVar 0) (mCons (mOp (gAdd false) (mC (.str "p")) (mOp gIx (mC (.str "abcde")) (mVar 3))) (mCons (mVar 1) mNil)))))))
    (sRet (mLst false (mCons (mVar 1) (mCons (mFrz (mVar 2)) (mCons (mFrz (mVar 4)) mNil))))))))))
def f_law_world : FM := runF 5 b_law_world
def b_land_init : SM := (sSeq (sFldM "Land" "_stations" (mVar 0) (mLst true mNil))
    (sSeq (sFldM "Land" "_lines" (mVar 0) mDNew)
    (sSeq (sFldM "Land" "_plants" (mVar 0) mDNew)
    (sFldM "Land" "_selves" (mVar 0) (mLst true mNil)))))
def f_land_init : FM := runF 1 b_land_init
def b_is_name : SM := (sSeq (sIf (mOr (mNot (mTest (mIsi "str" (mVar 0)))) (mNot (mTest (mChain gLe gLe (mC (.int 1)) (mCall (g1 gLen) (mCons (mVar 0) mNil)) (mC (.int 12)))))) (sRet (mC (.bl false))) sNext)
    (sSeq (sForS (mVar 0) (bName 1) (sIf (mTest (mOp gNotIn (mVar 1) (mC (.str "abcdefghijklmnopqrstuvwxyz")))) (sRet (mC (.bl false))) sNext))
    (sRet (mC (.bl true)))))
def f_is_name : FM := runF 2 b_is_name
def b_checked_name : SM := (sSeq (sIf (mNot (mTest (mFn (arity 1 f_is_name) [] (mCons (mVar 0) mNil)))) (sRaise "InvalidName" (mCons (mC (.str "no name")) mNil)) sNext)
    (sRet (mVar 0)))
def f_checked_name : FM := runF 1 b_checked_name
def b_land_kind : SM := (sSeq (sIf (mTest (mOp gIn (mVar 1) (mFld "Land" "_stations" (mVar 0)))) (sRet (mC (.str "station"))) sNext)
    (sSeq (sIf (mTest (mDIn true (mVar 1) (mFld "Land" "_lines" (mVar 0)))) (sRet (mC (.str "line"))) sNext)
    (sSeq (sIf (mTest (mDIn true (mVar 1) (mFld "Land" "_plants" (mVar 0)))) (sRet (mC (.str "plant"))) sNext)
    (sRet (mC .non)))))
def f_land_kind : FM := runF 2 b_land_kind
def b_land_free : SM := (sSeq (sDrop (mFn (arity 1 f_checked_name) [] (mCons (mVar 1) mNil)))
    (sIf (mTest (mOp gIsNot (mMeth "Land" "kind" (arity 2 f_land_kind) [] (mVar 0) (mCons (mVar 1) mNil)) (mC .non))) (sRaise "DuplicateName" (mCons (mVar 1) mNil)) sNext))
def f_land_free : FM := runF 2 b_land_free
def b_land_room : SM := (sIf (mTest (mOp gGe (mCall (g1 gLen) (mCons (mVar 1) mNil)) (mC (.int 60)))) (sRaise "TooMany" (mCons (mOp (gAdd false) (mC (.str "more than ")) (mCall (g1 gStr) (mCons (mC (.int 60)) mNil))) mNil)) sNext)
def f_land_room : FM := runF 2 b_land_room
def b_land_add_station : SM := (sSeq (sDrop (mMeth "Land" "_free" (arity 2 f_land_free) [] (mVar 0) (mCons (mVar 1) mNil)))
    (sSeq (sDrop (mMeth "Land" "_room" (arity 2 f_land_room) [] (mVar 0) (mCons (mFld "Land" "_stations" (mVar 0)) mNil)))
    (sFldM "Land" "_stations" (mVar 0) (mCall (g1 (gSorted true)) (mCons (mOp (gAdd false) (mFld "Land" "_stations" (mVar 0)) (mLst false (mCons (mVar 1) mNil))) mNil)))))
def f_land_add_station : FM := runF 2 b_land_add_station
def b_land_there : SM := (sIf (mTest (mOp gNotIn (mVar 1) (mFld "Land" "_stations" (mVar 0)))) (sRaise "UnknownName" (mCons (mC (.str "station")) mNil)) sNext)
def f_land_there : FM := runF 2 b_land_there
def b_is_number : SM := (sSeq (sIf (mOr (mTest (mIsi "bool" (mVar 0))) (mNot (mTest (mIsi "int" (mVar 0))))) (sRet (mC (.bl false))) sNext)
    (sRet (mChain gLe gLe (mVar 1) (mVar 0) (mVar 2))))
def f_is_number : FM := runF 3 b_is_number
def b_checked_number : SM := (sSeq (sIf (mNot (mTest (mFn (arity 3 f_is_number) [] (mCons (mVar 0) (mCons (mVar 1) (mCons (mVar 2) mNil)))))) (sRaise "InvalidNumber" (mCons (mOp (gAdd false) (mOp (gAdd false) (mOp (gAdd false) (mC (.str "no number from ")) (mCall (g1 gStr) (mCons (mVar 1) mNil))) (mC (.str " to "))) (mCall (g1 gStr) (mCons (mVar 2) mNil))) mNil)) sNext)
    (sRet (mVar 0)))
def f_checked_number : FM := runF 3 b_checked_number
def b_land_add_line : SM := (sSeq (sDrop (mMeth "Land" "_free" (arity 2 f_land_free) [] (mVar 0) (mCons (mVar 1) mNil)))
    (sSeq (sDrop (mMeth "Land" "_there" (arity 2 f_land_there) [] (mVar 0) (mCons (mVar 2) mNil)))
    (sSeq (sDrop (mMeth "Land" "_there" (arity 2 f_land_there) [] (mVar 0) (mCons (mVar 3) mNil)))
    (sSeq (sIf (mTest (mOp gEq (mVar 2) (mVar 3))) (sRaise "SameStation" (mCons (mVar 2) mNil)) sNext)
    (sSeq (sDrop (mFn (arity 3 f_checked_number) [.int 0, .int 1000000] (mCons (mVar 4) mNil)))
    (sSeq (sDrop (mFn (arity 3 f_checked_number) [.int 1000000] (mCons (mVar 5) (mCons (mC (.int 1)) mNil))))
    (sSeq (sDrop (mMeth "Land" "_room" (arity 2 f_land_room) [] (mVar 0) (mCons (mFld "Land" "_lines" (mVar 0)) mNil)))
    (sDPutM (mFld "Land" "_lines" (mVar 0)) (mVar 1) (mTup (mCons (mCall (g2 gMinA) (mCons (mVar 2) (mCons (mVar 3) mNil))) (mCons (mCall (g2 gMaxA) (mCons (mVar 2) (mCons (mVar 3) mNil))) (mCons (mVar 4) (mCons (mVar 5) mNil)))))))))))))
def f_land_add_line : FM := runF 6 b_land_add_line
def b_land_add_self : SM := (sSeq (sDrop (mMeth "Land" "_free" (arity 2 f_land_free) [] (mVar 0) (mCons (mVar 1) mNil)))
    (sSeq (sDrop (mMeth "Land" "_there" (arity 2 f_land_there) [] (mVar 0) (mCons (mVar 2) mNil)))
    (sSeq (sDrop (mFn (arity 3 f_checked_number) [.int 0, .int 1000000] (mCons (mVar 3) mNil)))
    (sSeq (sDrop (mFn (arity 3 f_checked_number) [.int 1000000] (mCons (mVar 4) (mCons (mC (.int 1)) mNil))))
    (sSeq (sDrop (mMeth "Land" "_room" (arity 2 f_land_room) [] (mVar 0) (mCons (mFld "Land" "_plants" (mVar 0)) mNil)))
    (sSeq (sDPutM (mFld "Land" "_plants" (mVar 0)) (mVar 1) (mTup (mCons (mVar 2) (mCons (mC (.int 0)) (mCons (mVar 3) (mCons (mVar 4) (mCons (mC (.int 1000000)) (mCons (mC (.int 1000000)) (mCons (mVar 4) mNil)))))))))
    (sDrop (mApp (mFld "Land" "_selves" (mVar 0)) (mVar 1)))))))))
def f_land_add_self : FM := runF 5 b_land_add_self
def b_land_add_plant : SM := (sSeq (sDrop (mMeth "Land" "_free" (arity 2 f_land_free) [] (mVar 0) (mCons (mVar 1) mNil)))
    (sSeq (sDrop (mMeth "Land" "_there" (arity 2 f_land_there) [] (mVar 0) (mCons (mVar 2) mNil)))
    (sSeq (sForT (mTup (mCons (mVar 3) (mCons (mVar 4) mNil))) (bName 9) (sDrop (mFn (arity 3 f_checked_number) [.int 0, .int 1000000] (mCons (mVar 9) mNil))))
    (sSeq (sDrop (mFn (arity 3 f_checked_number) [.int 1000000] (mCons (mVar 5) (mCons (mC (.int 1)) mNil))))
    (sSeq (sDrop (mFn (arity 3 f_checked_number) [.int 0, .int 1000000] (mCons (mVar 6) mNil)))
    (sSeq (sDrop (mFn (arity 3 f_checked_number) [.int 0, .int 1000000] (mCons (mVar 7) mNil)))
    (sSeq (sDrop (mFn (arity 3 f_checked_number) [.int 1000000] (mCons (mVar 8) (mCons (mC (.int 1)) mNil))))
    (sSeq (sIf (mOr (mTest (mOp gLt (mVar 8) (mVar 5))) (mTest (mOp gLt (mVar 7) (mVar 6)))) (sRaise "InvalidNumber" (mCons (mC (.str "slow below quick, or cool below hot")) mNil)) sNext)
    (sSeq (sDrop (mMeth "Land" "_room" (arity 2 f_land_room) [] (mVar 0) (mCons (mFld "Land" "_plants" (mVar 0)) mNil)))
    (sDPutM (mFld "Land" "_plants" (mVar 0)) (mVar 1) (mTup (mCons (mVar 2) (mCons (mVar 3) (mCons (mVar 4) (mCons (mVar 5) (mCons (mVar 6) (mCons (mVar 7) (mCons (mVar 8) mNil))))))))))))))))))
def f_land_add_plant : FM := runF 10 b_land_add_plant
def b_law_build : SM := (sSeq (sAsg (mMake "Land" (arity 1 f_land_init) [] mNil) (bName 1))
    (sSeq (sForL (mOp gIx (mVar 0) (mC (.int 0))) (bName 2) (sDrop (mMeth "Land" "add_station" (arity 2 f_land_add_station) [] (mVar 1) (mCons (mVar 2) mNil))))
    (sSeq (sForL (mOp gIx (mVar 0) (mC (.int 1))) (bTup 5 (bCons (bName 2) (bCons (bName 3) (bCons (bName 4) (bCons (bName 5) (bCons (bName 6) bNil)))))) (sDrop (mMeth "Land" "add_line" (arity 6 f_land_add_line) [] (mVar 1) (mCons (mVar 2) (mCons (mVar 3) (mCons (mVar 4) (mCons (mVar 5) (mCons (mVar 6) mNil))))))))
    (sSeq (sForL (mOp gIx (mVar 0) (mC (.int 2))) (bTup 9 (bCons (bName 2) (bCons (bName 7) (bCons (bName 5) (bCons (bName 8) (bCons (bName 9) (bCons (bName 10) (bCons (bName 11) (bCons (bName 12) (bCons (bName 13) bNil)))))))))) (sIf (mTru (mVar 13)) (sDrop (mMeth "Land" "add_self" (arity 5 f_land_add_self) [] (mVar 1) (mCons (mVar 2) (mCons (mVar 7) (mCons (mVar 8) (mCons (mVar 9) mNil)))))) (sDrop (mMeth "Land" "add_plant" (arity 9 f_land_add_plant) [] (mVar 1) (mCons (mVar 2) (mCons (mVar 7) (mCons (mVar 5) (mCons (mVar 8) (mCons (mVar 9) (mCons (mVar 10) (mCons (mVar 11) (mCons (mVar 12) mNil))))))))))))
    (sRet (mVar 1))))))
def f_law_build : FM := runF 14 b_law_build
def b_land_stations : SM := (sRet (mCall (g1 (gList false)) (mCons (mFld "Land" "_stations" (mVar 0)) mNil)))
def f_land_stations : FM := runF 1 b_land_stations
def b_land_line : SM := (sSeq (sIf (mTest (mDIn false (mVar 1) (mFld "Land" "_lines" (mVar 0)))) (sRaise "UnknownName" (mCons (mC (.str "line")) mNil)) sNext)
    (sRet (mDGet (mFld "Land" "_lines" (mVar 0)) (mVar 1))))
def f_land_line : FM := runF 2 b_land_line
def b_moment_mark : SM := (sSeq (sAsg mDNew (bName 1))
    (sSeq (sForL (mFld "Moment" "_lit" (mVar 0)) (bName 2) (sDPutM (mVar 1) (mVar 2) (mLst true mNil)))
    (sSeq (sForL (mFld "Moment" "_closed" (mVar 0)) (bName 2) (sSeq (sAsg (mMeth "Land" "line" (arity 2 f_land_line) [] (mFld "Moment" "_land" (mVar 0)) (mCons (mVar 2) mNil)) (bTup 4 (bCons (bName 3) (bCons (bName 4) (bCons (bName 5) (bCons (bName 6) bNil))))))
    (sIf (mAnd (mTest (mDIn true (mVar 3) (mVar 1))) (mTest (mDIn true (mVar 4) (mVar 1)))) (sSeq (sDrop (mApp (mDGet (mVar 1) (mVar 3)) (mVar 4)))
    (sDrop (mApp (mDGet (mVar 1) (mVar 4)) (mVar 3)))) sNext)))
    (sForL (mFld "Moment" "_lit" (mVar 0)) (bName 7) (sIf (mTest (mDIn false (mVar 7) (mFld "Moment" "_root" (mVar 0)))) (sSeq (sDPutM (mFld "Moment" "_root" (mVar 0)) (mVar 7) (mVar 7))
    (sSeq (sAsg (mLst true (mCons (mVar 7) mNil)) (bName 8))
    (sWhile 10000 (mTru (mVar 8)) (sForL (mDGet (mVar 1) (mBL gPop (mVar 8) mNil)) (bName 4) (sIf (mTest (mDIn false (mVar 4) (mFld "Moment" "_root" (mVar 0)))) (sSeq (sDPutM (mFld "Moment" "_root" (mVar 0)) (mVar 4) (mVar 7))
    (sDrop (mApp (mVar 8) (mVar 4)))) sNext))))) sNext)))))
def f_moment_mark : FM := runF 9 b_moment_mark
def b_land_lines : SM := (sRet (mCall (g1 (gSorted false)) (mCons (mFld "Land" "_lines" (mVar 0)) mNil)))
def f_land_lines : FM := runF 1 b_land_lines
def b_land_plants : SM := (sRet (mCall (g1 (gSorted false)) (mCons (mFld "Land" "_plants" (mVar 0)) mNil)))
def f_land_plants : FM := runF 1 b_land_plants
def b_moment_init : SM := (sSeq (sFldM "Moment" "_land" (mVar 0) (mVar 1))
    (sSeq (sFldM "Moment" "_names" (mVar 0) (mMeth "Land" "stations" (arity 1 f_land_stations) [] (mVar 1) mNil))
    (sSeq (sFldM "Moment" "_lit" (mVar 0) (mLcL false (mFld "Moment" "_names" (mVar 0)) [5] (bName 5) (mTest (mOp gIn (mVar 5) (mVar 2))) (mVar 5)))
    (sSeq (sFldM "Moment" "_closed" (mVar 0) (mLcL false (mMeth "Land" "lines" (arity 1 f_land_lines) [] (mVar 1) mNil) [5] (bName 5) (mTest (mOp gIn (mVar 5) (mVar 3))) (mVar 5)))
    (sSeq (sFldM "Moment" "_running" (mVar 0) (mLcL false (mMeth "Land" "plants" (arity 1 f_land_plants) [] (mVar 1) mNil) [5] (bName 5) (mTest (mOp gIn (mVar 5) (mVar 4))) (mVar 5)))
    (sSeq (sFldM "Moment" "_root" (mVar 0) mDNew)
    (sDrop (mMeth "Moment" "_mark" (arity 1 f_moment_mark) [] (mVar 0) mNil))))))))
def f_moment_init : FM := runF 6 b_moment_init
def b_law_root : SM := (sSeq (sAsg mDNew (bName 2))
    (sSeq (sForL (mOp gIx (mVar 0) (mC (.int 0))) (bName 3) (sIf (mTest (mDIn true (mVar 3) (mVar 1))) (sDPutM (mVar 2) (mVar 3) (mVar 3)) sNext))
    (sSeq (sForL (mOp gIx (mVar 0) (mC (.int 1))) (bName 4) (sIf (mAnd (mTest (mDIn true (mOp gIx (mVar 4) (mC (.int 0))) (mVar 1))) (mAnd (mTest (mDIn true (mOp gIx (mVar 4) (mC (.int 1))) (mVar 2))) (mTest (mDIn true (mOp gIx (mVar 4) (mC (.int 2))) (mVar 2))))) (sSeq (sAsg (mDGet (mVar 2) (mOp gIx (mVar 4) (mC (.int 1)))) (bName 5))
    (sForL (mOp gIx (mVar 0) (mC (.int 0))) (bName 3) (sIf (mAnd (mTest (mDIn true (mVar 3) (mVar 2))) (mTest (mOp gEq (mDGet (mVar 2) (mVar 3)) (mVar 5)))) (sDPutM (mVar 2) (mVar 3) (mDGet (mVar 2) (mOp gIx (mVar 4) (mC (.int 2))))) sNext))) sNext))
    (sRet (mVar 2)))))
def f_law_root : FM := runF 6 b_law_root
def b_law_ends : SM := (sRet (mIf (mTest (mOp gEq (mCall (g1 gLen) (mCons (mVar 0) mNil)) (mC (.int 9)))) (mLst false (mCons (mOp gIx (mVar 0) (mC (.int 1))) mNil)) (mLst false (mCons (mOp gIx (mVar 0) (mC (.int 1))) (mCons (mOp gIx (mVar 0) (mC (.int 2))) mNil)))))
def f_law_ends : FM := runF 1 b_law_ends
def b_law_power : SM := (sSeq (sAsg (mC (.int 0)) (bName 4))
    (sSeq (sForL (mOp gIx (mVar 0) (mC (.int 2))) (bName 5) (sIf (mAnd (mTest (mDIn true (mOp gIx (mVar 5) (mC (.int 0))) (mVar 1))) (mAnd (mTest (mDIn true (mOp gIx (mVar 5) (mC (.int 1))) (mVar 2))) (mTest (mOp gEq (mDGet (mVar 2) (mOp gIx (mVar 5) (mC (.int 1)))) (mDGet (mVar 2) (mVar 3)))))) (sAsg (mOp (gAdd false) (mVar 4) (mOp gIx (mVar 5) (mC (.int 3)))) (bName 4)) sNext))
    (sRet (mVar 4))))
def f_law_power : FM := runF 6 b_law_power
def b_law_reason : SM := (sSeq (sAsg (mAndV (mOp gEq (mCall (g1 gLen) (mCons (mVar 3) mNil)) (mC (.int 9))) (mOp gIx (mVar 3) (mC (.int 8)))) (bName 4))
    (sSeq (sAsg (mFn (arity 1 f_law_ends) [] (mCons (mVar 3) mNil)) (bName 5))
    (sSeq (sAsg (mIf (mTest (mOp gEq (mCall (g1 gLen) (mCons (mVar 3) mNil)) (mC (.int 9)))) (mOp gIx (mVar 3) (mC (.int 2))) (mOp gIx (mVar 3) (mC (.int 3)))) (bName 6))
    (sSeq (sAsg (mLcL false (mVar 5) [8] (bName 8) (mTest (mDIn true (mVar 8) (mVar 2))) (mVar 8)) (bName 7))
    (sSeq (sIf (mOr (mTru (mVar 4)) (mTest (mOp gGt (mCall (g1 gLen) (mCons (mLcL false (mVar 7) [8] (bName 8) (mTest (mOp gGe (mFn (arity 4 f_law_power) [] (mCons (mVar 0) (mCons (mVar 1) (mCons (mVar 2) (mCons (mVar 8) mNil))))) (mVar 6))) (mVar 8)) mNil)) (mC (.int 0))))) (sRet (mC .non)) sNext)
    (sRet (mIf (mTest (mOp gGt (mCall (g1 gLen) (mCons (mVar 7) mNil)) (mC (.int 0)))) (mC (.str "weak")) (mC (.str "dark")))))))))
def f_law_reason : FM := runF 9 b_law_reason
def b_moment_known : SM := (sIf (mTest (mOp gNotIn (mVar 1) (mFld "Moment" "_names" (mVar 0)))) (sRaise "UnknownName" (mCons (mC (.str "station")) mNil)) sNext)
def f_moment_known : FM := runF 2 b_moment_known
def b_land_plant : SM := (sSeq (sIf (mTest (mDIn false (mVar 1) (mFld "Land" "_plants" (mVar 0)))) (sRaise "UnknownName" (mCons (mC (.str "plant")) mNil)) sNext)
    (sRet (mDGet (mFld "Land" "_plants" (mVar 0)) (mVar 1))))
def f_land_plant : FM := runF 2 b_land_plant
def b_moment_power : SM := (sSeq (sDrop (mMeth "Moment" "_known" (arity 2 f_moment_known) [] (mVar 0) (mCons (mVar 1) mNil)))
    (sSeq (sIf (mTest (mDIn false (mVar 1) (mFld "Moment" "_root" (mVar 0)))) (sRet (mC (.int 0))) sNext)
    (sSeq (sAsg (mC (.int 0)) (bName 2))
    (sSeq (sForL (mFld "Moment" "_running" (mVar 0)) (bName 3) (sSeq (sAsg (mMeth "Land" "plant" (arity 2 f_land_plant) [] (mFld "Moment" "_land" (mVar 0)) (mCons (mVar 3) mNil)) (bName 4))
    (sIf (mAnd (mTest (mDIn true (mOp gIx (mVar 4) (mC (.int 0))) (mFld "Moment" "_root" (mVar 0)))) (mTest (mOp gEq (mDGet (mFld "Moment" "_root" (mVar 0)) (mOp gIx (mVar 4) (mC (.int 0)))) (mDGet (mFld "Moment" "_root" (mVar 0)) (mVar 1))))) (sAsg (mOp (gAdd false) (mVar 2) (mOp gIx (mVar 4) (mC (.int 2)))) (bName 2)) sNext)))
    (sRet (mVar 2))))))
def f_moment_power : FM := runF 5 b_moment_power
def b_moment_can_close : SM := (sSeq (sAsg (mMeth "Land" "line" (arity 2 f_land_line) [] (mFld "Moment" "_land" (mVar 0)) (mCons (mVar 1) mNil)) (bTup 4 (bCons (bName 2) (bCons (bName 3) (bCons (bName 4) (bCons (bName 5) bNil))))))
    (sSeq (sForT (mTup (mCons (mVar 2) (mCons (mVar 3) mNil))) (bName 6) (sIf (mAnd (mTest (mDIn true (mVar 6) (mFld "Moment" "_root" (mVar 0)))) (mTest (mOp gGe (mMeth "Moment" "power" (arity 2 f_moment_power) [] (mVar 0) (mCons (mVar 6) mNil)) (mVar 4)))) (sRet (mC (.bl true))) sNext))
    (sRet (mC (.bl false)))))
def f_moment_can_close : FM := runF 7 b_moment_can_close
def b_land_is_self : SM := (sSeq (sIf (mTest (mDIn false (mVar 1) (mFld "Land" "_plants" (mVar 0)))) (sRaise "UnknownName" (mCons (mC (.str "plant")) mNil)) sNext)
    (sRet (mOp gIn (mVar 1) (mFld "Land" "_selves" (mVar 0)))))
def f_land_is_self : FM := runF 2 b_land_is_self
def b_moment_can_crank : SM := (sSeq (sAsg (mMeth "Land" "plant" (arity 2 f_land_plant) [] (mFld "Moment" "_land" (mVar 0)) (mCons (mVar 1) mNil)) (bName 2))
    (sSeq (sIf (mTest (mMeth "Land" "is_self" (arity 2 f_land_is_self) [] (mFld "Moment" "_land" (mVar 0)) (mCons (mVar 1) mNil))) (sRet (mC (.bl true))) sNext)
    (sRet (mAndV (mDIn true (mOp gIx (mVar 2) (mC (.int 0))) (mFld "Moment" "_root" (mVar 0))) (mOp gGe (mMeth "Moment" "power" (arity 2 f_moment_power) [] (mVar 0) (mCons (mOp gIx (mVar 2) (mC (.int 0))) mNil)) (mOp gIx (mVar 2) (mC (.int 1))))))))
def f_moment_can_crank : FM := runF 3 b_moment_can_crank
end DK.W
end
section
set_option Elab.async false
set_option linter.all false
set_option autoImplicit false
set_option maxRecDepth 100000
set_option maxHeartbeats 4000000
/-! DKWorld: the drawn lands of the laws, in plain Lean. -/
namespace DK.W
open PySem L2 DK
abbrev STN : List Str := ["ash", "bay", "elm", "fir", "gum", "ivy"]
abbrev LNN : List Str := ["la", "lb", "lc", "ld", "le", "lf", "lg", "lh"]
abbrev PLN : List Str := ["pa", "pb", "pc", "pd", "pe"]
structure Ln where
  n : Str
  a : Str
  b : Str
  need : Int
  min : Int
structure Pl where
  n : Str
  s : Str
  need : Int
  gives : Int
  quick : Int
  hot : Int
  cool : Int
  slow : Int
  alone : Bool
abbrev encL (l : Ln) : D := .tup [.str l.n, .str l.a, .str l.b, .int l.need, .int l.min]
abbrev encP (p : Pl) : D := .tup [.str p.n, .str p.s, .int p.need, .int p.gives, .int p.quick, .int p.hot, .int p.cool, .int p.slow, .bl p.alone]
structure LnOK (st : List Str) (l : Ln) : Prop where
  a : l.a ∈ st
  b : l.b ∈ st
  ab : ltSV l.a l.b = true
  need : 0 ≤ l.need ∧ l.need ≤ 31
  min : 1 ≤ l.min ∧ l.min ≤ 9
structure PlOK (st : List Str) (p : Pl) : Prop where
  s : p.s ∈ st
  need : 0 ≤ p.need ∧ p.need ≤ 25
  gives : 0 ≤ p.gives ∧ p.gives ≤ 20
  quick : 1 ≤ p.quick ∧ p.quick ≤ 9
  slow : p.quick ≤ p.slow ∧ p.slow ≤ 20
  hot : 0 ≤ p.hot ∧ p.hot ≤ 1000000
  cool : p.hot ≤ p.cool ∧ p.cool ≤ 1000000
  alone : p.alone = true → p.need = 0 ∧ p.slow = p.quick ∧ p.hot = 1000000 ∧ p.cool = 1000000
structure Wd where
  st : List Str
  ls : List Ln
  ps : List Pl
abbrev encW (w : Wd) : D := .lst [.lst (w.st.map .str), .lst (w.ls.map encL), .lst (w.ps.map encP)]
structure WOK (w : Wd) : Prop where
  st : ∃ n, 1 ≤ n ∧ n ≤ 6 ∧ w.st = STN.take n
  ll : w.ls.length ≤ 8
  ln : w.ls.map (·.n) = LNN.take w.ls.length
  pl : w.ps.length ≤ 5
  pn : w.ps.map (·.n) = PLN.take w.ps.length
  lok : ∀ l ∈ w.ls, LnOK w.st l
  pok : ∀ p ∈ w.ps, PlOK w.st p
theorem cell_is : f_law_cell = fCell := rfl
theorem take_is : f_law_take = fTake := rfl
theorem pickI {xs : List Int} {v : Int} (h0 : 0 ≤ v) (h1 : v < xs.length) : ∃ k ∈ xs, atI (xs.map D.int) v = some (.int k) := by
  obtain ⟨k, hk⟩ : ∃ k, xs[v.toNat]? = some k := ⟨xs[v.toNat]'(by omega), List.getElem?_eq_getElem _⟩
  exact ⟨k, List.mem_of_getElem? hk, atI_nat h0 (by rw [List.getElem?_map, hk]; rfl)⟩
theorem pickS {xs : List Str} {v : Int} (h0 : 0 ≤ v) (h1 : v < xs.length) : ∃ k, xs[v.toNat]? = some k ∧ atI (xs.map D.str) v = some (.str k) := by
  obtain ⟨k, hk⟩ : ∃ k, xs[v.toNat]? = some k := ⟨xs[v.toNat]'(by omega), List.getElem?_eq_getElem _⟩
  exact ⟨k, hk, atI_nat h0 (by rw [List.getElem?_map, hk]; rfl)⟩
theorem line_ok {b : Nat} {O : Store} {nm : Str} {st : List Str} (h : Take b 0 O) (hb : b ≤ 2 ^ 30) (nd : st.Nodup) (h2 : 2 ≤ st.length) (h6 : st.length ≤ 6) :
    ∃ l O', f_law_line [.hdl 0, .str nm, .lst (st.map .str)] O = .ok (encL l) O' ∧ l.n = nm ∧ LnOK st l ∧ Take (b + 4) 0 O' ∧ Fr O O' ∧ O'.length = O.length := by
  obtain ⟨v1, O1, e1, v10, v11, t1, f1, l1⟩ := tk1 (m := st.length) h (by omega) (by omega) (by omega)
  obtain ⟨v2, O2, e2, v20, v21, t2, f2, l2⟩ := tk1 (m := (st.length : Int) - 1) t1 (by omega) (by omega) (by omega)
  obtain ⟨v3, O3, e3, v30, v31, t3, f3, l3⟩ := tk1 (m := 7) t2 (by omega) (by omega) (by omega)
  obtain ⟨v4, O4, e4, v40, v41, t4, f4, l4⟩ := tk1 (m := 9) t3 (by omega) (by omega) (by omega)
  obtain ⟨w, hw⟩ : ∃ w, (v1 + 1 + v2) % (st.length : Int) = w := ⟨_, rfl⟩
  have hw0 : 0 ≤ w ∧ w < st.length ∧ w ≠ v1 := by
    rcases Int.lt_or_le (v1 + 1 + v2) (st.length : Int) with c | c
    · rw [Int.emod_eq_of_lt (by omega) c] at hw
      omega
    · rw [← Int.sub_emod_right, Int.emod_eq_of_lt (by omega) (by omega)] at hw
      omega
  have hm : ∀ O : Store, gMod O (.int (v1 + 1 + v2)) (.int (st.length : Int)) = some (.int w, O) := fun O => by
    rw [← hw]
    exact gMod_ok (by omega)
  obtain ⟨k3, hk3, i3⟩ := pickI (xs := [0, 0, 3, 8, 12, 20, 31]) (v := v3) v30 (by simpa using v31)
  simp only [List.map_cons, List.map_nil] at i3
  obtain ⟨s1, hs1, i1⟩ := pickS (xs := st) v10 v11
  obtain ⟨s2, hs2, i2⟩ := pickS (xs := st) hw0.1 hw0.2.1
  have ne : s1 ≠ s2 := fun z => by
    subst z
    obtain ⟨q1, q2⟩ := List.getElem?_eq_some_iff.mp hs1
    obtain ⟨q3, q4⟩ := List.getElem?_eq_some_iff.mp hs2
    have := (List.getElem_inj nd).mp (q2.trans q4.symm)
    omega
  obtain ⟨x, y, hx, hy, xy, cs⟩ := minmax ne
  refine ⟨⟨nm, x, y, k3, 1 + v4⟩, O4, ?_, rfl, ⟨?_, ?_, xy, ?_, by show 1 ≤ 1 + v4 ∧ 1 + v4 ≤ 9; omega⟩, tmono (by omega) t4, (f1.trans f2).trans (f3.trans f4), by omega⟩
  · simp [f_law_line, b_law_line, runF, sSeq, sIf, sNext, sDrop, sRet, sRetN, sAsg, ofRes, ofB, bName, bNil, bCons, bTup, bLst, bSubL, mTest, mOp, mVar, mC, mChain, mAnd, mOr, mNot, mIf, mAndV, mOrV, mNotV, mNeg, mCons, mNil, mTup, mLst, newL, mCall, mFn, arity, g1, g2, gLen, gInt, gAbs, gMax2, gMin2, gIx, seqOf, lsqOf, lstOf, Res.bind, ofO, gAdd_ok, gSub_ok, gEq_int, gNe_int, gLt_int, gLe_int, gGt_int, gGe_int, gEq_bl, gNe_bl, gEq_str, gNe_str, mIsi, mIsiT, tyD, kitL, kitTab, atI_c0, atI_c1, atI_c2, atI_c3, atI_c4, sForR1, int1, int2, mMeth, mMake, mFld, sFldM, gIs, gIsNot, isNon_t, sRaise, gList, newLO, take_is, e1, e2, e3, e4, hm, i1, i2, i3, gMinA, gMaxA, hx, hy]
  · show x ∈ st
    rcases cs with ⟨rfl, _⟩ | ⟨rfl, _⟩
    · exact List.mem_of_getElem? hs1
    · exact List.mem_of_getElem? hs2
  · show y ∈ st
    rcases cs with ⟨_, rfl⟩ | ⟨_, rfl⟩
    · exact List.mem_of_getElem? hs2
    · exact List.mem_of_getElem? hs1
  · show 0 ≤ k3 ∧ k3 ≤ 31
    simp at hk3
    omega
theorem plant_ok {b : Nat} {O : Store} {nm : Str} {st : List Str} (h : Take b 0 O) (hb : b ≤ 2 ^ 30) (h2 : 1 ≤ st.length) (h6 : st.length ≤ 6) :
    ∃ p O', f_law_plant [.hdl 0, .str nm, .lst (st.map .str)] O = .ok (encP p) O' ∧ p.n = nm ∧ PlOK st p ∧ Take (b + 8) 0 O' ∧ Fr O O' ∧ O'.length = O.length := by
  obtain ⟨v1, O1, e1, v10, v11, t1, f1, l1⟩ := tk1 (m := st.length) h (by omega) (by omega) (by omega)
  obtain ⟨v2, O2, e2, v20, v21, t2, f2, l2⟩ := tk1 (m := 6) t1 (by omega) (by omega) (by omega)
  obtain ⟨v3, O3, e3, v30, v31, t3, f3, l3⟩ := tk1 (m := 3) t2 (by omega) (by omega) (by omega)
  obtain ⟨s1, hs1, i1⟩ := pickS (xs := st) v10 v11
  obtain ⟨k2, hk2, i2⟩ := pickI (xs := [0, 3, 5, 9, 12, 20]) (v := v2) v20 (by simpa using v21)
  simp only [List.map_cons, List.map_nil] at i2
  have g2 : 0 ≤ k2 ∧ k2 ≤ 20 := by
    simp at hk2
    omega
  have f123 := (f1.trans f2).trans f3
  by_cases c : v3 = 0 ∨ nm = "pa"
  · obtain ⟨v4, O4, e4, v40, v41, t4, f4, l4⟩ := tk1 (m := 9) t3 (by omega) (by omega) (by omega)
    refine ⟨⟨nm, s1, 0, k2, 1 + v4, 1000000, 1000000, 1 + v4, true⟩, O4, ?_, rfl, ⟨List.mem_of_getElem? hs1, ⟨Int.le_refl 0, by show (0 : Int) ≤ 25; decide⟩, g2, by show 1 ≤ 1 + v4 ∧ 1 + v4 ≤ 9; omega, by show 1 + v4 ≤ 1 + v4 ∧ 1 + v4 ≤ 20; omega, by show (0 : Int) ≤ 1000000 ∧ (1000000 : Int) ≤ 1000000; decide, by show (1000000 : Int) ≤ 1000000 ∧ (1000000 : Int) ≤ 1000000; decide, fun _ => ⟨rfl, rfl, rfl, rfl⟩⟩, tmono (by omega) t4, f123.trans f4, by omega⟩
    rcases c with c | c
    · simp [f_law_plant, b_law_plant, runF, sSeq, sIf, sNext, sDrop, sRet, sRetN, sAsg, ofRes, ofB, bName, bNil, bCons, bTup, bLst, bSubL, mTest, mOp, mVar, mC, mChain, mAnd, mOr, mNot, mIf, mAndV, mOrV, mNotV, mNeg, mCons, mNil, mTup, mLst, newL, mCall, mFn, arity, g1, g2, gLen, gInt, gAbs, gMax2, gMin2, gIx, seqOf, lsqOf, lstOf, Res.bind, ofO, gAdd_ok, gSub_ok, gEq_int, gNe_int, gLt_int, gLe_int, gGt_int, gGe_int, gEq_bl, gNe_bl, gEq_str, gNe_str, mIsi, mIsiT, tyD, kitL, kitTab, atI_c0, atI_c1, atI_c2, atI_c3, atI_c4, sForR1, int1, int2, mMeth, mMake, mFld, sFldM, gIs, gIsNot, isNon_t, sRaise, gList, newLO, take_is, e1, e2, e3, e4, i1, i2, c]
    · by_cases c3 : v3 = 0
      · simp [f_law_plant, b_law_plant, runF, sSeq, sIf, sNext, sDrop, sRet, sRetN, sAsg, ofRes, ofB, bName, bNil, bCons, bTup, bLst, bSubL, mTest, mOp, mVar, mC, mChain, mAnd, mOr, mNot, mIf, mAndV, mOrV, mNotV, mNeg, mCons, mNil, mTup, mLst, newL, mCall, mFn, arity, g1, g2, gLen, gInt, gAbs, gMax2, gMin2, gIx, seqOf, lsqOf, lstOf, Res.bind, ofO, gAdd_ok, gSub_ok, gEq_int, gNe_int, gLt_int, gLe_int, gGt_int, gGe_int, gEq_bl, gNe_bl, gEq_str, gNe_str, mIsi, mIsiT, tyD, kitL, kitTab, atI_c0, atI_c1, atI_c2, atI_c3, atI_c4, sForR1, int1, int2, mMeth, mMake, mFld, sFldM, gIs, gIsNot, isNon_t, sRaise, gList, newLO, take_is, e1, e2, e3, e4, i1, i2, c3]
      · simp [f_law_plant, b_law_plant, runF, sSeq, sIf, sNext, sDrop, sRet, sRetN, sAsg, ofRes, ofB, bName, bNil, bCons, bTup, bLst, bSubL, mTest, mOp, mVar, mC, mChain, mAnd, mOr, mNot, mIf, mAndV, mOrV, mNotV, mNeg, mCons, mNil, mTup, mLst, newL, mCall, mFn, arity, g1, g2, gLen, gInt, gAbs, gMax2, gMin2, gIx, seqOf, lsqOf, lstOf, Res.bind, ofO, gAdd_ok, gSub_ok, gEq_int, gNe_int, gLt_int, gLe_int, gGt_int, gGe_int, gEq_bl, gNe_bl, gEq_str, gNe_str, mIsi, mIsiT, tyD, kitL, kitTab, atI_c0, atI_c1, atI_c2, atI_c3, atI_c4, sForR1, int1, int2, mMeth, mMake, mFld, sFldM, gIs, gIsNot, isNon_t, sRaise, gList, newLO, take_is, e1, e2, e3, e4, i1, i2, c3, c]
  · have c3 : ¬ v3 = 0 := fun z => c (.inl z)
    have cn : ¬ nm = "pa" := fun z => c (.inr z)
    obtain ⟨v4, O4, e4, v40, v41, t4, f4, l4⟩ := tk1 (m := 6) t3 (by omega) (by omega) (by omega)
    obtain ⟨v5, O5, e5, v50, v51, t5, f5, l5⟩ := tk1 (m := 6) t4 (by omega) (by omega) (by omega)
    obtain ⟨v6, O6, e6, v60, v61, t6, f6, l6⟩ := tk1 (m := 6) t5 (by omega) (by omega) (by omega)
    obtain ⟨v7, O7, e7, v70, v71, t7, f7, l7⟩ := tk1 (m := 5) t6 (by omega) (by omega) (by omega)
    obtain ⟨v8, O8, e8, v80, v81, t8, f8, l8⟩ := tk1 (m := 9) t7 (by omega) (by omega) (by omega)
    obtain ⟨k4, hk4, i4⟩ := pickI (xs := [0, 3, 5, 9, 14, 25]) (v := v4) v40 (by simpa using v41)
    obtain ⟨k6, hk6, i6⟩ := pickI (xs := [0, 4, 9, 15, 30, 200]) (v := v6) v60 (by simpa using v61)
    obtain ⟨k7, hk7, i7⟩ := pickI (xs := [0, 1, 5, 12, 40]) (v := v7) v70 (by simpa using v71)
    simp only [List.map_cons, List.map_nil] at i4 i6 i7
    have b4 : 0 ≤ k4 ∧ k4 ≤ 25 := by
      simp at hk4
      omega
    have b6 : 0 ≤ k6 ∧ k6 ≤ 200 := by
      simp at hk6
      omega
    have b7 : 0 ≤ k7 ∧ k7 ≤ 40 := by
      simp at hk7
      omega
    refine ⟨⟨nm, s1, k4, k2, 1 + v5, k6, k6 + k7, 1 + v5 + v8, false⟩, O8, ?_, rfl, ⟨List.mem_of_getElem? hs1, b4, g2, by show 1 ≤ 1 + v5 ∧ 1 + v5 ≤ 9; omega, by show 1 + v5 ≤ 1 + v5 + v8 ∧ 1 + v5 + v8 ≤ 20; omega, by show 0 ≤ k6 ∧ k6 ≤ 1000000; omega, by show k6 ≤ k6 + k7 ∧ k6 + k7 ≤ 1000000; omega, fun z => by cases z⟩, tmono (by omega) t8, (f123.trans (f4.trans f5)).trans (f6.trans (f7.trans f8)), by omega⟩
    simp [f_law_plant, b_law_plant, runF, sSeq, sIf, sNext, sDrop, sRet, sRetN, sAsg, ofRes, ofB, bName, bNil, bCons, bTup, bLst, bSubL, mTest, mOp, mVar, mC, mChain, mAnd, mOr, mNot, mIf, mAndV, mOrV, mNotV, mNeg, mCons, mNil, mTup, mLst, newL, mCall, mFn, arity, g1, g2, gLen, gInt, gAbs, gMax2, gMin2, gIx, seqOf, lsqOf, lstOf, Res.bind, ofO, gAdd_ok, gSub_ok, gEq_int, gNe_int, gLt_int, gLe_int, gGt_int, gGe_int, gEq_bl, gNe_bl, gEq_str, gNe_str, mIsi, mIsiT, tyD, kitL, kitTab, atI_c0, atI_c1, atI_c2, atI_c3, atI_c4, sForR1, int1, int2, mMeth, mMake, mFld, sFldM, gIs, gIsNot, isNon_t, sRaise, gList, newLO, take_is, e1, e2, e3, e4, e5, e6, e7, e8, i1, i2, i4, i6, i7, c3, cn]
theorem stn_nodup (n : Nat) : (STN.take n).Nodup := (by decide : STN.Nodup).sublist (List.take_sublist _ _)
theorem lname {O : Store} {k : Nat} (h : k < 8) : ∃ c nm : Str, LNN[k]? = some nm ∧ gIx O (.str "abcdefgh") (.int (k : Int)) = some (.str c, O) ∧ gAdd false O (.str "l") (.str c) = some (.str nm, O) := by
  match k, h with
  | 0, _ => exact ⟨_, _, rfl, rfl, rfl⟩
  | 1, _ => exact ⟨_, _, rfl, rfl, rfl⟩
  | 2, _ => exact ⟨_, _, rfl, rfl, rfl⟩
  | 3, _ => exact ⟨_, _, rfl, rfl, rfl⟩
  | 4, _ => exact ⟨_, _, rfl, rfl, rfl⟩
  | 5, _ => exact ⟨_, _, rfl, rfl, rfl⟩
  | 6, _ => exact ⟨_, _, rfl, rfl, rfl⟩
  | 7, _ => exact ⟨_, _, rfl, rfl, rfl⟩
theorem pname {O : Store} {k : Nat} (h : k < 5) : ∃ c nm : Str, PLN[k]? = some nm ∧ gIx O (.str "abcde") (.int (k : Int)) = some (.str c, O) ∧ gAdd false O (.str "p") (.str c) = some (.str nm, O) := by
  match k, h with
  | 0, _ => exact ⟨_, _, rfl, rfl, rfl⟩
  | 1, _ => exact ⟨_, _, rfl, rfl, rfl⟩
  | 2, _ => exact ⟨_, _, rfl, rfl, rfl⟩
  | 3, _ => exact ⟨_, _, rfl, rfl, rfl⟩
  | 4, _ => exact ⟨_, _, rfl, rfl, rfl⟩
abbrev lnE : SM := sDrop (mApp (mVar 2) (mFn (arity 3 f_law_line) [] (mCons (mVar 0) (mCons (mOp (gAdd false) (mC (.str "l")) (mOp gIx (mC (.str "abcdefgh")) (mVar 3))) (mCons (mVar 1) mNil)))))
abbrev plE : SM := sDrop (mApp (mVar 4) (mFn (arity 3 f_law_plant) [] (mCons (mVar 0) (mCons (mOp (gAdd false) (mC (.str "p")) (mOp gIx (mC (.str "abcde")) (mVar 3))) (mCons (mVar 1) mNil)))))
theorem take_snoc {xs : List Str} {j : Nat} {y : Str} (h : xs[j]? = some y) : xs.take (j + 1) = xs.take j ++ [y] := by
  rw [List.take_succ, h]
  rfl
theorem world_ok {b : Nat} {O : Store} (h : Take b 0 O) (hb : b ≤ 2 ^ 29) : ∃ w O', f_law_world [.hdl 0] O = .ok (encW w) O' ∧ WOK w ∧ Take (b + 100) 0 O' ∧ Fr O O' := by
  obtain ⟨v, O1, e1, v0, v1, t1, f1, l1⟩ := tk1 (m := 6) h (by omega) (by omega) (by omega)
  obtain ⟨st, hst⟩ : ∃ st, STN.take (1 + v).toNat = st := ⟨_, rfl⟩
  have hsl : st.length = (1 + v).toNat := by rw [← hst, List.length_take]; show min _ 6 = _; omega
  have hnd : st.Nodup := by rw [← hst]; exact stn_nodup _
  have hsl2 := slice_to (O := O1) (xs := STN.map .str) (v := 1 + v) (by omega) (by decide)
  rw [← List.map_take, hst] at hsl2
  simp only [List.map_cons, List.map_nil] at hsl2
  have tA : Take (b + 1) 0 (O1 ++ [.lst []]) := t1.fz fz_app
  have hn0 : O1.length ≠ 0 := by have := t1.len; omega
  -- the lines
  obtain ⟨y3, O3, eL, ls, hls, hll, hln, hlok, t3, f3, l3⟩ : ∃ (y3 : Option D) (O3 : Store), (sIf (mTest (mOp gGt (mCall (g1 gLen) (mCons (mVar 1) mNil)) (mC (.int 1)))) (sForR1 (mCons (mFn (arity 2 f_law_take) [] (mCons (mVar 0) (mCons (mC (.int 9)) mNil))) mNil) (bName 3) lnE) sNext) [some (.hdl 0), some (.lst (st.map .str)), some (.hdl O1.length), none, none] (O1 ++ [.lst []]) = .next [some (.hdl 0), some (.lst (st.map .str)), some (.hdl O1.length), y3, none] O3 ∧
      ∃ ls : List Ln, O3[O1.length]? = some (.lst (ls.map encL)) ∧ ls.length ≤ 8 ∧ ls.map (·.n) = LNN.take ls.length ∧ (∀ l ∈ ls, LnOK st l) ∧ Take (b + 40) 0 O3 ∧ Fr O1 O3 ∧ O3.length = O1.length + 1 := by
    by_cases c : 1 < st.length
    · obtain ⟨j, O2, e2, j0, j1, t2, f2, l2⟩ := tk1 (m := 9) tA (by omega) (by omega) (by omega)
      obtain ⟨L', O3, e, ls, y3, rfl, hx, hl, hn, hok, t3, f3, l3⟩ := forR1_keeps (t := mCons (mFn (arity 2 f_law_take) [] (mCons (mVar 0) (mCons (mC (.int 9)) mNil))) mNil) (b := bName 3) (body := lnE) (L := [some (.hdl 0), some (.lst (st.map .str)), some (.hdl O1.length), none, none]) (O := O1 ++ [.lst []]) (O1 := O2) (j := j)
        (I := fun i L O => ∃ (ls : List Ln) (y3 : Option D), L = [some (.hdl 0), some (.lst (st.map .str)), some (.hdl O1.length), y3, none] ∧ O[O1.length]? = some (.lst (ls.map encL)) ∧ ls.length = i ∧ ls.map (·.n) = LNN.take i ∧ (∀ l ∈ ls, LnOK st l) ∧ Take (b + 2 + 4 * i) 0 O ∧ Fr O1 O ∧ O.length = O1.length + 1)
        (by simp [runF, sSeq, sIf, sNext, sDrop, sRet, sRetN, sAsg, ofRes, ofB, bName, bNil, bCons, bTup, bLst, bSubL, mTest, mOp, mVar, mC, mChain, mAnd, mOr, mNot, mIf, mAndV, mOrV, mNotV, mNeg, mCons, mNil, mTup, mLst, newL, mCall, mFn, arity, g1, g2, gLen, gInt, gAbs, gMax2, gMin2, gIx, seqOf, lsqOf, lstOf, Res.bind, ofO, gAdd_ok, gSub_ok, gEq_int, gNe_int, gLt_int, gLe_int, gGt_int, gGe_int, gEq_bl, gNe_bl, gEq_str, gNe_str, mIsi, mIsiT, tyD, kitL, kitTab, atI_c0, atI_c1, atI_c2, atI_c3, atI_c4, sForR1, int1, int2, mMeth, mMake, mFld, sFldM, gIs, gIsNot, isNon_t, sRaise, gList, newLO, take_is, e2]) j0 (by omega)
        ⟨[], none, rfl, by rw [f2.2 _ (by omega) (by simp)]; simp, rfl, rfl, by simp, tmono (by omega) t2, fr_app.trans f2, by rw [l2]; simp⟩ fun i L O hi ⟨ls, y3, hL, hx, hl, hn, hok, t, f, l⟩ => by
          subst hL
          obtain ⟨l1, O', e, q1, q2, q3, q4, q5⟩ := line_ok (nm := (LNN[i]?).getD "") t (by omega) hnd (by omega) (by omega)
          obtain ⟨c, nm, n1, n2, n3⟩ := lname (O := O) (k := i) (by omega)
          rw [n1] at e q1
          simp only [Option.getD_some] at e q1
          refine ⟨_, O'.set O1.length (.lst (ls.map encL ++ [encL l1])), ?_, ls ++ [l1], some (.int i), rfl, ?_, ?_, ?_, ?_, ?_, ?_, ?_⟩
          · have ea := app_ok (m := mVar 2) (e := (mFn (arity 3 f_law_line) [] (mCons (mVar 0) (mCons (mOp (gAdd false) (mC (.str "l")) (mOp gIx (mC (.str "abcdefgh")) (mVar 3))) (mCons (mVar 1) mNil))))) (L := [some (.hdl 0), some (.lst (st.map .str)), some (.hdl O1.length), some (.int i), none]) (O := O) (O1 := O) (O2 := O') (n := O1.length) (xs0 := ls.map encL) (xs := ls.map encL) (y := encL l1) rfl hx
              (by simp [mFn, mCons, mNil, mVar, mOp, mC, arity, Res.bind, ofO, n2, n3, e]) (q4.at (by omega) hx) (by rw [List.length_map]; omega)
            show (lnE) _ _ = _
            simp only [lnE, sDrop, List.set_cons_succ, List.set_cons_zero]
            rw [ea]
            rfl
          · rw [List.getElem?_set_self (by omega), List.map_append]
            rfl
          · rw [List.length_append, List.length_singleton, hl]
          · rw [List.map_append, hn, take_snoc n1, ← q1]
            rfl
          · intro x hx
            rcases List.mem_append.mp hx with hx | hx
            · exact hok x hx
            · rw [List.mem_singleton.mp hx]; exact q2
          · exact tmono (by omega) (q3.set hn0)
          · exact fr_setNew (f.trans q4) (Nat.le_refl _)
          · rw [List.length_set, q5, l]
      refine ⟨y3, O3, ?_, ls, hx, by omega, by rw [hl, hn], hok, tmono (by omega) t3, f3, l3⟩
      have c2 : (1 : Int) < st.length := by omega
      simp only [sIf, mTest, mOp, mCall, mCons, mNil, mVar, mC, g1, gLen, seqOf, Res.bind, ofO, ofRes, List.getElem?_cons_succ, List.getElem?_cons_zero, List.length_map, gGt_int, c2, decide_true, if_true]
      exact e
    · refine ⟨none, O1 ++ [.lst []], ?_, [], by simp, by simp, rfl, by simp, tmono (by omega) tA, fr_app, by simp⟩
      have c2 : ¬ (1 : Int) < st.length := by omega
      simp [runF, sSeq, sIf, sNext, sDrop, sRet, sRetN, sAsg, ofRes, ofB, bName, bNil, bCons, bTup, bLst, bSubL, mTest, mOp, mVar, mC, mChain, mAnd, mOr, mNot, mIf, mAndV, mOrV, mNotV, mNeg, mCons, mNil, mTup, mLst, newL, mCall, mFn, arity, g1, g2, gLen, gInt, gAbs, gMax2, gMin2, gIx, seqOf, lsqOf, lstOf, Res.bind, ofO, gAdd_ok, gSub_ok, gEq_int, gNe_int, gLt_int, gLe_int, gGt_int, gGe_int, gEq_bl, gNe_bl, gEq_str, gNe_str, mIsi, mIsiT, tyD, kitL, kitTab, atI_c0, atI_c1, atI_c2, atI_c3, atI_c4, sForR1, int1, int2, mMeth, mMake, mFld, sFldM, gIs, gIsNot, isNon_t, sRaise, gList, newLO, c2]
  -- the plants
  have hf3 : O3[O1.length]? = some (.lst (ls.map encL)) := hls
  have tB : Take (b + 40) 0 (O3 ++ [.lst []]) := t3.fz fz_app
  have hn3 : O3.length ≠ 0 := by omega
  obtain ⟨j, O4, e4, j0, j1, t4, f4, l4⟩ := tk1 (m := 6) tB (by omega) (by omega) (by omega)
  obtain ⟨L', O5, eP, ps, y5, rfl, hps, hpl, hpn, hpok, t5, f5, l5⟩ := forR1_keeps (t := mCons (mFn (arity 2 f_law_take) [] (mCons (mVar 0) (mCons (mC (.int 6)) mNil))) mNil) (b := bName 3) (body := plE) (L := [some (.hdl 0), some (.lst (st.map .str)), some (.hdl O1.length), y3, some (.hdl O3.length)]) (O := O3 ++ [.lst []]) (O1 := O4) (j := j)
    (I := fun i L O => ∃ (ps : List Pl) (y3 : Option D), L = [some (.hdl 0), some (.lst (st.map .str)), some (.hdl O1.length), y3, some (.hdl O3.length)] ∧ O[O3.length]? = some (.lst (ps.map encP)) ∧ ps.length = i ∧ ps.map (·.n) = PLN.take i ∧ (∀ l ∈ ps, PlOK st l) ∧ Take (b + 42 + 8 * i) 0 O ∧ Fr O3 O ∧ O.length = O3.length + 1)
    (by simp [runF, sSeq, sIf, sNext, sDrop, sRet, sRetN, sAsg, ofRes, ofB, bName, bNil, bCons, bTup, bLst, bSubL, mTest, mOp, mVar, mC, mChain, mAnd, mOr, mNot, mIf, mAndV, mOrV, mNotV, mNeg, mCons, mNil, mTup, mLst, newL, mCall, mFn, arity, g1, g2, gLen, gInt, gAbs, gMax2, gMin2, gIx, seqOf, lsqOf, lstOf, Res.bind, ofO, gAdd_ok, gSub_ok, gEq_int, gNe_int, gLt_int, gLe_int, gGt_int, gGe_int, gEq_bl, gNe_bl, gEq_str, gNe_str, mIsi, mIsiT, tyD, kitL, kitTab, atI_c0, atI_c1, atI_c2, atI_c3, atI_c4, sForR1, int1, int2, mMeth, mMake, mFld, sFldM, gIs, gIsNot, isNon_t, sRaise, gList, newLO, take_is, e4]) j0 (by omega)
    ⟨[], y3, rfl, by rw [f4.2 _ (by omega) (by simp)]; simp, rfl, rfl, by simp, tmono (by omega) t4, fr_app.trans f4, by rw [l4]; simp⟩ fun i L O hi ⟨ps, y3, hL, hx, hl, hn, hok, t, f, l⟩ => by
      subst hL
      obtain ⟨p1, O', e, q1, q2, q3, q4, q5⟩ := plant_ok (nm := (PLN[i]?).getD "") t (by omega) (show 1 ≤ st.length by omega) (by omega)
      obtain ⟨c, nm, n1, n2, n3⟩ := pname (O := O) (k := i) (by omega)
      rw [n1] at e q1
      simp only [Option.getD_some] at e q1
      refine ⟨_, O'.set O3.length (.lst (ps.map encP ++ [encP p1])), ?_, ps ++ [p1], some (.int i), rfl, ?_, ?_, ?_, ?_, ?_, ?_, ?_⟩
      · have ea := app_ok (m := mVar 4) (e := (mFn (arity 3 f_law_plant) [] (mCons (mVar 0) (mCons (mOp (gAdd false) (mC (.str "p")) (mOp gIx (mC (.str "abcde")) (mVar 3))) (mCons (mVar 1) mNil))))) (L := [some (.hdl 0), some (.lst (st.map .str)), some (.hdl O1.length), some (.int i), some (.hdl O3.length)]) (O := O) (O1 := O) (O2 := O') (n := O3.length) (xs0 := ps.map encP) (xs := ps.map encP) (y := encP p1) rfl hx
          (by simp [mFn, mCons, mNil, mVar, mOp, mC, arity, Res.bind, ofO, n2, n3, e]) (q4.at (by omega) hx) (by rw [List.length_map]; omega)
        show (plE) _ _ = _
        simp only [plE, sDrop, List.set_cons_succ, List.set_cons_zero]
        rw [ea]
        rfl
      · rw [List.getElem?_set_self (by omega), List.map_append]
        rfl
      · rw [List.length_append, List.length_singleton, hl]
      · rw [List.map_append, hn, take_snoc n1, ← q1]
        rfl
      · intro x hx
        rcases List.mem_append.mp hx with hx | hx
        · exact hok x hx
        · rw [List.mem_singleton.mp hx]; exact q2
      · exact tmono (by omega) (q3.set hn3)
      · exact fr_setNew (f.trans q4) (Nat.le_refl _)
      · rw [List.length_set, q5, l]
  have hls5 : O5[O1.length]? = some (.lst (ls.map encL)) := by rw [f5.2 _ (by omega) (by omega)]; exact hls
  have hps5 : (O5.set O1.length .dead)[O3.length]? = some (.lst (ps.map encP)) := by rw [List.getElem?_set_ne (by omega)]; exact hps
  refine ⟨⟨st, ls, ps⟩, (O5.set O1.length .dead).set O3.length .dead, ?_, ⟨⟨(1 + v).toNat, by omega, by omega, hst.symm⟩, hll, hln, by show ps.length ≤ 5; omega, by show ps.map _ = PLN.take ps.length; rw [hpl]; exact hpn, hlok, hpok⟩, tmono (by omega) ((t5.set hn0).set hn3), fr_setNew (fr_setNew (f1.trans (f3.trans f5)) (by omega)) (by omega)⟩
  simp only [f_law_world, b_law_world]
  generalize (sIf (mTest (mOp gGt (mCall (g1 gLen) (mCons (mVar 1) mNil)) (mC (.int 1)))) (sForR1 (mCons (mFn (arity 2 f_law_take) [] (mCons (mVar 0) (mCons (mC (.int 9)) mNil))) mNil) (bName 3) lnE) sNext) = sL at eL ⊢
  generalize (sForR1 (mCons (mFn (arity 2 f_law_take) [] (mCons (mVar 0) (mCons (mC (.int 6)) mNil))) mNil) (bName 3) plE) = sP at eP ⊢
  simp [runF, sSeq, sIf, sNext, sDrop, sRet, sRetN, sAsg, ofRes, ofB, bName, bNil, bCons, bTup, bLst, bSubL, mTest, mOp, mVar, mC, mChain, mAnd, mOr, mNot, mIf, mAndV, mOrV, mNotV, mNeg, mCons, mNil, mTup, mLst, newL, mCall, mFn, arity, g1, g2, gLen, gInt, gAbs, gMax2, gMin2, gIx, seqOf, lsqOf, lstOf, Res.bind, ofO, gAdd_ok, gSub_ok, gEq_int, gNe_int, gLt_int, gLe_int, gGt_int, gGe_int, gEq_bl, gNe_bl, gEq_str, gNe_str, mIsi, mIsiT, tyD, kitL, kitTab, atI_c0, atI_c1, atI_c2, atI_c3, atI_c4, sForR1, int1, int2, mMeth, mMake, mFld, sFldM, gIs, gIsNot, isNon_t, sRaise, gList, newLO, mSl, oNone, oSome, take_is, e1, hsl2, eL, eP, mFrz, frzD, hls5, hps5]
end DK.W
end
section
set_option Elab.async false
set_option linter.all false
set_option autoImplicit false
set_option maxRecDepth 100000
set_option maxHeartbeats 4000000
/-! DKLand: the program's land, in plain Lean. -/
namespace DK.W
open PySem L2 DK
/-! ### membership, dicts -/
theorem inV_strs {nm : Str} : ∀ {xs : List Str}, inV (.str nm) (xs.map V.str) = decide (nm ∈ xs)
  | [] => by simp [inV]
  | x :: xs => by
    have ih := inV_strs (nm := nm) (xs := xs)
    unfold inV at ih ⊢
    rw [List.map_cons, List.any_cons, ih]
    have : eqV (.str x) (.str nm) = decide (nm = x) := by
      show (x == nm) = _
      by_cases e : nm = x
      · subst e; simp
      · have e2 : ¬ x = nm := fun z => e z.symm
        simp [e, e2]
    rw [this]
    by_cases h : nm = x <;> simp [h]
theorem flats_strs : ∀ {xs : List Str}, (xs.map D.str).mapM flatOf = some (xs.map V.str)
  | [] => by simp
  | x :: xs => by
    rw [List.map_cons, mapM_cons, flats_strs]
    rfl
theorem in_strs {O : Store} {d : D} {xs : List Str} {nm : Str} (h : seqOf O d = some (xs.map D.str)) : gIn O (.str nm) d = some (.bl (decide (nm ∈ xs)), O) := by
  have e : inD O (.str nm) d = some (decide (nm ∈ xs)) := by
    cases d with
    | str z => cases h
    | _ => simp only [inD, h, flatOf, flats_strs, inV_strs]
  unfold gIn
  rw [e]
theorem notin_strs {O : Store} {d : D} {xs : List Str} {nm : Str} (h : seqOf O d = some (xs.map D.str)) : gNotIn O (.str nm) d = some (.bl (!decide (nm ∈ xs)), O) := by
  have e : inD O (.str nm) d = some (decide (nm ∈ xs)) := by
    cases d with
    | str z => cases h
    | _ => simp only [inD, h, flatOf, flats_strs, inV_strs]
  unfold gNotIn
  rw [e]
/-- a dict by names -/
abbrev dicS {α : Type} (n : α → Str) (g : α → D) (xs : List α) : List (Key × D) := xs.map fun x => (Sum.inr (n x), g x)
theorem val_dicS {α : Type} {n : α → Str} {g : α → D} {nm : Str} : ∀ {xs : List α}, valD (dicS n g xs) (.inr nm) = (xs.find? fun x => decide (n x = nm)).map g
  | [] => rfl
  | x :: xs => by
    have ih := val_dicS (n := n) (g := g) (nm := nm) (xs := xs)
    unfold valD at ih ⊢
    rw [show dicS n g (x :: xs) = (Sum.inr (n x), g x) :: dicS n g xs from rfl, List.find?_cons, List.find?_cons]
    by_cases h : n x = nm
    · simp [h]
    · simp [h]
      simpa using ih
theorem has_dicS {α : Type} {n : α → Str} {g : α → D} {nm : Str} {xs : List α} : (valD (dicS n g xs) (.inr nm)).isSome = decide (nm ∈ xs.map n) := by
  rw [val_dicS]
  rw [Option.isSome_map, Bool.eq_iff_iff, List.find?_isSome]
  simp
theorem put_dicS {α : Type} {n : α → Str} {g : α → D} {x : α} {xs : List α} (h : n x ∉ xs.map n) : putKD (dicS n g xs) (.inr (n x)) (g x) = dicS n g (xs ++ [x]) := by
  unfold putKD
  rw [if_neg]
  · show _ = (xs ++ [x]).map _
    rw [List.map_append]
    rfl
  · intro z
    rw [List.any_eq_true] at z
    obtain ⟨p, hp, hq⟩ := z
    obtain ⟨y, hy, rfl⟩ := List.mem_map.mp hp
    simp at hq
    exact h (List.mem_map.mpr ⟨y, hy, hq⟩)
/-! ### names -/
abbrev NAMES : List Str := STN ++ LNN ++ PLN
theorem name_ok {nm : Str} {O : Store} (h : nm ∈ NAMES) : f_is_name [.str nm] O = .ok (.bl true) O := by
  simp at h
  rcases h with rfl | rfl | rfl | rfl | rfl | rfl | rfl | rfl | rfl | rfl | rfl | rfl | rfl | rfl | rfl | rfl | rfl | rfl | rfl <;> rfl
theorem num_is : f_is_number = fIsNum := rfl
theorem chk_is : f_checked_number = fChk := rfl
/-! ### the land -/
abbrev lineD (l : Ln) : D := .tup [.str l.a, .str l.b, .int l.need, .int l.min]
abbrev plantD (p : Pl) : D := .tup [.str p.s, .int p.need, .int p.gives, .int p.quick, .int p.hot, .int p.cool, .int p.slow]
abbrev landO (s l p v : Nat) : Ob := .ins "Land" [("_stations", .hdl s), ("_lines", .hdl l), ("_plants", .hdl p), ("_selves", .hdl v)]
/-- the land at h, its lists and dicts at s, l, p, v -/
structure LandAt (h s l p v : Nat) (w : Wd) (O : Store) : Prop where
  eo : O[h]? = some (landO s l p v)
  es : O[s]? = some (.lst (w.st.map .str))
  el : O[l]? = some (.dct (dicS (·.n) lineD w.ls))
  ep : O[p]? = some (.dct (dicS (·.n) plantD w.ps))
  ev : O[v]? = some (.lst ((w.ps.filter (·.alone)).map fun p => .str p.n))
  lp : l ≠ p
  sv : s ≠ v
  pos : 0 < h ∧ 0 < s ∧ 0 < l ∧ 0 < p ∧ 0 < v
theorem LandAt.fr {h s l p v : Nat} {w : Wd} {O O' : Store} (a : LandAt h s l p v w O) (f : Fr O O') : LandAt h s l p v w O' :=
  ⟨f.at a.pos.1 a.eo, f.at a.pos.2.1 a.es, f.at a.pos.2.2.1 a.el, f.at a.pos.2.2.2.1 a.ep, f.at a.pos.2.2.2.2 a.ev, a.lp, a.sv, a.pos⟩
theorem lks {s l p v : D} : List.lookup ("_stations" : Str) [(("_stations" : Str), s), (("_lines" : Str), l), (("_plants" : Str), p), (("_selves" : Str), v)] = some s := rfl
theorem lkl {s l p v : D} : List.lookup ("_lines" : Str) [(("_stations" : Str), s), (("_lines" : Str), l), (("_plants" : Str), p), (("_selves" : Str), v)] = some l := rfl
theorem lkp {s l p v : D} : List.lookup ("_plants" : Str) [(("_stations" : Str), s), (("_lines" : Str), l), (("_plants" : Str), p), (("_selves" : Str), v)] = some p := rfl
theorem lkv {s l p v : D} : List.lookup ("_selves" : Str) [(("_stations" : Str), s), (("_lines" : Str), l), (("_plants" : Str), p), (("_selves" : Str), v)] = some v := rfl
/-- the methods are no fields -/
theorem lkm {m : Str} {s l p v : D} (h : m ∉ ([("_stations" : Str), "_lines", "_plants", "_selves"])) : List.lookup m [(("_stations" : Str), s), (("_lines" : Str), l), (("_plants" : Str), p), (("_selves" : Str), v)] = none := by
  simp at h
  rw [List.lookup_cons, beq_false_of_ne h.1, List.lookup_cons, beq_false_of_ne h.2.1, List.lookup_cons, beq_false_of_ne h.2.2.1, List.lookup_cons, beq_false_of_ne h.2.2.2]
  rfl
def kindD (w : Wd) (nm : Str) : D := if nm ∈ w.st then .str "station" else if nm ∈ w.ls.map (·.n) then .str "line" else if nm ∈ w.ps.map (·.n) then .str "plant" else .non
section
variable {h s l p v : Nat} {w : Wd} {O : Store} {nm : Str}
theorem kind_ok (a : LandAt h s l p v w O) : f_land_kind [.hdl h, .str nm] O = .ok (kindD w nm) O := by
  have i1 : gIn O (.str nm) (.hdl s) = some (.bl (decide (nm ∈ w.st)), O) := in_strs (by simp [seqOf, a.es])
  have i2 := has_dicS (n := Ln.n) (g := lineD) (nm := nm) (xs := w.ls)
  have i3 := has_dicS (n := Pl.n) (g := plantD) (nm := nm) (xs := w.ps)
  have al := a.el
  have ap := a.ep
  generalize dicS Ln.n lineD w.ls = dl at *
  generalize dicS Pl.n plantD w.ps = dp at *
  unfold kindD
  by_cases c1 : nm ∈ w.st <;> by_cases c2 : nm ∈ w.ls.map (·.n) <;> by_cases c3 : nm ∈ w.ps.map (·.n) <;> simp only [c1, c2, c3, decide_true, decide_false] at i1 i2 i3 <;> simp [f_land_kind, b_land_kind, mDIn, dctOf, keyD, runF, sSeq, sIf, sNext, sDrop, sRet, sRetN, sAsg, ofRes, ofB, bName, bNil, bCons, bTup, bLst, bSubL, mTest, mOp, mVar, mC, mChain, mAnd, mOr, mNot, mIf, mAndV, mOrV, mNotV, mNeg, mCons, mNil, mTup, mLst, newL, mCall, mFn, arity, g1, g2, gLen, gInt, gAbs, gMax2, gMin2, gIx, seqOf, lsqOf, lstOf, Res.bind, ofO, gAdd_ok, gSub_ok, gEq_int, gNe_int, gLt_int, gLe_int, gGt_int, gGe_int, gEq_bl, gNe_bl, gEq_str, gNe_str, mIsi, mIsiT, tyD, kitL, kitTab, atI_c0, atI_c1, atI_c2, atI_c3, atI_c4, sForR1, int1, int2, mMeth, mMake, mFld, sFldM, gIs, gIsNot, isNon_t, sRaise, gList, newLO, a.eo, al, ap, lks, lkl, lkp, i1, i2, i3, c1, c2, c3]
theorem free_ok (a : LandAt h s l p v w O) (hn : nm ∈ NAMES) (k : kindD w nm = .non) : f_land_free [.hdl h, .str nm] O = .ok .non O := by
  have e := kind_ok (nm := nm) a
  rw [k] at e
  have n := name_ok (O := O) hn
  have lk : List.lookup ("kind" : Str) [(("_stations" : Str), D.hdl s), (("_lines" : Str), .hdl l), (("_plants" : Str), .hdl p), (("_selves" : Str), .hdl v)] = none := rfl
  simp [f_land_free, b_land_free, f_checked_name, b_checked_name, runF, sSeq, sIf, sNext, sDrop, sRet, sRetN, sAsg, ofRes, ofB, bName, bNil, bCons, bTup, bLst, bSubL, mTest, mOp, mVar, mC, mChain, mAnd, mOr, mNot, mIf, mAndV, mOrV, mNotV, mNeg, mCons, mNil, mTup, mLst, newL, mCall, mFn, arity, g1, g2, gLen, gInt, gAbs, gMax2, gMin2, gIx, seqOf, lsqOf, lstOf, Res.bind, ofO, gAdd_ok, gSub_ok, gEq_int, gNe_int, gLt_int, gLe_int, gGt_int, gGe_int, gEq_bl, gNe_bl, gEq_str, gNe_str, mIsi, mIsiT, tyD, kitL, kitTab, atI_c0, atI_c1, atI_c2, atI_c3, atI_c4, sForR1, int1, int2, mMeth, mMake, mFld, sFldM, gIs, gIsNot, isNon_t, sRaise, gList, newLO, a.eo, e, n, lk]
theorem there_ok (a : LandAt h s l p v w O) (hn : nm ∈ w.st) : f_land_there [.hdl h, .str nm] O = .ok .non O := by
  have i1 : gNotIn O (.str nm) (.hdl s) = some (.bl (!decide (nm ∈ w.st)), O) := notin_strs (by simp [seqOf, a.es])
  simp [f_land_there, b_land_there, runF, sSeq, sIf, sNext, sDrop, sRet, sRetN, sAsg, ofRes, ofB, bName, bNil, bCons, bTup, bLst, bSubL, mTest, mOp, mVar, mC, mChain, mAnd, mOr, mNot, mIf, mAndV, mOrV, mNotV, mNeg, mCons, mNil, mTup, mLst, newL, mCall, mFn, arity, g1, g2, gLen, gInt, gAbs, gMax2, gMin2, gIx, seqOf, lsqOf, lstOf, Res.bind, ofO, gAdd_ok, gSub_ok, gEq_int, gNe_int, gLt_int, gLe_int, gGt_int, gGe_int, gEq_bl, gNe_bl, gEq_str, gNe_str, mIsi, mIsiT, tyD, kitL, kitTab, atI_c0, atI_c1, atI_c2, atI_c3, atI_c4, sForR1, int1, int2, mMeth, mMake, mFld, sFldM, gIs, gIsNot, isNon_t, sRaise, gList, newLO, a.eo, lks, i1, hn]
theorem there_no (a : LandAt h s l p v w O) (hn : nm ∉ w.st) : f_land_there [.hdl h, .str nm] O = .exc ⟨"UnknownName", none⟩ O := by
  have i1 : gNotIn O (.str nm) (.hdl s) = some (.bl (!decide (nm ∈ w.st)), O) := notin_strs (by simp [seqOf, a.es])
  simp [f_land_there, b_land_there, runF, sSeq, sIf, sNext, sDrop, sRet, sRetN, sAsg, ofRes, ofB, bName, bNil, bCons, bTup, bLst, bSubL, mTest, mOp, mVar, mC, mChain, mAnd, mOr, mNot, mIf, mAndV, mOrV, mNotV, mNeg, mCons, mNil, mTup, mLst, newL, mCall, mFn, arity, g1, g2, gLen, gInt, gAbs, gMax2, gMin2, gIx, seqOf, lsqOf, lstOf, Res.bind, ofO, gAdd_ok, gSub_ok, gEq_int, gNe_int, gLt_int, gLe_int, gGt_int, gGe_int, gEq_bl, gNe_bl, gEq_str, gNe_str, mIsi, mIsiT, tyD, kitL, kitTab, atI_c0, atI_c1, atI_c2, atI_c3, atI_c4, sForR1, int1, int2, mMeth, mMake, mFld, sFldM, gIs, gIsNot, isNon_t, sRaise, gList, newLO, a.eo, lks, i1, hn]
theorem room_ok {d : D} {n : Nat} (e : gLen O d = some (.int (n : Int), O)) (hn : n < 60) (a : LandAt h s l p v w O) : f_land_room [.hdl h, d] O = .ok .non O := by
  have : ¬ (60 : Int) ≤ (n : Int) := by omega
  simp [f_land_room, b_land_room, sSeq, sIf, sNext, ofRes, mTest, mOp, mVar, mC, mCall, mCons, mNil, g1, Res.bind, ofO, runF, gGe_int, e, this]
theorem strsD_map : ∀ {xs : List Str}, strsD (xs.map D.str) = some xs
  | [] => rfl
  | x :: xs => by
    show (strsD (xs.map D.str)).map (x :: ·) = _
    rw [strsD_map]
    rfl
theorem intsOf_strs {x : Str} {xs : List Str} : intsOf ((x :: xs).map D.str) = none := rfl
theorem sorted_strs {O : Store} {d : D} {xs : List Str} {hm : Bool} (hd : lsqOf O d = some (xs.map D.str)) (hx : dctOf O d = none) (h0 : 0 < xs.length) (h1 : xs.length < 64) : gSorted hm O d = newLO hm ((sortS xs).map .str) O := by
  unfold gSorted
  rw [hx]
  simp only [hd]
  cases xs with
  | nil => simp at h0
  | cons x xs =>
    rw [intsOf_strs]
    simp only [strsD_map, if_pos h1]
theorem add_station_ok {st' : List Str} (a : LandAt h s l p v w O) (hn : nm ∈ NAMES) (k : kindD w nm = .non) (hl : w.st.length < 60) (hs : sortS (w.st ++ [nm]) = st') (hs1 : st'.length ≤ 1000) :
    f_land_add_station [.hdl h, .str nm] O = .ok .non ((O ++ [Ob.lst (st'.map .str)]).set h (landO O.length l p v)) ∧ LandAt h O.length l p v ⟨st', w.ls, w.ps⟩ ((O ++ [Ob.lst (st'.map .str)]).set h (landO O.length l p v)) := by
  have lh := (List.getElem?_eq_some_iff.mp a.eo).1
  have ll := (List.getElem?_eq_some_iff.mp a.el).1
  have lp := (List.getElem?_eq_some_iff.mp a.ep).1
  have lv := (List.getElem?_eq_some_iff.mp a.ev).1
  constructor
  · have e1 := free_ok a hn k
    have e2 := room_ok (d := .hdl s) (n := w.st.length) (by simp [gLen, a.es]) hl a
    have lk1 : List.lookup ("_free" : Str) [(("_stations" : Str), D.hdl s), (("_lines" : Str), .hdl l), (("_plants" : Str), .hdl p), (("_selves" : Str), .hdl v)] = none := rfl
    have lk2 : List.lookup ("_room" : Str) [(("_stations" : Str), D.hdl s), (("_lines" : Str), .hdl l), (("_plants" : Str), .hdl p), (("_selves" : Str), .hdl v)] = none := rfl
    have e3 : gAdd false O (.hdl s) (.lst [.str nm]) = some (.lst ((w.st ++ [nm]).map D.str), O) := by
      simp [gAdd, lsqOf, lstOf, a.es, newLO]
      omega
    have e4 : gSorted true O (.lst ((w.st ++ [nm]).map D.str)) = some (.hdl O.length, O ++ [.lst (st'.map .str)]) := by
      rw [sorted_strs (xs := w.st ++ [nm]) rfl rfl (by simp) (by simp; omega), hs]
      simp [newLO]
      omega
    have e5 : (O ++ [Ob.lst (st'.map .str)])[h]? = some (landO s l p v) := by rw [List.getElem?_append_left lh]; exact a.eo
    have pt : putD "_stations" (.hdl O.length) [(("_stations" : Str), D.hdl s), (("_lines" : Str), .hdl l), (("_plants" : Str), .hdl p), (("_selves" : Str), .hdl v)] = [(("_stations" : Str), D.hdl O.length), (("_lines" : Str), .hdl l), (("_plants" : Str), .hdl p), (("_selves" : Str), .hdl v)] := rfl
    generalize List.map D.str (w.st ++ [nm]) = z at e3 e4
    simp [f_land_add_station, b_land_add_station, runF, sSeq, sIf, sNext, sDrop, sRet, sRetN, sAsg, ofRes, ofB, bName, bNil, bCons, bTup, bLst, bSubL, mTest, mOp, mVar, mC, mChain, mAnd, mOr, mNot, mIf, mAndV, mOrV, mNotV, mNeg, mCons, mNil, mTup, mLst, newL, mCall, mFn, arity, g1, g2, gLen, gInt, gAbs, gMax2, gMin2, gIx, seqOf, lsqOf, lstOf, Res.bind, ofO, gAdd_ok, gSub_ok, gEq_int, gNe_int, gLt_int, gLe_int, gGt_int, gGe_int, gEq_bl, gNe_bl, gEq_str, gNe_str, mIsi, mIsiT, tyD, kitL, kitTab, atI_c0, atI_c1, atI_c2, atI_c3, atI_c4, sForR1, int1, int2, mMeth, mMake, mFld, sFldM, gIs, gIsNot, isNon_t, sRaise, gList, newLO, a.eo, e1, e2, e3, e4, e5, lk1, lk2, lks, pt]
  · have ne : h ≠ l ∧ h ≠ p ∧ h ≠ v := ⟨(fun z => by have := a.eo; rw [z, a.el] at this; cases this), (fun z => by have := a.eo; rw [z, a.ep] at this; cases this), fun z => by have := a.eo; rw [z, a.ev] at this; cases this⟩
    refine ⟨List.getElem?_set_self (by rw [List.length_append]; omega), ?_, ?_, ?_, ?_, a.lp, by omega, a.pos.1, by omega, a.pos.2.2.1, a.pos.2.2.2.1, a.pos.2.2.2.2⟩
    · rw [List.getElem?_set_ne (by omega), List.getElem?_append_right (Nat.le_refl _)]
      simp
    · rw [List.getElem?_set_ne ne.1, List.getElem?_append_left ll]; exact a.el
    · rw [List.getElem?_set_ne ne.2.1, List.getElem?_append_left lp]; exact a.ep
    · rw [List.getElem?_set_ne ne.2.2, List.getElem?_append_left lv]; exact a.ev
theorem chk1 {O : Store} {x a c : Int} (h0 : a ≤ x) (h1 : x ≤ c) : f_checked_number [.int x, .int a, .int c] O = .ok (.int x) O := chk_yes h0 h1
theorem minmax_id {a b : Str} (h : ltSV a b = true) : ltSV b a = false := ltSV_asym h
theorem add_line_ok {l1 : Ln} (a : LandAt h s l p v w O) (hn : l1.n ∈ NAMES) (k : kindD w l1.n = .non) (hl : w.ls.length < 60) (ok : LnOK w.st l1) :
    f_land_add_line [.hdl h, .str l1.n, .str l1.a, .str l1.b, .int l1.need, .int l1.min] O = .ok .non (O.set l (.dct (dicS (·.n) lineD (w.ls ++ [l1])))) ∧ LandAt h s l p v ⟨w.st, w.ls ++ [l1], w.ps⟩ (O.set l (.dct (dicS (·.n) lineD (w.ls ++ [l1])))) := by
  have ll := (List.getElem?_eq_some_iff.mp a.el).1
  have hnl : l1.n ∉ w.ls.map (·.n) := fun z => by
    unfold kindD at k
    by_cases c : l1.n ∈ w.st
    · rw [if_pos c] at k; cases k
    · rw [if_neg c, if_pos z] at k; cases k
  constructor
  · have e1 := free_ok a hn k
    have e2 := there_ok a ok.a
    have e3 := there_ok a ok.b
    have e4 := room_ok (d := .hdl l) (n := w.ls.length) (by simp [gLen, a.el]) hl a
    have e5 := chk1 (O := O) (x := l1.need) (a := 0) (c := 1000000) ok.need.1 (by have := ok.need; omega)
    have e6 := chk1 (O := O) (x := l1.min) (a := 1) (c := 1000000) ok.min.1 (by have := ok.min; omega)
    have ne : ¬ l1.a = l1.b := ltSV_ne ok.ab
    have ab := ok.ab
    have ba := ltSV_asym ok.ab
    have lk1 : List.lookup ("_free" : Str) [(("_stations" : Str), D.hdl s), (("_lines" : Str), .hdl l), (("_plants" : Str), .hdl p), (("_selves" : Str), .hdl v)] = none := rfl
    have lk2 : List.lookup ("_room" : Str) [(("_stations" : Str), D.hdl s), (("_lines" : Str), .hdl l), (("_plants" : Str), .hdl p), (("_selves" : Str), .hdl v)] = none := rfl
    have lk3 : List.lookup ("_there" : Str) [(("_stations" : Str), D.hdl s), (("_lines" : Str), .hdl l), (("_plants" : Str), .hdl p), (("_selves" : Str), .hdl v)] = none := rfl
    have pt := put_dicS (n := Ln.n) (g := lineD) (x := l1) (xs := w.ls) hnl
    have dl : (dicS Ln.n lineD w.ls).length ≤ 1000000 := by simp; omega
    have al := a.el
    generalize dicS Ln.n lineD w.ls = dx at *
    generalize dicS Ln.n lineD (w.ls ++ [l1]) = dy at *
    simp [f_land_add_line, b_land_add_line, runF, sSeq, sIf, sNext, sDrop, sRet, sRetN, sAsg, ofRes, ofB, bName, bNil, bCons, bTup, bLst, bSubL, mTest, mOp, mVar, mC, mChain, mAnd, mOr, mNot, mIf, mAndV, mOrV, mNotV, mNeg, mCons, mNil, mTup, mLst, newL, mCall, mFn, arity, g1, g2, gLen, gInt, gAbs, gMax2, gMin2, gIx, seqOf, lsqOf, lstOf, Res.bind, ofO, gAdd_ok, gSub_ok, gEq_int, gNe_int, gLt_int, gLe_int, gGt_int, gGe_int, gEq_bl, gNe_bl, gEq_str, gNe_str, mIsi, mIsiT, tyD, kitL, kitTab, atI_c0, atI_c1, atI_c2, atI_c3, atI_c4, sForR1, int1, int2, mMeth, mMake, mFld, sFldM, gIs, gIsNot, isNon_t, sRaise, gList, newLO, sDPutM, dctOf, keyD, hdlN, gMinA, gMaxA, a.eo, al, lks, lkl, lk1, lk2, lk3, e1, e2, e3, e4, e5, e6, ne, ab, ba, pt, dl]
  · have ne : l ≠ h ∧ l ≠ s ∧ l ≠ p ∧ l ≠ v := ⟨(fun z => by have := a.el; rw [z, a.eo] at this; cases this), (fun z => by have := a.el; rw [z, a.es] at this; cases this), a.lp, fun z => by have := a.el; rw [z, a.ev] at this; cases this⟩
    refine ⟨?_, ?_, List.getElem?_set_self ll, ?_, ?_, a.lp, a.sv, a.pos⟩
    · rw [List.getElem?_set_ne ne.1]; exact a.eo
    · rw [List.getElem?_set_ne ne.2.1]; exact a.es
    · rw [List.getElem?_set_ne ne.2.2.1]; exact a.ep
    · rw [List.getElem?_set_ne ne.2.2.2]; exact a.ev
theorem add_self_ok {p1 : Pl} (a : LandAt h s l p v w O) (hn : p1.n ∈ NAMES) (k : kindD w p1.n = .non) (hl : w.ps.length < 60) (ok : PlOK w.st p1) (al : p1.alone = true) :
    ∃ O', f_land_add_self [.hdl h, .str p1.n, .str p1.s, .int p1.gives, .int p1.quick] O = .ok .non O' ∧ LandAt h s l p v ⟨w.st, w.ls, w.ps ++ [p1]⟩ O' ∧ O'.length = O.length ∧ ∀ i, i ≠ p → i ≠ v → O'[i]? = O[i]? := by
  have ll := (List.getElem?_eq_some_iff.mp a.ep).1
  have lv := (List.getElem?_eq_some_iff.mp a.ev).1
  obtain ⟨a1, a2, a3, a4⟩ := ok.alone al
  have hnl : p1.n ∉ w.ps.map (·.n) := fun z => by
    unfold kindD at k
    by_cases c : p1.n ∈ w.st
    · rw [if_pos c] at k; cases k
    · by_cases c2 : p1.n ∈ w.ls.map (·.n)
      · rw [if_neg c, if_pos c2] at k; cases k
      · rw [if_neg c, if_neg c2, if_pos z] at k; cases k
  have pv : p ≠ v := fun z => by have := a.ep; rw [z, a.ev] at this; cases this
  have hp : plantD p1 = .tup [.str p1.s, .int 0, .int p1.gives, .int p1.quick, .int 1000000, .int 1000000, .int p1.quick] := by simp only [plantD, a1, a2, a3, a4]
  refine ⟨(O.set p (.dct (dicS (·.n) plantD (w.ps ++ [p1])))).set v (.lst ((w.ps.filter (·.alone)).map (fun p => D.str p.n) ++ [.str p1.n])), ?_, ?_, by simp, fun i h1 h2 => by rw [List.getElem?_set_ne (fun z => h2 z.symm), List.getElem?_set_ne (fun z => h1 z.symm)]⟩
  · have e1 := free_ok a hn k
    have e2 := there_ok a ok.s
    have e4 := room_ok (d := .hdl p) (n := w.ps.length) (by simp [gLen, a.ep]) hl a
    have e5 := chk1 (O := O) (x := p1.gives) (a := 0) (c := 1000000) ok.gives.1 (by have := ok.gives; omega)
    have e6 := chk1 (O := O) (x := p1.quick) (a := 1) (c := 1000000) ok.quick.1 (by have := ok.quick; omega)
    have lk1 : List.lookup ("_free" : Str) [(("_stations" : Str), D.hdl s), (("_lines" : Str), .hdl l), (("_plants" : Str), .hdl p), (("_selves" : Str), .hdl v)] = none := rfl
    have lk2 : List.lookup ("_room" : Str) [(("_stations" : Str), D.hdl s), (("_lines" : Str), .hdl l), (("_plants" : Str), .hdl p), (("_selves" : Str), .hdl v)] = none := rfl
    have lk3 : List.lookup ("_there" : Str) [(("_stations" : Str), D.hdl s), (("_lines" : Str), .hdl l), (("_plants" : Str), .hdl p), (("_selves" : Str), .hdl v)] = none := rfl
    have pt := put_dicS (n := Pl.n) (g := plantD) (x := p1) (xs := w.ps) hnl
    rw [hp] at pt
    have dl : (dicS Pl.n plantD w.ps).length ≤ 1000000 := by simp; omega
    have ap := a.ep
    have av := a.ev
    have vl : ((w.ps.filter (·.alone)).map fun p => D.str p.n).length ≤ 1000000 := by
      rw [List.length_map]
      exact Nat.le_trans (List.length_filter_le ..) (by omega)
    generalize ((w.ps.filter (·.alone)).map fun p => D.str p.n) = vv at *
    generalize dicS Pl.n plantD w.ps = dx at *
    generalize dicS Pl.n plantD (w.ps ++ [p1]) = dy at *
    have s1 : ∀ q : Ob, (O.set p q)[h]? = some (landO s l p v) := fun q => by rw [List.getElem?_set_ne (fun z => by have := a.eo; rw [← z, ap] at this; cases this)]; exact a.eo
    have s2 : ∀ q : Ob, (O.set p q)[v]? = some (.lst vv) := fun q => by rw [List.getElem?_set_ne pv]; exact av
    simp [f_land_add_self, b_land_add_self, runF, sSeq, sIf, sNext, sDrop, sRet, sRetN, sAsg, ofRes, ofB, bName, bNil, bCons, bTup, bLst, bSubL, mTest, mOp, mVar, mC, mChain, mAnd, mOr, mNot, mIf, mAndV, mOrV, mNotV, mNeg, mCons, mNil, mTup, mLst, newL, mCall, mFn, arity, g1, g2, gLen, gInt, gAbs, gMax2, gMin2, gIx, seqOf, lsqOf, lstOf, Res.bind, ofO, gAdd_ok, gSub_ok, gEq_int, gNe_int, gLt_int, gLe_int, gGt_int, gGe_int, gEq_bl, gNe_bl, gEq_str, gNe_str, mIsi, mIsiT, tyD, kitL, kitTab, atI_c0, atI_c1, atI_c2, atI_c3, atI_c4, sForR1, int1, int2, mMeth, mMake, mFld, sFldM, gIs, gIsNot, isNon_t, sRaise, gList, newLO, mApp, sDPutM, dctOf, keyD, hdlN, a.eo, ap, lks, lkp, lkv, lk1, lk2, lk3, e1, e2, e4, e5, e6, pt, dl, s1, s2, vl]
  · refine ⟨?_, ?_, ?_, ?_, ?_, a.lp, a.sv, a.pos⟩
    · rw [List.getElem?_set_ne (fun z => by have := a.ev; rw [z, a.eo] at this; cases this), List.getElem?_set_ne (fun z => by have := a.ep; rw [z, a.eo] at this; cases this)]; exact a.eo
    · rw [List.getElem?_set_ne (fun z => a.sv z.symm), List.getElem?_set_ne (fun z => by have := a.ep; rw [z, a.es] at this; cases this)]; exact a.es
    · rw [List.getElem?_set_ne (fun z => by have := a.ev; rw [z, a.el] at this; cases this), List.getElem?_set_ne (fun z => a.lp z.symm)]; exact a.el
    · rw [List.getElem?_set_ne (fun z => pv z.symm), List.getElem?_set_self ll]
    · rw [List.getElem?_set_self (by rw [List.length_set]; exact lv), List.filter_append]
      simp [al]
theorem add_plant_ok {p1 : Pl} (a : LandAt h s l p v w O) (hn : p1.n ∈ NAMES) (k : kindD w p1.n = .non) (hl : w.ps.length < 60) (ok : PlOK w.st p1) (al : p1.alone = false) :
    ∃ O', f_land_add_plant [.hdl h, .str p1.n, .str p1.s, .int p1.need, .int p1.gives, .int p1.quick, .int p1.hot, .int p1.cool, .int p1.slow] O = .ok .non O' ∧ LandAt h s l p v ⟨w.st, w.ls, w.ps ++ [p1]⟩ O' ∧ O'.length = O.length ∧ ∀ i, i ≠ p → i ≠ v → O'[i]? = O[i]? := by
  have ll := (List.getElem?_eq_some_iff.mp a.ep).1
  have hnl : p1.n ∉ w.ps.map (·.n) := fun z => by
    unfold kindD at k
    by_cases c : p1.n ∈ w.st
    · rw [if_pos c] at k; cases k
    · by_cases c2 : p1.n ∈ w.ls.map (·.n)
      · rw [if_neg c, if_pos c2] at k; cases k
      · rw [if_neg c, if_neg c2, if_pos z] at k; cases k
  refine ⟨O.set p (.dct (dicS (·.n) plantD (w.ps ++ [p1]))), ?_, ?_, by simp, fun i h1 h2 => by rw [List.getElem?_set_ne (fun z => h1 z.symm)]⟩
  · have e1 := free_ok a hn k
    have e2 := there_ok a ok.s
    have e4 := room_ok (d := .hdl p) (n := w.ps.length) (by simp [gLen, a.ep]) hl a
    have e5 := chk1 (O := O) (x := p1.gives) (a := 0) (c := 1000000) ok.gives.1 (by have := ok.gives; omega)
    have e6 := chk1 (O := O) (x := p1.need) (a := 0) (c := 1000000) ok.need.1 (by have := ok.need; omega)
    have e7 := chk1 (O := O) (x := p1.quick) (a := 1) (c := 1000000) ok.quick.1 (by have := ok.quick; omega)
    have e8 := chk1 (O := O) (x := p1.hot) (a := 0) (c := 1000000) ok.hot.1 ok.hot.2
    have e9 := chk1 (O := O) (x := p1.cool) (a := 0) (c := 1000000) (by have := ok.hot; have := ok.cool; omega) ok.cool.2
    have e10 := chk1 (O := O) (x := p1.slow) (a := 1) (c := 1000000) (by have := ok.quick; have := ok.slow; omega) (by have := ok.slow; omega)
    have n1 : ¬ p1.slow < p1.quick := by have := ok.slow; omega
    have n2 : ¬ p1.cool < p1.hot := by have := ok.cool; omega
    have lk1 : List.lookup ("_free" : Str) [(("_stations" : Str), D.hdl s), (("_lines" : Str), .hdl l), (("_plants" : Str), .hdl p), (("_selves" : Str), .hdl v)] = none := rfl
    have lk2 : List.lookup ("_room" : Str) [(("_stations" : Str), D.hdl s), (("_lines" : Str), .hdl l), (("_plants" : Str), .hdl p), (("_selves" : Str), .hdl v)] = none := rfl
    have lk3 : List.lookup ("_there" : Str) [(("_stations" : Str), D.hdl s), (("_lines" : Str), .hdl l), (("_plants" : Str), .hdl p), (("_selves" : Str), .hdl v)] = none := rfl
    have pt := put_dicS (n := Pl.n) (g := plantD) (x := p1) (xs := w.ps) hnl
    have dl : (dicS Pl.n plantD w.ps).length ≤ 1000000 := by simp; omega
    have ap := a.ep
    generalize dicS Pl.n plantD w.ps = dx at *
    generalize dicS Pl.n plantD (w.ps ++ [p1]) = dy at *
    simp [f_land_add_plant, b_land_add_plant, runF, sSeq, sIf, sNext, sDrop, sRet, sRetN, sAsg, ofRes, ofB, bName, bNil, bCons, bTup, bLst, bSubL, mTest, mOp, mVar, mC, mChain, mAnd, mOr, mNot, mIf, mAndV, mOrV, mNotV, mNeg, mCons, mNil, mTup, mLst, newL, mCall, mFn, arity, g1, g2, gLen, gInt, gAbs, gMax2, gMin2, gIx, seqOf, lsqOf, lstOf, Res.bind, ofO, gAdd_ok, gSub_ok, gEq_int, gNe_int, gLt_int, gLe_int, gGt_int, gGe_int, gEq_bl, gNe_bl, gEq_str, gNe_str, mIsi, mIsiT, tyD, kitL, kitTab, atI_c0, atI_c1, atI_c2, atI_c3, atI_c4, sForR1, int1, int2, mMeth, mMake, mFld, sFldM, gIs, gIsNot, isNon_t, sRaise, gList, newLO, sForT, loopD, turnOf, sDPutM, dctOf, keyD, hdlN, a.eo, ap, lks, lkp, lk1, lk2, lk3, e1, e2, e4, e5, e6, e7, e8, e9, e10, n1, n2, pt, dl]
  · refine ⟨?_, ?_, ?_, ?_, ?_, a.lp, a.sv, a.pos⟩
    · rw [List.getElem?_set_ne (fun z => by have := a.ep; rw [z, a.eo] at this; cases this)]; exact a.eo
    · rw [List.getElem?_set_ne (fun z => by have := a.ep; rw [z, a.es] at this; cases this)]; exact a.es
    · rw [List.getElem?_set_ne (fun z => a.lp z.symm)]; exact a.el
    · rw [List.getElem?_set_self ll]
    · rw [List.getElem?_set_ne (fun z => by have := a.ep; rw [z, a.ev] at this; cases this), a.ev, List.filter_append]
      simp [al]
end
/-! ### a land is built -/
theorem nodup_mid {A B : List Str} {x : Str} (h : (A ++ x :: B).Nodup) : x ∉ A := fun z => by
  rw [List.nodup_append] at h
  exact h.2.2 x z x (by simp) rfl
theorem WOK.nd {w : Wd} (k : WOK w) : (w.st ++ (w.ls.map (·.n) ++ w.ps.map (·.n))).Nodup := by
  obtain ⟨n, _, _, hs⟩ := k.st
  rw [hs, k.ln, k.pn]
  exact (by decide : (STN ++ (LNN ++ PLN)).Nodup).sublist ((List.take_sublist _ _).append ((List.take_sublist _ _).append (List.take_sublist _ _)))
theorem WOK.snm {w : Wd} (k : WOK w) {x : Str} (h : x ∈ w.st) : x ∈ NAMES := by
  obtain ⟨n, _, _, hs⟩ := k.st
  rw [hs] at h
  exact List.mem_append_left _ (List.mem_append_left _ (List.mem_of_mem_take h))
theorem WOK.lnm {w : Wd} (k : WOK w) {x : Ln} (h : x ∈ w.ls) : x.n ∈ NAMES := by
  have : x.n ∈ w.ls.map (·.n) := List.mem_map.mpr ⟨x, h, rfl⟩
  rw [k.ln] at this
  exact List.mem_append_left _ (List.mem_append_right _ (List.mem_of_mem_take this))
theorem WOK.pnm {w : Wd} (k : WOK w) {x : Pl} (h : x ∈ w.ps) : x.n ∈ NAMES := by
  have : x.n ∈ w.ps.map (·.n) := List.mem_map.mpr ⟨x, h, rfl⟩
  rw [k.pn] at this
  exact List.mem_append_right _ (List.mem_of_mem_take this)
theorem kind_non {w : Wd} {nm : Str} (h1 : nm ∉ w.st) (h2 : nm ∉ w.ls.map (·.n)) (h3 : nm ∉ w.ps.map (·.n)) : kindD w nm = .non := by
  unfold kindD
  rw [if_neg h1, if_neg h2, if_neg h3]
theorem drop_get {α : Type} {xs : List α} {i : Nat} {x : α} (h : xs[i]? = some x) : xs.drop i = x :: xs.drop (i + 1) := by
  obtain ⟨hi, rfl⟩ := List.getElem?_eq_some_iff.mp h
  exact List.drop_eq_getElem_cons hi
theorem take_get {α : Type} {xs : List α} {i : Nat} {x : α} (h : xs[i]? = some x) : xs.take (i + 1) = xs.take i ++ [x] := by
  rw [List.take_succ, h]
  rfl
theorem sort_stn {n i : Nat} {x : Str} (h : (STN.take n)[i]? = some x) : sortS ((STN.take n).take i ++ [x]) = (STN.take n).take (i + 1) := by
  rw [take_get h]
  refine (sortS_is (List.Perm.refl _) ?_).symm
  rw [← take_get h, List.take_take]
  have key : ∀ j : Nat, j ≤ 6 → PyProof.Rows.sortedS (STN.take j) = true := by decide
  by_cases c : min (i + 1) n ≤ 6
  · exact key _ c
  · rw [List.take_of_length_le (by show 6 ≤ _; omega)]
    exact key 6 (by decide)
theorem init_ok {O : Store} : f_land_init [.hdl O.length] (O ++ [.ins "Land" []]) = .ok .non (O ++ [landO (O.length + 1) (O.length + 2) (O.length + 3) (O.length + 4), .lst [], .dct [], .dct [], .lst []]) := by
  have p1 : ∀ d : D, putD "_stations" d [] = [(("_stations" : Str), d)] := fun _ => rfl
  have p2 : ∀ d a : D, putD "_lines" d [(("_stations" : Str), a)] = [(("_stations" : Str), a), (("_lines" : Str), d)] := fun _ _ => rfl
  have p3 : ∀ d a b : D, putD "_plants" d [(("_stations" : Str), a), (("_lines" : Str), b)] = [(("_stations" : Str), a), (("_lines" : Str), b), (("_plants" : Str), d)] := fun _ _ _ => rfl
  have p4 : ∀ d a b c : D, putD "_selves" d [(("_stations" : Str), a), (("_lines" : Str), b), (("_plants" : Str), c)] = [(("_stations" : Str), a), (("_lines" : Str), b), (("_plants" : Str), c), (("_selves" : Str), d)] := fun _ _ _ _ => rfl
  simp [f_land_init, b_land_init, mDNew, p1, p2, p3, p4, runF, sSeq, sIf, sNext, sDrop, sRet, sRetN, sAsg, ofRes, ofB, bName, bNil, bCons, bTup, bLst, bSubL, mTest, mOp, mVar, mC, mChain, mAnd, mOr, mNot, mIf, mAndV, mOrV, mNotV, mNeg, mCons, mNil, mTup, mLst, newL, mCall, mFn, arity, g1, g2, gLen, gInt, gAbs, gMax2, gMin2, gIx, seqOf, lsqOf, lstOf, Res.bind, ofO, gAdd_ok, gSub_ok, gEq_int, gNe_int, gLt_int, gLe_int, gGt_int, gGe_int, gEq_bl, gNe_bl, gEq_str, gNe_str, mIsi, mIsiT, tyD, kitL, kitTab, atI_c0, atI_c1, atI_c2, atI_c3, atI_c4, sForR1, int1, int2, mMeth, mMake, mFld, sFldM, gIs, gIsNot, isNon_t, sRaise, gList, newLO]
abbrev bSt : SM := (sDrop (mMeth "Land" "add_station" (arity 2 f_land_add_station) [] (mVar 1) (mCons (mVar 2) mNil)))
abbrev bLn : SM := (sDrop (mMeth "Land" "add_line" (arity 6 f_land_add_line) [] (mVar 1) (mCons (mVar 2) (mCons (mVar 3) (mCons (mVar 4) (mCons (mVar 5) (mCons (mVar 6) mNil)))))))
abbrev bPl : SM := (sIf (mTru (mVar 13)) (sDrop (mMeth "Land" "add_self" (arity 5 f_land_add_self) [] (mVar 1) (mCons (mVar 2) (mCons (mVar 7) (mCons (mVar 8) (mCons (mVar 9) mNil)))))) (sDrop (mMeth "Land" "add_plant" (arity 9 f_land_add_plant) [] (mVar 1) (mCons (mVar 2) (mCons (mVar 7) (mCons (mVar 5) (mCons (mVar 8) (mCons (mVar 9) (mCons (mVar 10) (mCons (mVar 11) (mCons (mVar 12) mNil)))))))))))
abbrev gLn : BM := (bTup 5 (bCons (bName 2) (bCons (bName 3) (bCons (bName 4) (bCons (bName 5) (bCons (bName 6) bNil))))))
abbrev gPl : BM := (bTup 9 (bCons (bName 2) (bCons (bName 7) (bCons (bName 5) (bCons (bName 8) (bCons (bName 9) (bCons (bName 10) (bCons (bName 11) (bCons (bName 12) (bCons (bName 13) bNil))))))))))
theorem build_ok {w : Wd} {O : Store} (k : WOK w) (h0 : 0 < O.length) : ∃ (h s l p v : Nat) (O' : Store), f_law_build [encW w] O = .ok (.hdl h) O' ∧ LandAt h s l p v w O' ∧ Fz O O' ∧ O.length ≤ h ∧ O.length ≤ s ∧ O.length ≤ l ∧ O.length ≤ p ∧ O.length ≤ v := by
  obtain ⟨n, hn⟩ : ∃ n, O.length = n := ⟨_, rfl⟩
  obtain ⟨ns, ns1, ns2, hst⟩ := k.st
  have nd := k.nd
  have hs6 : w.st.length ≤ 6 := by rw [hst, List.length_take]; show min ns 6 ≤ 6; omega
  obtain ⟨OA, hOA⟩ : ∃ OA, O ++ [landO (n + 1) (n + 2) (n + 3) (n + 4), .lst [], .dct [], .dct [], .lst []] = OA := ⟨_, rfl⟩
  have hget : ∀ (i : Nat), OA[n + i]? = [landO (n + 1) (n + 2) (n + 3) (n + 4), Ob.lst [], .dct [], .dct [], .lst []][i]? := fun i => by
    rw [← hOA, List.getElem?_append_right (by omega), hn]
    congr 1
    omega
  have aA : LandAt n (n + 1) (n + 2) (n + 3) (n + 4) ⟨[], [], []⟩ OA := ⟨hget 0, hget 1, hget 2, hget 3, hget 4, by omega, by omega, by omega⟩
  have fA : Fz O OA := hOA ▸ fz_app
  -- the stations
  obtain ⟨L1, O1, e1, s1, y1, hL1, a1, f1, ns1'⟩ := forL_keeps (m := mOp gIx (mVar 0) (mC (.int 0))) (b := bName 2) (body := bSt) (L := [some (encW w), some (.hdl n), none, none, none, none, none, none, none, none, none, none, none, none]) (O := OA) (O1 := OA) (ds := w.st.map .str)
    (I := fun i L O' => ∃ (s : Nat) (y : Option D), L = [some (encW w), some (.hdl n), y, none, none, none, none, none, none, none, none, none, none, none] ∧ LandAt n s (n + 2) (n + 3) (n + 4) ⟨w.st.take i, [], []⟩ O' ∧ Fz O O' ∧ n ≤ s)
    (by simp [runF, sSeq, sIf, sNext, sDrop, sRet, sRetN, sAsg, ofRes, ofB, bName, bNil, bCons, bTup, bLst, bSubL, mTest, mOp, mVar, mC, mChain, mAnd, mOr, mNot, mIf, mAndV, mOrV, mNotV, mNeg, mCons, mNil, mTup, mLst, newL, mCall, mFn, arity, g1, g2, gLen, gInt, gAbs, gMax2, gMin2, gIx, seqOf, lsqOf, lstOf, Res.bind, ofO, gAdd_ok, gSub_ok, gEq_int, gNe_int, gLt_int, gLe_int, gGt_int, gGe_int, gEq_bl, gNe_bl, gEq_str, gNe_str, mIsi, mIsiT, tyD, kitL, kitTab, atI_c0, atI_c1, atI_c2, atI_c3, atI_c4, sForR1, int1, int2, mMeth, mMake, mFld, sFldM, gIs, gIsNot, isNon_t, sRaise, gList, newLO]) ⟨n + 1, none, rfl, by simpa using aA, fA, by omega⟩ fun i d L O' hd ⟨s, y, hL, a, f, _⟩ => by
      subst hL
      rw [List.getElem?_map] at hd
      obtain ⟨x, hx, rfl⟩ := Option.map_eq_some_iff.mp hd
      have hi := (List.getElem?_eq_some_iff.mp hx).1
      have hxm := List.mem_of_getElem? hx
      have hni : x ∉ w.st.take i := nodup_mid (B := w.st.drop (i + 1) ++ (w.ls.map (·.n) ++ w.ps.map (·.n))) (by
        rw [← List.cons_append, ← List.append_assoc, ← drop_get hx, List.take_append_drop]; exact nd)
      obtain ⟨q1, q2⟩ := add_station_ok (st' := w.st.take (i + 1)) a (k.snm hxm) (kind_non hni (by simp) (by simp)) (by show (w.st.take i).length < 60; rw [List.length_take]; omega) (by
        show sortS (w.st.take i ++ [x]) = _
        rw [hst] at hx ⊢
        exact sort_stn hx) (by rw [List.length_take]; omega)
      have lk : List.lookup ("add_station" : Str) [(("_stations" : Str), D.hdl s), (("_lines" : Str), .hdl (n + 2)), (("_plants" : Str), .hdl (n + 3)), (("_selves" : Str), .hdl (n + 4))] = none := rfl
      exact ⟨_, _, by simp [turnOf, bSt, runF, sSeq, sIf, sNext, sDrop, sRet, sRetN, sAsg, ofRes, ofB, bName, bNil, bCons, bTup, bLst, bSubL, mTest, mOp, mVar, mC, mChain, mAnd, mOr, mNot, mIf, mAndV, mOrV, mNotV, mNeg, mCons, mNil, mTup, mLst, newL, mCall, mFn, arity, g1, g2, gLen, gInt, gAbs, gMax2, gMin2, gIx, seqOf, lsqOf, lstOf, Res.bind, ofO, gAdd_ok, gSub_ok, gEq_int, gNe_int, gLt_int, gLe_int, gGt_int, gGe_int, gEq_bl, gNe_bl, gEq_str, gNe_str, mIsi, mIsiT, tyD, kitL, kitTab, atI_c0, atI_c1, atI_c2, atI_c3, atI_c4, sForR1, int1, int2, mMeth, mMake, mFld, sFldM, gIs, gIsNot, isNon_t, sRaise, gList, newLO, a.eo, lk, q1], _, some (.str x), rfl, q2, fz_setNew (f.trans fz_app) (by omega), by rw [← hn]; exact f.1⟩
  rw [List.length_map, List.take_length] at a1
  subst hL1
  -- the lines
  obtain ⟨L2, O2, e2, y2, y3, y4, y5, y6, hL2, a2, f2⟩ := forL_keeps (m := mOp gIx (mVar 0) (mC (.int 1))) (b := gLn) (body := bLn) (L := [some (encW w), some (.hdl n), y1, none, none, none, none, none, none, none, none, none, none, none]) (O := O1) (O1 := O1) (ds := w.ls.map encL)
    (I := fun i L O' => ∃ (y2 y3 y4 y5 y6 : Option D), L = [some (encW w), some (.hdl n), y2, y3, y4, y5, y6, none, none, none, none, none, none, none] ∧ LandAt n s1 (n + 2) (n + 3) (n + 4) ⟨w.st, w.ls.take i, []⟩ O' ∧ Fz O O')
    (by simp [runF, sSeq, sIf, sNext, sDrop, sRet, sRetN, sAsg, ofRes, ofB, bName, bNil, bCons, bTup, bLst, bSubL, mTest, mOp, mVar, mC, mChain, mAnd, mOr, mNot, mIf, mAndV, mOrV, mNotV, mNeg, mCons, mNil, mTup, mLst, newL, mCall, mFn, arity, g1, g2, gLen, gInt, gAbs, gMax2, gMin2, gIx, seqOf, lsqOf, lstOf, Res.bind, ofO, gAdd_ok, gSub_ok, gEq_int, gNe_int, gLt_int, gLe_int, gGt_int, gGe_int, gEq_bl, gNe_bl, gEq_str, gNe_str, mIsi, mIsiT, tyD, kitL, kitTab, atI_c0, atI_c1, atI_c2, atI_c3, atI_c4, sForR1, int1, int2, mMeth, mMake, mFld, sFldM, gIs, gIsNot, isNon_t, sRaise, gList, newLO]) ⟨y1, none, none, none, none, rfl, by simpa using a1, f1⟩ fun i d L O' hd ⟨y2, y3, y4, y5, y6, hL, a, f⟩ => by
      subst hL
      rw [List.getElem?_map] at hd
      obtain ⟨x, hx, rfl⟩ := Option.map_eq_some_iff.mp hd
      have hi := (List.getElem?_eq_some_iff.mp hx).1
      have hxm := List.mem_of_getElem? hx
      have hni : x.n ∉ w.st ++ (w.ls.take i).map (·.n) := nodup_mid (B := (w.ls.drop (i + 1)).map (·.n) ++ w.ps.map (·.n)) (by
        have e : w.ls.map (·.n) = (w.ls.take i).map (·.n) ++ x.n :: (w.ls.drop (i + 1)).map (·.n) := by
          rw [show x.n :: (w.ls.drop (i + 1)).map (·.n) = (x :: w.ls.drop (i + 1)).map (·.n) from rfl, ← drop_get hx, ← List.map_append, List.take_append_drop]
        rw [e] at nd
        simpa using nd)
      have h1 : x.n ∉ w.st := fun z => hni (List.mem_append_left _ z)
      have h2 : x.n ∉ (w.ls.take i).map (·.n) := fun z => hni (List.mem_append_right _ z)
      obtain ⟨q1, q2⟩ := add_line_ok (l1 := x) a (k.lnm hxm) (kind_non h1 h2 (by simp)) (by show (w.ls.take i).length < 60; rw [List.length_take]; have := k.ll; omega) (k.lok x hxm)
      have lk : List.lookup ("add_line" : Str) [(("_stations" : Str), D.hdl s1), (("_lines" : Str), .hdl (n + 2)), (("_plants" : Str), .hdl (n + 3)), (("_selves" : Str), .hdl (n + 4))] = none := rfl
      have f' : Fz O (O'.set (n + 2) (.dct (dicS (·.n) lineD (w.ls.take i ++ [x])))) := fz_setNew f (by omega)
      have q1 : f_land_add_line [.hdl n, .str x.n, .str x.a, .str x.b, .int x.need, .int x.min] O' = .ok .non (O'.set (n + 2) (.dct (dicS (·.n) lineD (w.ls.take i ++ [x])))) := q1
      have q2 : LandAt n s1 (n + 2) (n + 3) (n + 4) ⟨w.st, w.ls.take i ++ [x], []⟩ (O'.set (n + 2) (.dct (dicS (·.n) lineD (w.ls.take i ++ [x])))) := q2
      generalize O'.set (n + 2) (.dct (dicS (·.n) lineD (w.ls.take i ++ [x]))) = O'' at q1 q2 f'
      exact ⟨_, O'', by simp [turnOf, gLn, bLn, runF, sSeq, sIf, sNext, sDrop, sRet, sRetN, sAsg, ofRes, ofB, bName, bNil, bCons, bTup, bLst, bSubL, mTest, mOp, mVar, mC, mChain, mAnd, mOr, mNot, mIf, mAndV, mOrV, mNotV, mNeg, mCons, mNil, mTup, mLst, newL, mCall, mFn, arity, g1, g2, gLen, gInt, gAbs, gMax2, gMin2, gIx, seqOf, lsqOf, lstOf, Res.bind, ofO, gAdd_ok, gSub_ok, gEq_int, gNe_int, gLt_int, gLe_int, gGt_int, gGe_int, gEq_bl, gNe_bl, gEq_str, gNe_str, mIsi, mIsiT, tyD, kitL, kitTab, atI_c0, atI_c1, atI_c2, atI_c3, atI_c4, sForR1, int1, int2, mMeth, mMake, mFld, sFldM, gIs, gIsNot, isNon_t, sRaise, gList, newLO, a.eo, lk, q1], some (.str x.n), some (.str x.a), some (.str x.b), some (.int x.need), some (.int x.min), rfl, by rw [take_get hx]; exact q2, f'⟩
  rw [List.length_map, List.take_length] at a2
  subst hL2
  -- the plants
  obtain ⟨L3, O3, e3, z2, z5, z7, z8, z9, z10, z11, z12, z13, hL3, a3, f3⟩ := forL_keeps (m := mOp gIx (mVar 0) (mC (.int 2))) (b := gPl) (body := bPl) (L := [some (encW w), some (.hdl n), y2, y3, y4, y5, y6, none, none, none, none, none, none, none]) (O := O2) (O1 := O2) (ds := w.ps.map encP)
    (I := fun i L O' => ∃ (z2 z5 z7 z8 z9 z10 z11 z12 z13 : Option D), L = [some (encW w), some (.hdl n), z2, y3, y4, z5, y6, z7, z8, z9, z10, z11, z12, z13] ∧ LandAt n s1 (n + 2) (n + 3) (n + 4) ⟨w.st, w.ls, w.ps.take i⟩ O' ∧ Fz O O')
    (by simp [runF, sSeq, sIf, sNext, sDrop, sRet, sRetN, sAsg, ofRes, ofB, bName, bNil, bCons, bTup, bLst, bSubL, mTest, mOp, mVar, mC, mChain, mAnd, mOr, mNot, mIf, mAndV, mOrV, mNotV, mNeg, mCons, mNil, mTup, mLst, newL, mCall, mFn, arity, g1, g2, gLen, gInt, gAbs, gMax2, gMin2, gIx, seqOf, lsqOf, lstOf, Res.bind, ofO, gAdd_ok, gSub_ok, gEq_int, gNe_int, gLt_int, gLe_int, gGt_int, gGe_int, gEq_bl, gNe_bl, gEq_str, gNe_str, mIsi, mIsiT, tyD, kitL, kitTab, atI_c0, atI_c1, atI_c2, atI_c3, atI_c4, sForR1, int1, int2, mMeth, mMake, mFld, sFldM, gIs, gIsNot, isNon_t, sRaise, gList, newLO]) ⟨_, _, none, none, none, none, none, none, none, rfl, by simpa using a2, f2⟩ fun i d L O' hd ⟨z2, z5, z7, z8, z9, z10, z11, z12, z13, hL, a, f⟩ => by
      subst hL
      rw [List.getElem?_map] at hd
      obtain ⟨x, hx, rfl⟩ := Option.map_eq_some_iff.mp hd
      have hi := (List.getElem?_eq_some_iff.mp hx).1
      have hxm := List.mem_of_getElem? hx
      have hni : x.n ∉ w.st ++ (w.ls.map (·.n) ++ (w.ps.take i).map (·.n)) := nodup_mid (B := (w.ps.drop (i + 1)).map (·.n)) (by
        have e : w.ps.map (·.n) = (w.ps.take i).map (·.n) ++ x.n :: (w.ps.drop (i + 1)).map (·.n) := by
          rw [show x.n :: (w.ps.drop (i + 1)).map (·.n) = (x :: w.ps.drop (i + 1)).map (·.n) from rfl, ← drop_get hx, ← List.map_append, List.take_append_drop]
        rw [e] at nd
        simpa using nd)
      have h1 : x.n ∉ w.st := fun z => hni (List.mem_append_left _ z)
      have h2 : x.n ∉ w.ls.map (·.n) := fun z => hni (List.mem_append_right _ (List.mem_append_left _ z))
      have h3 : x.n ∉ (w.ps.take i).map (·.n) := fun z => hni (List.mem_append_right _ (List.mem_append_right _ z))
      have fin : ∀ (O'' : Store), O''.length = O'.length → (∀ i, i ≠ n + 3 → i ≠ n + 4 → O''[i]? = O'[i]?) → Fz O O'' := fun O'' hl hq => ⟨by rw [hl]; exact f.1, fun i hi => (hq i (by omega) (by omega)).trans (f.2 i hi)⟩
      have hlen : (w.ps.take i).length < 60 := by rw [List.length_take]; have := k.pl; omega
      cases ha : x.alone
      · obtain ⟨O'', q1, q2, q3, q4⟩ := add_plant_ok (p1 := x) a (k.pnm hxm) (kind_non h1 h2 h3) hlen (k.pok x hxm) ha
        have lk : List.lookup ("add_plant" : Str) [(("_stations" : Str), D.hdl s1), (("_lines" : Str), .hdl (n + 2)), (("_plants" : Str), .hdl (n + 3)), (("_selves" : Str), .hdl (n + 4))] = none := rfl
        exact ⟨_, O'', by simp [turnOf, gPl, bPl, mTru, truD, runF, sSeq, sIf, sNext, sDrop, sRet, sRetN, sAsg, ofRes, ofB, bName, bNil, bCons, bTup, bLst, bSubL, mTest, mOp, mVar, mC, mChain, mAnd, mOr, mNot, mIf, mAndV, mOrV, mNotV, mNeg, mCons, mNil, mTup, mLst, newL, mCall, mFn, arity, g1, g2, gLen, gInt, gAbs, gMax2, gMin2, gIx, seqOf, lsqOf, lstOf, Res.bind, ofO, gAdd_ok, gSub_ok, gEq_int, gNe_int, gLt_int, gLe_int, gGt_int, gGe_int, gEq_bl, gNe_bl, gEq_str, gNe_str, mIsi, mIsiT, tyD, kitL, kitTab, atI_c0, atI_c1, atI_c2, atI_c3, atI_c4, sForR1, int1, int2, mMeth, mMake, mFld, sFldM, gIs, gIsNot, isNon_t, sRaise, gList, newLO, a.eo, lk, ha, q1], some (.str x.n), some (.int x.need), some (.str x.s), some (.int x.gives), some (.int x.quick), some (.int x.hot), some (.int x.cool), some (.int x.slow), some (.bl x.alone), rfl, by rw [take_get hx]; exact q2, fin O'' q3 q4⟩
      · obtain ⟨O'', q1, q2, q3, q4⟩ := add_self_ok (p1 := x) a (k.pnm hxm) (kind_non h1 h2 h3) hlen (k.pok x hxm) ha
        have lk : List.lookup ("add_self" : Str) [(("_stations" : Str), D.hdl s1), (("_lines" : Str), .hdl (n + 2)), (("_plants" : Str), .hdl (n + 3)), (("_selves" : Str), .hdl (n + 4))] = none := rfl
        exact ⟨_, O'', by simp [turnOf, gPl, bPl, mTru, truD, runF, sSeq, sIf, sNext, sDrop, sRet, sRetN, sAsg, ofRes, ofB, bName, bNil, bCons, bTup, bLst, bSubL, mTest, mOp, mVar, mC, mChain, mAnd, mOr, mNot, mIf, mAndV, mOrV, mNotV, mNeg, mCons, mNil, mTup, mLst, newL, mCall, mFn, arity, g1, g2, gLen, gInt, gAbs, gMax2, gMin2, gIx, seqOf, lsqOf, lstOf, Res.bind, ofO, gAdd_ok, gSub_ok, gEq_int, gNe_int, gLt_int, gLe_int, gGt_int, gGe_int, gEq_bl, gNe_bl, gEq_str, gNe_str, mIsi, mIsiT, tyD, kitL, kitTab, atI_c0, atI_c1, atI_c2, atI_c3, atI_c4, sForR1, int1, int2, mMeth, mMake, mFld, sFldM, gIs, gIsNot, isNon_t, sRaise, gList, newLO, a.eo, lk, ha, q1], some (.str x.n), some (.int x.need), some (.str x.s), some (.int x.gives), some (.int x.quick), some (.int x.hot), some (.int x.cool), some (.int x.slow), some (.bl x.alone), rfl, by rw [take_get hx]; exact q2, fin O'' q3 q4⟩
  rw [List.length_map, List.take_length] at a3
  subst hL3
  refine ⟨n, s1, n + 2, n + 3, n + 4, O3, ?_, a3, f3, by omega, by omega, by omega, by omega, by omega⟩
  have eI := init_ok (O := O)
  rw [hn, hOA] at eI
  simp only [f_law_build, b_law_build]
  generalize sForL (mOp gIx (mVar 0) (mC (.int 0))) (bName 2) bSt = sA at e1 ⊢
  generalize sForL (mOp gIx (mVar 0) (mC (.int 1))) gLn bLn = sB at e2 ⊢
  generalize sForL (mOp gIx (mVar 0) (mC (.int 2))) gPl bPl = sC at e3 ⊢
  simp [runF, sSeq, sIf, sNext, sDrop, sRet, sRetN, sAsg, ofRes, ofB, bName, bNil, bCons, bTup, bLst, bSubL, mTest, mOp, mVar, mC, mChain, mAnd, mOr, mNot, mIf, mAndV, mOrV, mNotV, mNeg, mCons, mNil, mTup, mLst, newL, mCall, mFn, arity, g1, g2, gLen, gInt, gAbs, gMax2, gMin2, gIx, seqOf, lsqOf, lstOf, Res.bind, ofO, gAdd_ok, gSub_ok, gEq_int, gNe_int, gLt_int, gLe_int, gGt_int, gGe_int, gEq_bl, gNe_bl, gEq_str, gNe_str, mIsi, mIsiT, tyD, kitL, kitTab, atI_c0, atI_c1, atI_c2, atI_c3, atI_c4, sForR1, int1, int2, mMeth, mMake, mFld, sFldM, gIs, gIsNot, isNon_t, sRaise, gList, newLO, hn, eI, e1, e2, e3]
end DK.W
end
section
set_option Elab.async false
set_option linter.all false
set_option autoImplicit false
set_option maxRecDepth 100000
set_option maxHeartbeats 4000000
/-! DKConn: what hangs together, in plain Lean. -/
namespace DK.W
open PySem L2 DK
/-- a hangs together with b by the edges -/
inductive Conn (E : List (Str × Str)) : Str → Str → Prop where
  | refl (a : Str) : Conn E a a
  | fw {a b c : Str} : (a, b) ∈ E → Conn E b c → Conn E a c
  | bw {a b c : Str} : (b, a) ∈ E → Conn E b c → Conn E a c
theorem Conn.trans {E : List (Str × Str)} {a b c : Str} (h : Conn E a b) (k : Conn E b c) : Conn E a c := by
  induction h with
  | refl a => exact k
  | fw e _ ih => exact .fw e (ih k)
  | bw e _ ih => exact .bw e (ih k)
theorem Conn.symm {E : List (Str × Str)} {a b : Str} (h : Conn E a b) : Conn E b a := by
  induction h with
  | refl a => exact .refl a
  | fw e _ ih => exact ih.trans (.bw e (.refl _))
  | bw e _ ih => exact ih.trans (.fw e (.refl _))
theorem Conn.mono {E E' : List (Str × Str)} (hs : ∀ e ∈ E, e ∈ E') {a b : Str} (h : Conn E a b) : Conn E' a b := by
  induction h with
  | refl a => exact .refl a
  | fw e _ ih => exact .fw (hs _ e) ih
  | bw e _ ih => exact .bw (hs _ e) ih
theorem Conn.edge {E : List (Str × Str)} {a b : Str} (h : (a, b) ∈ E) : Conn E a b := .fw h (.refl b)
/-- what is equal at both ends of every edge is equal where it hangs together -/
theorem Conn.keeps {E : List (Str × Str)} {α : Type} {f : Str → α} (h : ∀ a b, (a, b) ∈ E → f a = f b) {a b : Str} (c : Conn E a b) : f a = f b := by
  induction c with
  | refl a => rfl
  | fw e _ ih => exact (h _ _ e).trans ih
  | bw e _ ih => exact (h _ _ e).symm.trans ih
theorem Conn.nil {a b : Str} (h : Conn [] a b) : a = b := by
  cases h with
  | refl a => rfl
  | fw e _ => cases e
  | bw e _ => cases e
/-- f tells what hangs together -/
def Tells (E : List (Str × Str)) (f : Str → Str) : Prop := ∀ x y, f x = f y ↔ Conn E x y
theorem tells_nil : Tells [] id := fun x y => ⟨fun h => by cases h; exact .refl _, fun h => h.nil⟩
/-- the roots are renamed -/
theorem tells_step {E : List (Str × Str)} {f : Str → Str} {a b : Str} (t : Tells E f) : Tells (E ++ [(a, b)]) (fun x => if f x = f a then f b else f x) := fun x y => by
  have up : ∀ {x y}, Conn E x y → Conn (E ++ [(a, b)]) x y := fun h => h.mono fun e he => List.mem_append_left _ he
  have ab : Conn (E ++ [(a, b)]) a b := .edge (by simp)
  constructor
  · intro h
    simp only at h
    by_cases cx : f x = f a <;> by_cases cy : f y = f a
    · exact up ((t x y).mp (cx.trans cy.symm))
    · rw [if_pos cx, if_neg cy] at h
      exact (up ((t x a).mp cx)).trans (ab.trans (up ((t b y).mp h)))
    · rw [if_neg cx, if_pos cy] at h
      exact (up ((t x b).mp h)).trans (ab.symm.trans (up ((t a y).mp cy.symm)))
    · rw [if_neg cx, if_neg cy] at h
      exact up ((t x y).mp h)
  · intro h
    refine Conn.keeps (f := fun x => if f x = f a then f b else f x) (fun c d hcd => ?_) h
    rcases List.mem_append.mp hcd with hcd | hcd
    · have := (t c d).mpr (.edge hcd)
      simp only [this]
    · simp at hcd
      obtain ⟨rfl, rfl⟩ := hcd
      simp
/-- the marks of the walk: R is what is marked, and with what; closed but for what waits -/
structure Marks (E : List (Str × Str)) (lit : List Str) (i : Nat) (wait : List Str) (R : Str → Option Str) : Prop where
  dom : ∀ x f, R x = some f → x ∈ lit
  conn : ∀ x f, R x = some f → Conn E x f
  closed : ∀ x f, R x = some f → x ∉ wait → ∀ y, ((x, y) ∈ E ∨ (y, x) ∈ E) → R y = some f
  past : ∀ j x, j < i → lit[j]? = some x → ∃ j' x', j' ≤ j ∧ lit[j']? = some x' ∧ R x = some x'
theorem Marks.start {E : List (Str × Str)} {lit : List Str} : Marks E lit 0 [] fun _ => none := ⟨fun _ _ h => by (cases h), fun _ _ h => by (cases h), fun _ _ h => by (cases h), fun j x h => by omega⟩
/-- the next one is there already -/
theorem Marks.skip {E : List (Str × Str)} {lit : List Str} {i : Nat} {R : Str → Option Str} {x f : Str} (m : Marks E lit i [] R) (hx : lit[i]? = some x) (h : R x = some f) (hf : ∃ j' , j' ≤ i ∧ lit[j']? = some f) : Marks E lit (i + 1) [] R :=
  ⟨m.dom, m.conn, m.closed, fun j y hj hy => by
    rcases Nat.lt_or_ge j i with c | c
    · exact m.past j y c hy
    · obtain rfl : j = i := by omega
      rw [hx] at hy
      cases hy
      obtain ⟨j', h1, h2⟩ := hf
      exact ⟨j', f, h1, h2, h⟩⟩
/-- the roots are among those that were gone through -/
def Roots (lit : List Str) (i : Nat) (R : Str → Option Str) : Prop := ∀ x f, R x = some f → ∃ j, j < i ∧ lit[j]? = some f
/-- the walk from `first`: all that waits bears it -/
structure Walk (E : List (Str × Str)) (lit : List Str) (i : Nat) (first : Str) (wait : List Str) (R : Str → Option Str) : Prop where
  m : Marks E lit (i + 1) wait R
  w : ∀ x ∈ wait, R x = some first
  r : Roots lit (i + 1) R
theorem Walk.begin {E : List (Str × Str)} {lit : List Str} {i : Nat} {R : Str → Option Str} {x : Str} (sy : ∀ a b, (a, b) ∈ E → a ∈ lit ∧ b ∈ lit) (m : Marks E lit i [] R) (r : Roots lit i R) (hx : lit[i]? = some x) (h : R x = none) : Walk E lit i x [x] (fun y => if y = x then some x else R y) where
  m := ⟨fun y f e => by
      by_cases c : y = x
      · subst c; exact List.mem_of_getElem? hx
      · simp only [if_neg c] at e; exact m.dom y f e,
    fun y f e => by
      by_cases c : y = x
      · subst c; simp only [if_pos rfl] at e; cases e; exact .refl _
      · simp only [if_neg c] at e; exact m.conn y f e,
    fun y f e hw z hz => by
      have c : ¬ y = x := fun c => hw (by simp [c])
      simp only [if_neg c] at e
      have := m.closed y f e (by simp) z hz
      by_cases c2 : z = x
      · subst c2; rw [h] at this; cases this
      · simp only [if_neg c2]; exact this,
    fun j y hj hy => by
      by_cases c : y = x
      · subst c
        rcases Nat.lt_or_ge j i with c2 | c2
        · obtain ⟨_, _, _, _, e⟩ := m.past j y c2 hy
          rw [h] at e; cases e
        · obtain rfl : j = i := by omega
          exact ⟨j, y, Nat.le_refl _, hx, by simp⟩
      · rcases Nat.lt_or_ge j i with c2 | c2
        · obtain ⟨j', x', h1, h2, e⟩ := m.past j y c2 hy
          exact ⟨j', x', h1, h2, by simp only [if_neg c]; exact e⟩
        · obtain rfl : j = i := by omega
          rw [hx] at hy; cases hy; exact absurd rfl c⟩
  w := fun y hy => by rw [List.mem_singleton.mp hy]; simp
  r := fun y f e => by
    by_cases c : y = x
    · subst c; simp only [if_pos rfl] at e; cases e; exact ⟨i, by omega, hx⟩
    · simp only [if_neg c] at e
      obtain ⟨j, h1, h2⟩ := r y f e
      exact ⟨j, by omega, h2⟩
/-- one, taken off, is gone through: its neighbours todo are still to be looked at -/
structure Look (E : List (Str × Str)) (lit : List Str) (i : Nat) (first x : Str) (todo : List Str) (wait : List Str) (R : Str → Option Str) : Prop where
  m : Marks E lit (i + 1) (x :: wait) R
  w : ∀ y ∈ wait, R y = some first
  rx : R x = some first
  r : Roots lit (i + 1) R
  done : ∀ y, ((x, y) ∈ E ∨ (y, x) ∈ E) → y ∉ todo → R y = some first
theorem Walk.pop {E : List (Str × Str)} {lit : List Str} {i : Nat} {R : Str → Option Str} {first x : Str} {wait todo : List Str} (k : Walk E lit i first (wait ++ [x]) R) (ht : ∀ y, ((x, y) ∈ E ∨ (y, x) ∈ E) → y ∈ todo) : Look E lit i first x todo wait R where
  m := ⟨k.m.dom, k.m.conn, fun y f e hw => k.m.closed y f e fun z => hw (by
    rcases List.mem_append.mp z with z | z
    · exact List.mem_cons_of_mem _ z
    · rw [List.mem_singleton.mp z]; exact List.mem_cons_self), k.m.past⟩
  w := fun y hy => k.w y (List.mem_append_left _ hy)
  rx := k.w x (by simp)
  r := k.r
  done := fun y hy hn => absurd (ht y hy) hn
theorem Look.skip {E : List (Str × Str)} {lit : List Str} {i : Nat} {R : Str → Option Str} {first x y f : Str} {wait todo : List Str} (k : Look E lit i first x (y :: todo) wait R) (hy : (x, y) ∈ E ∨ (y, x) ∈ E) (h : R y = some f) : Look E lit i first x todo wait R where
  m := k.m
  w := k.w
  rx := k.rx
  r := k.r
  done := fun z hz hn => by
    by_cases c : z = y
    · subst c
      by_cases c2 : z ∈ x :: wait
      · rcases List.mem_cons.mp c2 with c2 | c2
        · rw [c2]; exact k.rx
        · exact k.w z c2
      · have := k.m.closed z f h c2 x (hz.symm)
        rw [k.rx] at this
        cases this
        exact h
    · exact k.done z hz fun q => by
        rcases List.mem_cons.mp q with q | q
        · exact c q
        · exact hn q
theorem Look.add {E : List (Str × Str)} {lit : List Str} {i : Nat} {R : Str → Option Str} {first x y : Str} {wait todo : List Str} (sy : ∀ a b, (a, b) ∈ E → a ∈ lit ∧ b ∈ lit) (k : Look E lit i first x (y :: todo) wait R) (hy : (x, y) ∈ E ∨ (y, x) ∈ E) (h : R y = none) : Look E lit i first x todo (wait ++ [y]) (fun z => if z = y then some first else R z) := by
  have xy : ¬ x = y := fun z => by
    have := k.rx
    rw [z, h] at this
    cases this
  have cx : Conn E y first := (show Conn E y x by
    rcases hy with hy | hy
    · exact .bw hy (.refl _)
    · exact .edge hy).trans (k.m.conn _ _ k.rx)
  refine ⟨⟨fun z f e => ?_, fun z f e => ?_, fun z f e hw q hq => ?_, fun j z hj hz => ?_⟩, fun z hz => ?_, by simp only [if_neg xy]; exact k.rx, fun z f e => ?_, fun z hz hn => ?_⟩
  · by_cases c : z = y
    · subst c
      rcases hy with hy | hy
      · exact (sy _ _ hy).2
      · exact (sy _ _ hy).1
    · simp only [if_neg c] at e; exact k.m.dom z f e
  · by_cases c : z = y
    · subst c; simp only [if_pos rfl] at e; cases e; exact cx
    · simp only [if_neg c] at e; exact k.m.conn z f e
  · have c : ¬ z = y := fun c => hw (by simp [c])
    simp only [if_neg c] at e
    have := k.m.closed z f e (fun q => hw (by
      rcases List.mem_cons.mp q with q | q
      · simp [q]
      · simp [q])) q hq
    by_cases c2 : q = y
    · subst c2; rw [h] at this; cases this
    · simp only [if_neg c2]; exact this
  · obtain ⟨j', x', h1, h2, e⟩ := k.m.past j z hj hz
    refine ⟨j', x', h1, h2, ?_⟩
    have c : ¬ z = y := fun c => by rw [c, h] at e; cases e
    simp only [if_neg c]; exact e
  · by_cases c : z = y
    · simp only [if_pos c]
    · simp only [if_neg c]
      rcases List.mem_append.mp hz with hz | hz
      · exact k.w z hz
      · exact absurd (List.mem_singleton.mp hz) c
  · by_cases c : z = y
    · subst c; simp only [if_pos rfl] at e; cases e; exact k.r x first k.rx
    · simp only [if_neg c] at e; exact k.r z f e
  · by_cases c : z = y
    · simp only [if_pos c]
    · simp only [if_neg c]
      exact k.done z hz fun q => by
        rcases List.mem_cons.mp q with q | q
        · exact c q
        · exact hn q
theorem Look.fin {E : List (Str × Str)} {lit : List Str} {i : Nat} {R : Str → Option Str} {first x : Str} {wait : List Str} (k : Look E lit i first x [] wait R) : Walk E lit i first wait R where
  m := ⟨k.m.dom, k.m.conn, fun y f e hw z hz => by
    by_cases c : y = x
    · subst c
      rw [k.rx] at e
      cases e
      exact k.done z hz (by simp)
    · exact k.m.closed y f e (fun q => by
        rcases List.mem_cons.mp q with q | q
        · exact c q
        · exact hw q) z hz, k.m.past⟩
  w := k.w
  r := k.r
/-- at the end -/
theorem Marks.all {E : List (Str × Str)} {lit : List Str} {R : Str → Option Str} (m : Marks E lit lit.length [] R) : (∀ x, x ∈ lit → ∃ f, R x = some f) ∧ (∀ x y, x ∈ lit → y ∈ lit → (R x = R y ↔ Conn E x y)) := by
  have h1 : ∀ x, x ∈ lit → ∃ f, R x = some f := fun x hx => by
    obtain ⟨j, hj, e⟩ := List.getElem_of_mem hx
    obtain ⟨_, f, _, _, h⟩ := m.past j x hj (by rw [List.getElem?_eq_getElem hj, e])
    exact ⟨f, h⟩
  refine ⟨h1, fun x y hx hy => ⟨fun e => ?_, fun c => ?_⟩⟩
  · obtain ⟨f, hf⟩ := h1 x hx
    exact (m.conn x f hf).trans (m.conn y f (e ▸ hf)).symm
  · obtain ⟨f, hf⟩ := h1 x hx
    have key : ∀ {a b}, Conn E a b → R a = some f → R b = some f := fun {a b} c => by
      induction c with
      | refl a => exact id
      | fw e _ ih => exact fun h => ih (m.closed _ f h (by simp) _ (.inl e))
      | bw e _ ih => exact fun h => ih (m.closed _ f h (by simp) _ (.inr e))
    rw [hf, key c hf]
end DK.W
end
section
set_option Elab.async false
set_option linter.all false
set_option autoImplicit false
set_option maxRecDepth 100000
set_option maxHeartbeats 4000000
/-! DKMoment: what a land tells; moments, in plain Lean. -/
namespace DK.W
open PySem L2 DK
/-! ### dicts -/
theorem any_val {kvs : List (Key × D)} {k : Key} : (kvs.any fun kv => decide (kv.1 = k)) = (valD kvs k).isSome := by
  unfold valD
  rw [Option.isSome_map, Bool.eq_iff_iff, List.find?_isSome, List.any_eq_true]
theorem find_map_ne {k k' : Key} {d : D} (h : k' ≠ k) : ∀ (kvs : List (Key × D)), (kvs.map fun kv => if kv.1 = k then (kv.1, d) else kv).find? (fun kv => decide (kv.1 = k')) = kvs.find? (fun kv => decide (kv.1 = k'))
  | [] => rfl
  | kv :: kvs => by
    rw [List.map_cons, List.find?_cons, List.find?_cons, find_map_ne h kvs]
    by_cases c : kv.1 = k
    · have c2 : ¬ kv.1 = k' := fun z => h (z.symm.trans c)
      simp [c, Ne.symm h]
    · simp [c]
theorem find_map_eq {k : Key} {d : D} : ∀ (kvs : List (Key × D)), (kvs.any fun kv => decide (kv.1 = k)) = true → ((kvs.map fun kv => if kv.1 = k then (kv.1, d) else kv).find? (fun kv => decide (kv.1 = k))).map (·.2) = some d
  | [], h => by simp at h
  | kv :: kvs, h => by
    rw [List.map_cons, List.find?_cons]
    by_cases c : kv.1 = k
    · simp [c]
    · simp [c]
      have := find_map_eq (d := d) kvs (by simpa [c] using h)
      simpa using this
theorem val_put {kvs : List (Key × D)} {k k' : Key} {d : D} : valD (putKD kvs k d) k' = if k' = k then some d else valD kvs k' := by
  unfold putKD
  split
  · rename_i h
    by_cases c : k' = k
    · subst c
      rw [if_pos rfl]
      exact find_map_eq kvs h
    · rw [if_neg c]
      unfold valD
      rw [find_map_ne c]
  · rename_i h
    have hn : valD kvs k = none := by
      rw [any_val] at h
      cases e : valD kvs k with
      | none => rfl
      | some x => rw [e] at h; simp at h
    unfold valD at hn ⊢
    rw [List.find?_append]
    by_cases c : k' = k
    · subst c
      rw [if_pos rfl]
      have : kvs.find? (fun kv => decide (kv.1 = k')) = none := Option.map_eq_none_iff.mp hn
      rw [this]
      simp
    · rw [if_neg c]
      have : ¬ k = k' := fun z => c z.symm
      simp [this]
theorem put_len {kvs : List (Key × D)} {k : Key} {d : D} : (putKD kvs k d).length ≤ kvs.length + 1 := by
  unfold putKD
  split
  · rw [List.length_map]; omega
  · rw [List.length_append, List.length_singleton]; omega
theorem inr_eq {x y : Str} : (Sum.inr x : Key) = Sum.inr y ↔ x = y := ⟨fun h => Sum.inr.inj h, fun h => by rw [h]⟩
/-! ### the land tells -/
structure Srt (w : Wd) : Prop where
  ln : sortS (w.ls.map (·.n)) = w.ls.map (·.n)
  pn : sortS (w.ps.map (·.n)) = w.ps.map (·.n)
  lnd : (w.ls.map (·.n)).Nodup
  pnd : (w.ps.map (·.n)).Nodup
  snd : w.st.Nodup
  l8 : w.ls.length < 60
  p8 : w.ps.length < 60
  s8 : w.st.length < 60
  ls : ∀ l ∈ w.ls, l.n ∉ w.st
  ps : ∀ p ∈ w.ps, p.n ∉ w.st
  lp : ∀ l ∈ w.ls, l.n ∉ w.ps.map (·.n)
  lok : ∀ l ∈ w.ls, LnOK w.st l
  pok : ∀ p ∈ w.ps, PlOK w.st p
theorem sort_take {xs : List Str} (n : Nat) (h : ∀ j, j ≤ xs.length → PyProof.Rows.sortedS (xs.take j) = true) : sortS (xs.take n) = xs.take n := by
  refine (sortS_is (List.Perm.refl _) ?_).symm
  by_cases c : n ≤ xs.length
  · exact h n c
  · have := h xs.length (Nat.le_refl _)
    rw [List.take_length] at this
    rw [List.take_of_length_le (by omega)]
    exact this
theorem WOK.srt {w : Wd} (k : WOK w) : Srt w := by
  have nd := k.nd
  rw [List.nodup_append, List.nodup_append] at nd
  obtain ⟨n, n1, n2, hs⟩ := k.st
  have hl := k.ll
  have hp := k.pl
  refine ⟨?_, ?_, nd.2.1.1, nd.2.1.2.1, nd.1, by omega, by omega, by rw [hs, List.length_take]; show min n 6 < 60; omega, fun l hl z => ?_, fun p hp z => ?_, fun l hl z => ?_, k.lok, k.pok⟩
  · rw [k.ln]
    exact sort_take _ (by decide)
  · rw [k.pn]
    exact sort_take _ (by decide)
  · exact nd.2.2 _ z _ (List.mem_append_left _ (List.mem_map.mpr ⟨l, hl, rfl⟩)) rfl
  · exact nd.2.2 _ z _ (List.mem_append_right _ (List.mem_map.mpr ⟨p, hp, rfl⟩)) rfl
  · exact nd.2.1.2.2 _ (List.mem_map.mpr ⟨l, hl, rfl⟩) _ z rfl
theorem find_nm {α : Type} {n : α → Str} {x : α} : ∀ {xs : List α}, (xs.map n).Nodup → x ∈ xs → xs.find? (fun y => decide (n y = n x)) = some x
  | [], _, h => by cases h
  | y :: ys, nd, h => by
    rw [List.map_cons, List.nodup_cons] at nd
    rw [List.find?_cons]
    rcases List.mem_cons.mp h with h | h
    · subst h; simp
    · have : ¬ n y = n x := fun z => nd.1 (by rw [z]; exact List.mem_map.mpr ⟨x, h, rfl⟩)
      simp only [this, decide_false]
      exact find_nm nd.2 h
theorem val_nm {α : Type} {n : α → Str} {g : α → D} {x : α} {xs : List α} (nd : (xs.map n).Nodup) (h : x ∈ xs) : valD (dicS n g xs) (.inr (n x)) = some (g x) := by
  rw [val_dicS, find_nm nd h]
  rfl
theorem val_no {α : Type} {n : α → Str} {g : α → D} {nm : Str} {xs : List α} (h : nm ∉ xs.map n) : valD (dicS n g xs) (.inr nm) = none := by
  have := has_dicS (n := n) (g := g) (nm := nm) (xs := xs)
  rw [decide_eq_false h] at this
  cases e : valD (dicS n g xs) (.inr nm) with
  | none => rfl
  | some d => rw [e] at this; cases this
section
variable {h s l p v : Nat} {w : Wd} {O : Store} {nm : Str}
theorem stations_ok (a : LandAt h s l p v w O) (k : Srt w) : f_land_stations [.hdl h] O = .ok (.lst (w.st.map .str)) O := by
  have : w.st.length ≤ 1000000 := by have := k.s8; omega
  simp [f_land_stations, b_land_stations, runF, sSeq, sIf, sNext, sDrop, sRet, sRetN, sAsg, ofRes, ofB, bName, bNil, bCons, bTup, bLst, bSubL, mTest, mOp, mVar, mC, mChain, mAnd, mOr, mNot, mIf, mAndV, mOrV, mNotV, mNeg, mCons, mNil, mTup, mLst, newL, mCall, mFn, arity, g1, g2, gLen, gInt, gAbs, gMax2, gMin2, gIx, seqOf, lsqOf, lstOf, Res.bind, ofO, gAdd_ok, gSub_ok, gEq_int, gNe_int, gLt_int, gLe_int, gGt_int, gGe_int, gEq_bl, gNe_bl, gEq_str, gNe_str, mIsi, mIsiT, tyD, kitL, kitTab, atI_c0, atI_c1, atI_c2, atI_c3, atI_c4, sForR1, int1, int2, mMeth, mMake, mFld, sFldM, gIs, gIsNot, isNon_t, sRaise, gList, newLO, a.eo, a.es, lks, this]
theorem inrs_dic {α : Type} {n : α → Str} {g : α → D} : ∀ {xs : List α}, inrs ((dicS n g xs).map (·.1)) = some (xs.map n)
  | [] => rfl
  | x :: xs => by
    show (inrs ((dicS n g xs).map (·.1))).map (n x :: ·) = _
    rw [inrs_dic]
    rfl
theorem lines_ok (a : LandAt h s l p v w O) (k : Srt w) : f_land_lines [.hdl h] O = .ok (.lst ((w.ls.map (·.n)).map .str)) O := by
  have e : gSorted false O (.hdl l) = some (.lst ((w.ls.map (·.n)).map .str), O) := by
    unfold gSorted
    simp only [dctOf, a.el, inrs_dic]
    rw [if_pos (by rw [List.length_map]; have := k.l8; omega), k.ln]
    simp [newLO]
    have := k.l8; omega
  generalize (w.ls.map (·.n)).map D.str = z at *
  simp [f_land_lines, b_land_lines, runF, sSeq, sIf, sNext, sDrop, sRet, sRetN, sAsg, ofRes, ofB, bName, bNil, bCons, bTup, bLst, bSubL, mTest, mOp, mVar, mC, mChain, mAnd, mOr, mNot, mIf, mAndV, mOrV, mNotV, mNeg, mCons, mNil, mTup, mLst, newL, mCall, mFn, arity, g1, g2, gLen, gInt, gAbs, gMax2, gMin2, gIx, seqOf, lsqOf, lstOf, Res.bind, ofO, gAdd_ok, gSub_ok, gEq_int, gNe_int, gLt_int, gLe_int, gGt_int, gGe_int, gEq_bl, gNe_bl, gEq_str, gNe_str, mIsi, mIsiT, tyD, kitL, kitTab, atI_c0, atI_c1, atI_c2, atI_c3, atI_c4, sForR1, int1, int2, mMeth, mMake, mFld, sFldM, gIs, gIsNot, isNon_t, sRaise, gList, newLO, a.eo, lkl, e]
theorem plants_ok (a : LandAt h s l p v w O) (k : Srt w) : f_land_plants [.hdl h] O = .ok (.lst ((w.ps.map (·.n)).map .str)) O := by
  have e : gSorted false O (.hdl p) = some (.lst ((w.ps.map (·.n)).map .str), O) := by
    unfold gSorted
    simp only [dctOf, a.ep, inrs_dic]
    rw [if_pos (by rw [List.length_map]; have := k.p8; omega), k.pn]
    simp [newLO]
    have := k.p8; omega
  generalize (w.ps.map (·.n)).map D.str = z at *
  simp [f_land_plants, b_land_plants, runF, sSeq, sIf, sNext, sDrop, sRet, sRetN, sAsg, ofRes, ofB, bName, bNil, bCons, bTup, bLst, bSubL, mTest, mOp, mVar, mC, mChain, mAnd, mOr, mNot, mIf, mAndV, mOrV, mNotV, mNeg, mCons, mNil, mTup, mLst, newL, mCall, mFn, arity, g1, g2, gLen, gInt, gAbs, gMax2, gMin2, gIx, seqOf, lsqOf, lstOf, Res.bind, ofO, gAdd_ok, gSub_ok, gEq_int, gNe_int, gLt_int, gLe_int, gGt_int, gGe_int, gEq_bl, gNe_bl, gEq_str, gNe_str, mIsi, mIsiT, tyD, kitL, kitTab, atI_c0, atI_c1, atI_c2, atI_c3, atI_c4, sForR1, int1, int2, mMeth, mMake, mFld, sFldM, gIs, gIsNot, isNon_t, sRaise, gList, newLO, a.eo, lkp, e]
theorem line_is (a : LandAt h s l p v w O) (k : Srt w) {x : Ln} (hx : x ∈ w.ls) : f_land_line [.hdl h, .str x.n] O = .ok (lineD x) O := by
  have e := val_nm (n := Ln.n) (g := lineD) k.lnd hx
  have al := a.el
  generalize dicS Ln.n lineD w.ls = z at *
  simp [f_land_line, b_land_line, mDIn, mDGet, dctOf, keyD, runF, sSeq, sIf, sNext, sDrop, sRet, sRetN, sAsg, ofRes, ofB, bName, bNil, bCons, bTup, bLst, bSubL, mTest, mOp, mVar, mC, mChain, mAnd, mOr, mNot, mIf, mAndV, mOrV, mNotV, mNeg, mCons, mNil, mTup, mLst, newL, mCall, mFn, arity, g1, g2, gLen, gInt, gAbs, gMax2, gMin2, gIx, seqOf, lsqOf, lstOf, Res.bind, ofO, gAdd_ok, gSub_ok, gEq_int, gNe_int, gLt_int, gLe_int, gGt_int, gGe_int, gEq_bl, gNe_bl, gEq_str, gNe_str, mIsi, mIsiT, tyD, kitL, kitTab, atI_c0, atI_c1, atI_c2, atI_c3, atI_c4, sForR1, int1, int2, mMeth, mMake, mFld, sFldM, gIs, gIsNot, isNon_t, sRaise, gList, newLO, a.eo, al, lkl, e]
theorem line_no (a : LandAt h s l p v w O) (hx : nm ∉ w.ls.map (·.n)) : f_land_line [.hdl h, .str nm] O = .exc ⟨"UnknownName", none⟩ O := by
  have e := val_no (n := Ln.n) (g := lineD) hx
  have al := a.el
  generalize dicS Ln.n lineD w.ls = z at *
  simp [f_land_line, b_land_line, mDIn, mDGet, dctOf, keyD, runF, sSeq, sIf, sNext, sDrop, sRet, sRetN, sAsg, ofRes, ofB, bName, bNil, bCons, bTup, bLst, bSubL, mTest, mOp, mVar, mC, mChain, mAnd, mOr, mNot, mIf, mAndV, mOrV, mNotV, mNeg, mCons, mNil, mTup, mLst, newL, mCall, mFn, arity, g1, g2, gLen, gInt, gAbs, gMax2, gMin2, gIx, seqOf, lsqOf, lstOf, Res.bind, ofO, gAdd_ok, gSub_ok, gEq_int, gNe_int, gLt_int, gLe_int, gGt_int, gGe_int, gEq_bl, gNe_bl, gEq_str, gNe_str, mIsi, mIsiT, tyD, kitL, kitTab, atI_c0, atI_c1, atI_c2, atI_c3, atI_c4, sForR1, int1, int2, mMeth, mMake, mFld, sFldM, gIs, gIsNot, isNon_t, sRaise, gList, newLO, a.eo, al, lkl, e]
theorem plant_is (a : LandAt h s l p v w O) (k : Srt w) {x : Pl} (hx : x ∈ w.ps) : f_land_plant [.hdl h, .str x.n] O = .ok (plantD x) O := by
  have e := val_nm (n := Pl.n) (g := plantD) k.pnd hx
  have al := a.ep
  generalize dicS Pl.n plantD w.ps = z at *
  simp [f_land_plant, b_land_plant, mDIn, mDGet, dctOf, keyD, runF, sSeq, sIf, sNext, sDrop, sRet, sRetN, sAsg, ofRes, ofB, bName, bNil, bCons, bTup, bLst, bSubL, mTest, mOp, mVar, mC, mChain, mAnd, mOr, mNot, mIf, mAndV, mOrV, mNotV, mNeg, mCons, mNil, mTup, mLst, newL, mCall, mFn, arity, g1, g2, gLen, gInt, gAbs, gMax2, gMin2, gIx, seqOf, lsqOf, lstOf, Res.bind, ofO, gAdd_ok, gSub_ok, gEq_int, gNe_int, gLt_int, gLe_int, gGt_int, gGe_int, gEq_bl, gNe_bl, gEq_str, gNe_str, mIsi, mIsiT, tyD, kitL, kitTab, atI_c0, atI_c1, atI_c2, atI_c3, atI_c4, sForR1, int1, int2, mMeth, mMake, mFld, sFldM, gIs, gIsNot, isNon_t, sRaise, gList, newLO, a.eo, al, lkp, e]
theorem plant_no (a : LandAt h s l p v w O) (hx : nm ∉ w.ps.map (·.n)) : f_land_plant [.hdl h, .str nm] O = .exc ⟨"UnknownName", none⟩ O := by
  have e := val_no (n := Pl.n) (g := plantD) hx
  have al := a.ep
  generalize dicS Pl.n plantD w.ps = z at *
  simp [f_land_plant, b_land_plant, mDIn, mDGet, dctOf, keyD, runF, sSeq, sIf, sNext, sDrop, sRet, sRetN, sAsg, ofRes, ofB, bName, bNil, bCons, bTup, bLst, bSubL, mTest, mOp, mVar, mC, mChain, mAnd, mOr, mNot, mIf, mAndV, mOrV, mNotV, mNeg, mCons, mNil, mTup, mLst, newL, mCall, mFn, arity, g1, g2, gLen, gInt, gAbs, gMax2, gMin2, gIx, seqOf, lsqOf, lstOf, Res.bind, ofO, gAdd_ok, gSub_ok, gEq_int, gNe_int, gLt_int, gLe_int, gGt_int, gGe_int, gEq_bl, gNe_bl, gEq_str, gNe_str, mIsi, mIsiT, tyD, kitL, kitTab, atI_c0, atI_c1, atI_c2, atI_c3, atI_c4, sForR1, int1, int2, mMeth, mMake, mFld, sFldM, gIs, gIsNot, isNon_t, sRaise, gList, newLO, a.eo, al, lkp, e]
theorem mem_alone {x : Pl} {ps : List Pl} (nd : (ps.map (·.n)).Nodup) (hx : x ∈ ps) : x.n ∈ (ps.filter (·.alone)).map (·.n) ↔ x.alone = true := by
  constructor
  · intro hm
    obtain ⟨y, hy, e⟩ := List.mem_map.mp hm
    obtain ⟨hy1, hy2⟩ := List.mem_filter.mp hy
    have h1 := find_nm nd hx
    have h2 := find_nm nd hy1
    rw [e] at h2
    rw [h1] at h2
    cases h2
    exact hy2
  · intro ha
    exact List.mem_map.mpr ⟨x, List.mem_filter.mpr ⟨hx, ha⟩, rfl⟩
theorem is_self_ok (a : LandAt h s l p v w O) (k : Srt w) {x : Pl} (hx : x ∈ w.ps) : f_land_is_self [.hdl h, .str x.n] O = .ok (.bl x.alone) O := by
  have e := val_nm (n := Pl.n) (g := plantD) k.pnd hx
  have i1 : gIn O (.str x.n) (.hdl v) = some (.bl (decide (x.n ∈ (w.ps.filter (·.alone)).map (·.n))), O) := in_strs (by simp [seqOf, a.ev])
  have i2 : decide (x.n ∈ (w.ps.filter (·.alone)).map (·.n)) = x.alone := by
    rw [Bool.eq_iff_iff, decide_eq_true_iff]
    exact mem_alone k.pnd hx
  rw [i2] at i1
  have al := a.ep
  generalize dicS Pl.n plantD w.ps = z at *
  simp [f_land_is_self, b_land_is_self, mDIn, mDGet, dctOf, keyD, runF, sSeq, sIf, sNext, sDrop, sRet, sRetN, sAsg, ofRes, ofB, bName, bNil, bCons, bTup, bLst, bSubL, mTest, mOp, mVar, mC, mChain, mAnd, mOr, mNot, mIf, mAndV, mOrV, mNotV, mNeg, mCons, mNil, mTup, mLst, newL, mCall, mFn, arity, g1, g2, gLen, gInt, gAbs, gMax2, gMin2, gIx, seqOf, lsqOf, lstOf, Res.bind, ofO, gAdd_ok, gSub_ok, gEq_int, gNe_int, gLt_int, gLe_int, gGt_int, gGe_int, gEq_bl, gNe_bl, gEq_str, gNe_str, mIsi, mIsiT, tyD, kitL, kitTab, atI_c0, atI_c1, atI_c2, atI_c3, atI_c4, sForR1, int1, int2, mMeth, mMake, mFld, sFldM, gIs, gIsNot, isNon_t, sRaise, gList, newLO, a.eo, al, lkp, lkv, e, i1]
theorem is_self_no (a : LandAt h s l p v w O) (hx : nm ∉ w.ps.map (·.n)) : f_land_is_self [.hdl h, .str nm] O = .exc ⟨"UnknownName", none⟩ O := by
  have e := val_no (n := Pl.n) (g := plantD) hx
  have al := a.ep
  generalize dicS Pl.n plantD w.ps = z at *
  simp [f_land_is_self, b_land_is_self, mDIn, mDGet, dctOf, keyD, runF, sSeq, sIf, sNext, sDrop, sRet, sRetN, sAsg, ofRes, ofB, bName, bNil, bCons, bTup, bLst, bSubL, mTest, mOp, mVar, mC, mChain, mAnd, mOr, mNot, mIf, mAndV, mOrV, mNotV, mNeg, mCons, mNil, mTup, mLst, newL, mCall, mFn, arity, g1, g2, gLen, gInt, gAbs, gMax2, gMin2, gIx, seqOf, lsqOf, lstOf, Res.bind, ofO, gAdd_ok, gSub_ok, gEq_int, gNe_int, gLt_int, gLe_int, gGt_int, gGe_int, gEq_bl, gNe_bl, gEq_str, gNe_str, mIsi, mIsiT, tyD, kitL, kitTab, atI_c0, atI_c1, atI_c2, atI_c3, atI_c4, sForR1, int1, int2, mMeth, mMake, mFld, sFldM, gIs, gIsNot, isNon_t, sRaise, gList, newLO, a.eo, al, lkp, e]
end
/-! ### the moment -/
abbrev momO (h : Nat) (st lit cl rn : List Str) (r : Nat) : Ob := .ins "Moment" [("_land", .hdl h), ("_names", .lst (st.map .str)), ("_lit", .lst (lit.map .str)), ("_closed", .lst (cl.map .str)), ("_running", .lst (rn.map .str)), ("_root", .hdl r)]
theorem mk1 {a b c d e f : D} : List.lookup ("_land" : Str) [(("_land" : Str), a), (("_names" : Str), b), (("_lit" : Str), c), (("_closed" : Str), d), (("_running" : Str), e), (("_root" : Str), f)] = some a := rfl
theorem mk2 {a b c d e f : D} : List.lookup ("_names" : Str) [(("_land" : Str), a), (("_names" : Str), b), (("_lit" : Str), c), (("_closed" : Str), d), (("_running" : Str), e), (("_root" : Str), f)] = some b := rfl
theorem mk3 {a b c d e f : D} : List.lookup ("_lit" : Str) [(("_land" : Str), a), (("_names" : Str), b), (("_lit" : Str), c), (("_closed" : Str), d), (("_running" : Str), e), (("_root" : Str), f)] = some c := rfl
theorem mk4 {a b c d e f : D} : List.lookup ("_closed" : Str) [(("_land" : Str), a), (("_names" : Str), b), (("_lit" : Str), c), (("_closed" : Str), d), (("_running" : Str), e), (("_root" : Str), f)] = some d := rfl
theorem mk5 {a b c d e f : D} : List.lookup ("_running" : Str) [(("_land" : Str), a), (("_names" : Str), b), (("_lit" : Str), c), (("_closed" : Str), d), (("_running" : Str), e), (("_root" : Str), f)] = some e := rfl
theorem mk6 {a b c d e f : D} : List.lookup ("_root" : Str) [(("_land" : Str), a), (("_names" : Str), b), (("_lit" : Str), c), (("_closed" : Str), d), (("_running" : Str), e), (("_root" : Str), f)] = some f := rfl
/-- a dict of roots -/
def RootIs (kvs : List (Key × D)) (R : Str → Option Str) : Prop := ∀ x, valD kvs (.inr x) = (R x).map D.str
theorem RootIs.put {kvs : List (Key × D)} {R : Str → Option Str} {x f : Str} (h : RootIs kvs R) : RootIs (putKD kvs (.inr x) (.str f)) (fun z => if z = x then some f else R z) := fun z => by
  rw [val_put]
  by_cases c : z = x
  · subst c; rw [if_pos rfl]; simp
  · rw [if_neg (fun q => c (Sum.inr.inj q)), h z]; simp [c]
/-- how many are not marked -/
def unm (lit : List Str) (R : Str → Option Str) : Nat := (lit.filter fun x => (R x).isNone).length
theorem filter_less {α : Type} {p q : α → Bool} (hpq : ∀ z, q z = true → p z = true) {y : α} (h1 : p y = true) (h2 : q y = false) : ∀ {xs : List α}, y ∈ xs → (xs.filter q).length + 1 ≤ (xs.filter p).length
  | [], h => by cases h
  | x :: xs, h => by
    have mono : ∀ xs : List α, (xs.filter q).length ≤ (xs.filter p).length := fun xs => by
      induction xs with
      | nil => simp
      | cons x xs ih =>
        rw [List.filter_cons, List.filter_cons]
        cases c : q x
        · cases p x
          · simpa using ih
          · simp; omega
        · rw [hpq x c]; simpa using ih
    rw [List.filter_cons, List.filter_cons]
    rcases List.mem_cons.mp h with h | h
    · subst h
      have := mono xs
      simp [h1, h2]; omega
    · have ih := filter_less hpq h1 h2 h
      cases c : q x
      · cases p x
        · simpa using ih
        · simp; omega
      · rw [hpq x c]; simp; omega
theorem unm_add {lit : List Str} {R : Str → Option Str} {x f : Str} (hx : x ∈ lit) (h : R x = none) : unm lit (fun z => if z = x then some f else R z) + 1 ≤ unm lit R := by
  refine filter_less (p := fun z => (R z).isNone) (fun z hz => ?_) (y := x) (by simp [h]) (by simp) hx
  by_cases c : z = x
  · simp [c] at hz
  · simpa [c] using hz
/-- the edges among lit stations, of the closed lines -/
def edg (ls : List Ln) (L cl : List Str) : List (Str × Str) := (ls.filter fun l => decide (l.n ∈ cl) && (decide (l.a ∈ L) && decide (l.b ∈ L))).map fun l => (l.a, l.b)
/-- the neighbours of each lit station, in lists of the store -/
structure NearAt (nd n0 : Nat) (L : List Str) (hs : Str → Nat) (adj : Str → List Str) (O : Store) : Prop where
  d : ∃ kvs, O[nd]? = some (.dct kvs) ∧ kvs.length ≤ L.length ∧ ∀ x, valD kvs (.inr x) = if x ∈ L then some (.hdl (hs x)) else none
  a : ∀ x ∈ L, O[hs x]? = some (.lst ((adj x).map .str))
  inj : ∀ x ∈ L, ∀ y ∈ L, hs x = hs y → x = y
  lo : ∀ x ∈ L, n0 ≤ hs x ∧ hs x ≠ nd
theorem NearAt.fz {nd n0 : Nat} {L : List Str} {hs : Str → Nat} {adj : Str → List Str} {O O' : Store} (k : NearAt nd n0 L hs adj O) (e : ∀ i x, O[i]? = some x → n0 ≤ i → O'[i]? = some x) (h : n0 ≤ nd) : NearAt nd n0 L hs adj O' := by
  obtain ⟨⟨kvs, d1, d2, d3⟩, a, i, lo⟩ := k
  exact ⟨⟨kvs, e _ _ d1 h, d2, d3⟩, fun x hx => e _ _ (a x hx) (lo x hx).1, i, lo⟩
end DK.W
end
section
set_option Elab.async false
set_option linter.all false
set_option autoImplicit false
set_option maxRecDepth 100000
set_option maxHeartbeats 4000000
/-! The walk of darkrise_k18_what_a_table_tells: printed by gen.py. -/
namespace DK.k18
open PySem L2 DK
def top (i : Nat) : Stmt := PySem.Challenge.pw_darkrise_k18_what_a_table_tells.main.body.getD i (.Pass ⟨0, 0, 0, 0⟩)
abbrev s_law_cell : Stmt := top 27
abbrev s_law_take : Stmt := top 28
abbrev s_law_plant : Stmt := top 30
abbrev s_law_line : Stmt := top 29
abbrev s_law_world : Stmt := top 31
abbrev s_land_init : Stmt := inC (top 22) 0
abbrev s_is_name : Stmt := top 14
abbrev s_checked_name : Stmt := top 15
abbrev s_land_kind : Stmt := inC (top 22) 4
abbrev s_land_free : Stmt := inC (top 22) 1
abbrev s_land_room : Stmt := inC (top 22) 3
abbrev s_land_add_station : Stmt := inC (top 22) 5
abbrev s_land_there : Stmt := inC (top 22) 2
abbrev s_is_number : Stmt := top 16
abbrev s_checked_number : Stmt := top 17
abbrev s_land_add_line : Stmt := inC (top 22) 6
abbrev s_land_add_self : Stmt := inC (top 22) 7
abbrev s_land_add_plant : Stmt := inC (top 22) 8
abbrev s_law_build : Stmt := top 32
abbrev s_law_minutes : Stmt := top 33
abbrev s_land_plants : Stmt := inC (top 22) 11
abbrev s_land_stations : Stmt := inC (top 22) 9
abbrev s_land_lines : Stmt := inC (top 22) 10
abbrev s_named : Stmt := top 25
abbrev s_table_init : Stmt := inC (top 24) 0
abbrev s_told : Stmt := top 18
abbrev s_table_lines : Stmt := inC (top 24) 8
abbrev s_table_rows : Stmt := inC (top 24) 2
abbrev s_table_never : Stmt := inC (top 24) 3
abbrev s_table_moments : Stmt := inC (top 24) 4
abbrev s_table_last : Stmt := inC (top 24) 5
abbrev s_table_by : Stmt := inC (top 24) 6
abbrev s_law_by_right : Stmt := top 35
abbrev s_table_minute : Stmt := inC (top 24) 1
abbrev s_law_minute : Stmt := top 36
abbrev s_table_eq : Stmt := inC (top 24) 9
abbrev s_law_made : Stmt := top 34
abbrev s_table_minutes : Stmt := inC (top 24) 7
abbrev s_law : Stmt := top 37
def d_law_cell : He.DefD := ⟨("_law_cell", none), "_law_cell", "_law_cell", defArgs s_law_cell, defBody s_law_cell, defScope s_law_cell, [], []⟩
theorem sc_law_cell : FnScope ["script", "k"] ["script", "k"] (defScope s_law_cell) := ⟨rfl, rfl, rfl, by decide +kernel, rfl, by decide +kernel, by decide +kernel⟩
def d_law_take : He.DefD := ⟨("_law_take", none), "_law_take", "_law_take", defArgs s_law_take, defBody s_law_take, defScope s_law_take, [], []⟩
theorem sc_law_take : FnScope ["state", "limit", "found", "cell"] ["state", "limit"] (defScope s_law_take) := ⟨rfl, rfl, rfl, by decide +kernel, rfl, by decide +kernel, by decide +kernel⟩
def d_law_plant : He.DefD := ⟨("_law_plant", none), "_law_plant", "_law_plant", defArgs s_law_plant, defBody s_law_plant, defScope s_law_plant, [], []⟩
theorem sc_law_plant : FnScope ["state", "name", "stations", "station", "gives", "minutes", "need", "quick", "hot", "cool"] ["state", "name", "stations"] (defScope s_law_plant) := ⟨rfl, rfl, rfl, by decide +kernel, rfl, by decide +kernel, by decide +kernel⟩
def d_law_line : He.DefD := ⟨("_law_line", none), "_law_line", "_law_line", defArgs s_law_line, defBody s_law_line, defScope s_law_line, [], []⟩
theorem sc_law_line : FnScope ["state", "name", "stations", "one", "other", "need"] ["state", "name", "stations"] (defScope s_law_line) := ⟨rfl, rfl, rfl, by decide +kernel, rfl, by decide +kernel, by decide +kernel⟩
def d_law_world : He.DefD := ⟨("_law_world", none), "_law_world", "_law_world", defArgs s_law_world, defBody s_law_world, defScope s_law_world, [], []⟩
theorem sc_law_world : FnScope ["state", "stations", "lines", "k", "plants"] ["state"] (defScope s_law_world) := ⟨rfl, rfl, rfl, by decide +kernel, rfl, by decide +kernel, by decide +kernel⟩
def d_land_init : He.DefD := ⟨("Land", some "__init__"), "__init__", "Land.__init__", defArgs s_land_init, defBody s_land_init, defScope s_land_init, [], []⟩
theorem sc_land_init : FnScope ["self"] ["self"] (defScope s_land_init) := ⟨rfl, rfl, rfl, by decide +kernel, rfl, by decide +kernel, by decide +kernel⟩
def d_is_name : He.DefD := ⟨("is_name", none), "is_name", "is_name", defArgs s_is_name, defBody s_is_name, defScope s_is_name, [], []⟩
theorem sc_is_name : FnScope ["word", "sign"] ["word"] (defScope s_is_name) := ⟨rfl, rfl, rfl, by decide +kernel, rfl, by decide +kernel, by decide +kernel⟩
def d_checked_name : He.DefD := ⟨("checked_name", none), "checked_name", "checked_name", defArgs s_checked_name, defBody s_checked_name, defScope s_checked_name, [], []⟩
theorem sc_checked_name : FnScope ["word"] ["word"] (defScope s_checked_name) := ⟨rfl, rfl, rfl, by decide +kernel, rfl, by decide +kernel, by decide +kernel⟩
def d_land_kind : He.DefD := ⟨("Land", some "kind"), "kind", "Land.kind", defArgs s_land_kind, defBody s_land_kind, defScope s_land_kind, [], []⟩
theorem sc_land_kind : FnScope ["self", "word"] ["self", "word"] (defScope s_land_kind) := ⟨rfl, rfl, rfl, by decide +kernel, rfl, by decide +kernel, by decide +kernel⟩
def d_land_free : He.DefD := ⟨("Land", some "_free"), "_free", "Land._free", defArgs s_land_free, defBody s_land_free, defScope s_land_free, [], []⟩
theorem sc_land_free : FnScope ["self", "word"] ["self", "word"] (defScope s_land_free) := ⟨rfl, rfl, rfl, by decide +kernel, rfl, by decide +kernel, by decide +kernel⟩
def d_land_room : He.DefD := ⟨("Land", some "_room"), "_room", "Land._room", defArgs s_land_room, defBody s_land_room, defScope s_land_room, [], []⟩
theorem sc_land_room : FnScope ["self", "rows"] ["self", "rows"] (defScope s_land_room) := ⟨rfl, rfl, rfl, by decide +kernel, rfl, by decide +kernel, by decide +kernel⟩
def d_land_add_station : He.DefD := ⟨("Land", some "add_station"), "add_station", "Land.add_station", defArgs s_land_add_station, defBody s_land_add_station, defScope s_land_add_station, [], []⟩
theorem sc_land_add_station : FnScope ["self", "word"] ["self", "word"] (defScope s_land_add_station) := ⟨rfl, rfl, rfl, by decide +kernel, rfl, by decide +kernel, by decide +kernel⟩
def d_land_there : He.DefD := ⟨("Land", some "_there"), "_there", "Land._there", defArgs s_land_there, defBody s_land_there, defScope s_land_there, [], []⟩
theorem sc_land_there : FnScope ["self", "word"] ["self", "word"] (defScope s_land_there) := ⟨rfl, rfl, rfl, by decide +kernel, rfl, by decide +kernel, by decide +kernel⟩
def d_is_number : He.DefD := ⟨("is_number", none), "is_number", "is_number", defArgs s_is_number, defBody s_is_number, defScope s_is_number, [.int 0, .int 1000000], []⟩
theorem sc_is_number : FnScope ["value", "least", "most"] ["value", "least", "most"] (defScope s_is_number) := ⟨rfl, rfl, rfl, by decide +kernel, rfl, by decide +kernel, by decide +kernel⟩
def d_checked_number : He.DefD := ⟨("checked_number", none), "checked_number", "checked_number", defArgs s_checked_number, defBody s_checked_number, defScope s_checked_number, [.int 0, .int 1000000], []⟩
theorem sc_checked_number : FnScope ["value", "least", "most"] ["value", "least", "most"] (defScope s_checked_number) := ⟨rfl, rfl, rfl, by decide +kernel, rfl, by decide +kernel, by decide +kernel⟩
def d_land_add_line : He.DefD := ⟨("Land", some "add_line"), "add_line", "Land.add_line", defArgs s_land_add_line, defBody s_land_add_line, defScope s_land_add_line, [], []⟩
theorem sc_land_add_line : FnScope ["self", "word", "one", "other", "need", "minutes"] ["self", "word", "one", "other", "need", "minutes"] (defScope s_land_add_line) := ⟨rfl, rfl, rfl, by decide +kernel, rfl, by decide +kernel, by decide +kernel⟩
def d_land_add_self : He.DefD := ⟨("Land", some "add_self"), "add_self", "Land.add_self", defArgs s_land_add_self, defBody s_land_add_self, defScope s_land_add_self, [], []⟩
theorem sc_land_add_self : FnScope ["self", "word", "station", "gives", "minutes"] ["self", "word", "station", "gives", "minutes"] (defScope s_land_add_self) := ⟨rfl, rfl, rfl, by decide +kernel, rfl, by decide +kernel, by decide +kernel⟩
def d_land_add_plant : He.DefD := ⟨("Land", some "add_plant"), "add_plant", "Land.add_plant", defArgs s_land_add_plant, defBody s_land_add_plant, defScope s_land_add_plant, [], []⟩
theorem sc_land_add_plant : FnScope ["self", "word", "station", "need", "gives", "quick", "hot", "cool", "slow", "value"] ["self", "word", "station", "need", "gives", "quick", "hot", "cool", "slow"] (defScope s_land_add_plant) := ⟨rfl, rfl, rfl, by decide +kernel, rfl, by decide +kernel, by decide +kernel⟩
def d_law_build : He.DefD := ⟨("_law_build", none), "_law_build", "_law_build", defArgs s_law_build, defBody s_law_build, defScope s_law_build, [], []⟩
theorem sc_law_build : FnScope ["world", "land", "name", "one", "other", "need", "minutes", "station", "gives", "quick", "hot", "cool", "slow", "alone"] ["world"] (defScope s_law_build) := ⟨rfl, rfl, rfl, by decide +kernel, rfl, by decide +kernel, by decide +kernel⟩
def d_law_minutes : He.DefD := ⟨("_law_minutes", none), "_law_minutes", "_law_minutes", defArgs s_law_minutes, defBody s_law_minutes, defScope s_law_minutes, [], []⟩
theorem sc_law_minutes : FnScope ["state", "names", "found", "name", "pick"] ["state", "names"] (defScope s_law_minutes) := ⟨rfl, rfl, rfl, by decide +kernel, rfl, by decide +kernel, by decide +kernel⟩
def d_land_plants : He.DefD := ⟨("Land", some "plants"), "plants", "Land.plants", defArgs s_land_plants, defBody s_land_plants, defScope s_land_plants, [], []⟩
theorem sc_land_plants : FnScope ["self"] ["self"] (defScope s_land_plants) := ⟨rfl, rfl, rfl, by decide +kernel, rfl, by decide +kernel, by decide +kernel⟩
def d_land_stations : He.DefD := ⟨("Land", some "stations"), "stations", "Land.stations", defArgs s_land_stations, defBody s_land_stations, defScope s_land_stations, [], []⟩
theorem sc_land_stations : FnScope ["self"] ["self"] (defScope s_land_stations) := ⟨rfl, rfl, rfl, by decide +kernel, rfl, by decide +kernel, by decide +kernel⟩
def d_land_lines : He.DefD := ⟨("Land", some "lines"), "lines", "Land.lines", defArgs s_land_lines, defBody s_land_lines, defScope s_land_lines, [], []⟩
theorem sc_land_lines : FnScope ["self"] ["self"] (defScope s_land_lines) := ⟨rfl, rfl, rfl, by decide +kernel, rfl, by decide +kernel, by decide +kernel⟩
def d_named : He.DefD := ⟨("_named", none), "_named", "_named", defArgs s_named, defBody s_named, defScope s_named, [], []⟩
theorem sc_named : FnScope ["land", "kind"] ["land", "kind"] (defScope s_named) := ⟨rfl, rfl, rfl, by decide +kernel, rfl, by decide +kernel, by decide +kernel⟩
def d_table_init : He.DefD := ⟨("Table", some "__init__"), "__init__", "Table.__init__", defArgs s_table_init, defBody s_table_init, defScope s_table_init, [], []⟩
theorem sc_table_init : FnScope ["self", "land", "minutes", "kind", "word", "value"] ["self", "land", "minutes"] (defScope s_table_init) := ⟨rfl, rfl, rfl, by decide +kernel, rfl, by decide +kernel, by decide +kernel⟩
def d_told : He.DefD := ⟨("told", none), "told", "told", defArgs s_told, defBody s_told, defScope s_told, [], []⟩
theorem sc_told : FnScope ["value"] ["value"] (defScope s_told) := ⟨rfl, rfl, rfl, by decide +kernel, rfl, by decide +kernel, by decide +kernel⟩
def d_table_lines : He.DefD := ⟨("Table", some "lines"), "lines", "Table.lines", defArgs s_table_lines, defBody s_table_lines, defScope s_table_lines, [], []⟩
theorem sc_table_lines : FnScope ["self", "kind", "word", "value"] ["self"] (defScope s_table_lines) := ⟨rfl, rfl, rfl, by decide +kernel, rfl, by decide +kernel, by decide +kernel⟩
def d_table_rows : He.DefD := ⟨("Table", some "rows"), "rows", "Table.rows", defArgs s_table_rows, defBody s_table_rows, defScope s_table_rows, [], []⟩
theorem sc_table_rows : FnScope ["self"] ["self"] (defScope s_table_rows) := ⟨rfl, rfl, rfl, by decide +kernel, rfl, by decide +kernel, by decide +kernel⟩
def d_table_never : He.DefD := ⟨("Table", some "never"), "never", "Table.never", defArgs s_table_never, defBody s_table_never, defScope s_table_never, [], []⟩
theorem sc_table_never : FnScope ["self", "kind", "word", "value"] ["self"] (defScope s_table_never) := ⟨rfl, rfl, rfl, by decide +kernel, rfl, by decide +kernel, by decide +kernel⟩
def d_table_moments : He.DefD := ⟨("Table", some "moments"), "moments", "Table.moments", defArgs s_table_moments, defBody s_table_moments, defScope s_table_moments, [], []⟩
theorem sc_table_moments : FnScope ["self", "kind", "word", "value"] ["self"] (defScope s_table_moments) := ⟨rfl, rfl, rfl, by decide +kernel, rfl, by decide +kernel, by decide +kernel⟩
def d_table_last : He.DefD := ⟨("Table", some "last"), "last", "Table.last", defArgs s_table_last, defBody s_table_last, defScope s_table_last, [], []⟩
theorem sc_table_last : FnScope ["self"] ["self"] (defScope s_table_last) := ⟨rfl, rfl, rfl, by decide +kernel, rfl, by decide +kernel, by decide +kernel⟩
def d_table_by : He.DefD := ⟨("Table", some "by"), "by", "Table.by", defArgs s_table_by, defBody s_table_by, defScope s_table_by, [], []⟩
theorem sc_table_by : FnScope ["self", "minute", "found", "kind", "word", "value"] ["self", "minute"] (defScope s_table_by) := ⟨rfl, rfl, rfl, by decide +kernel, rfl, by decide +kernel, by decide +kernel⟩
def d_law_by_right : He.DefD := ⟨("_law_by_right", none), "_law_by_right", "_law_by_right", defArgs s_law_by_right, defBody s_law_by_right, defScope s_law_by_right, [], []⟩
theorem sc_law_by_right : FnScope ["table", "rows", "minute", "due", "kind", "name", "value"] ["table", "rows", "minute"] (defScope s_law_by_right) := ⟨rfl, rfl, rfl, by decide +kernel, rfl, by decide +kernel, by decide +kernel⟩
def d_table_minute : He.DefD := ⟨("Table", some "minute"), "minute", "Table.minute", defArgs s_table_minute, defBody s_table_minute, defScope s_table_minute, [], []⟩
theorem sc_table_minute : FnScope ["self", "word"] ["self", "word"] (defScope s_table_minute) := ⟨rfl, rfl, rfl, by decide +kernel, rfl, by decide +kernel, by decide +kernel⟩
def d_law_minute : He.DefD := ⟨("_law_minute", none), "_law_minute", "_law_minute", defArgs s_law_minute, defBody s_law_minute, defScope s_law_minute, [], []⟩
theorem sc_law_minute : FnScope ["table", "name"] ["table", "name"] (defScope s_law_minute) := ⟨rfl, rfl, rfl, by decide +kernel, rfl, by decide +kernel, by decide +kernel⟩
def d_table_eq : He.DefD := ⟨("Table", some "__eq__"), "__eq__", "Table.__eq__", defArgs s_table_eq, defBody s_table_eq, defScope s_table_eq, [], []⟩
theorem sc_table_eq : FnScope ["self", "other"] ["self", "other"] (defScope s_table_eq) := ⟨rfl, rfl, rfl, by decide +kernel, rfl, by decide +kernel, by decide +kernel⟩
def d_law_made : He.DefD := ⟨("_law_made", none), "_law_made", "_law_made", defArgs s_law_made, defBody s_law_made, defScope s_law_made, [], []⟩
theorem sc_law_made : FnScope ["land", "minutes", "e"] ["land", "minutes"] (defScope s_law_made) := ⟨rfl, rfl, rfl, by decide +kernel, rfl, by decide +kernel, by decide +kernel⟩
def d_table_minutes : He.DefD := ⟨("Table", some "minutes"), "minutes", "Table.minutes", defArgs s_table_minutes, defBody s_table_minutes, defScope s_table_minutes, [], []⟩
theorem sc_table_minutes : FnScope ["self", "kind", "word", "value"] ["self"] (defScope s_table_minutes) := ⟨rfl, rfl, rfl, by decide +kernel, rfl, by decide +kernel, by decide +kernel⟩
def d_law : He.DefD := ⟨("law", none), "law", "law", defArgs s_law, defBody s_law, defScope s_law, [], []⟩
theorem sc_law : FnScope ["script", "state", "world", "land", "names", "minutes", "handed", "table", "rows", "there", "moments", "value", "minute", "other", "wrong", "pick", "line", "plant", "name", "row"] ["script"] (defScope s_law) := ⟨rfl, rfl, rfl, by decide +kernel, rfl, by decide +kernel, by decide +kernel⟩
def fn : List He.DefD := [d_law_cell, d_law_take, d_law_plant, d_law_line, d_law_world, d_land_init, d_is_name, d_checked_name, d_land_kind, d_land_free, d_land_room, d_land_add_station, d_land_there, d_is_number, d_checked_number, d_land_add_line, d_land_add_self, d_land_add_plant, d_law_build, d_law_minutes, d_land_plants, d_land_stations, d_land_lines, d_named, d_table_init, d_told, d_table_lines, d_table_rows, d_table_never, d_table_moments, d_table_last, d_table_by, d_law_by_right, d_table_minute, d_law_minute, d_table_eq, d_law_made, d_table_minutes, d_law]
def fa : List He.Fa := [.glo "law", .free "len", .free "int", .free "abs", .glo "_law_cell", .glo "_law_take", .free "max", .free "min", .glo "_law_line", .free "range", .glo "_law_plant", .cls "Land", .noat "Land" "_stations", .noat "Land" "_lines", .noat "Land" "_plants", .noat "Land" "_selves", .free "isinstance", .free "str", .int "LONGEST" 12, .str "LETTERS" "abcdefghijklmnopqrstuvwxyz", .glo "is_name", .exc "InvalidName", .glo "InvalidName", .glo "checked_name", .meth "Land" "kind", .exc "DuplicateName", .glo "DuplicateName", .int "MOST" 60, .exc "TooMany", .glo "TooMany", .meth "Land" "_free", .meth "Land" "_room", .free "sorted", .exc "UnknownName", .glo "UnknownName", .free "bool", .glo "is_number", .exc "InvalidNumber", .glo "InvalidNumber", .meth "Land" "_there", .exc "SameStation", .glo "SameStation", .glo "checked_number", .int "GREATEST" 1000000, .glo "Land", .mkr "Land", .meth "Land" "add_station", .meth "Land" "add_line", .meth "Land" "add_self", .meth "Land" "add_plant", .free "list", .meth "Land" "stations", .meth "Land" "lines", .meth "Land" "plants", .cls "Table", .noat "Table" "_rows", .exc "InvalidPaper", .glo "InvalidPaper", .glo "_named", .glo "KINDS", .noat "Table" "_minutes", .glo "told", .meth "Table" "moments", .meth "Table" "by", .exm "InvalidName" "UnknownName" false, .exm "InvalidNumber" "UnknownName" false, .exm "DuplicateName" "UnknownName" false, .exm "UnknownName" "UnknownName" true, .exm "SameStation" "UnknownName" false, .exm "TooMany" "UnknownName" false, .exm "InvalidPaper" "UnknownName" false, .meth "Table" "minute", .glo "Table", .meth "Table" "rows", .exm "InvalidName" "InvalidPaper" false, .exm "InvalidNumber" "InvalidPaper" false, .exm "DuplicateName" "InvalidPaper" false, .exm "UnknownName" "InvalidPaper" false, .exm "SameStation" "InvalidPaper" false, .exm "TooMany" "InvalidPaper" false, .exm "InvalidPaper" "InvalidPaper" true, .mkr "Table", .glo "RiseError", .glo "_law_world", .glo "_law_build", .glo "_law_minutes", .free "dict", .meth "Table" "never", .meth "Table" "last", .meth "Table" "minutes", .meth "Table" "lines", .glo "_law_by_right", .glo "_law_minute", .meth "Table" "__eq__", .free "repr", .glo "_law_made"]
def fx : List Fx := [.tupS "KINDS" ["station", "line", "plant"], .tupD "KINDS", .own "Table", .exc "InvalidPaper", .kitR "InvalidPaper" "RiseError" true]
abbrev Kn (K : PySem.W.Frag) (mg : Str → Option Value) : Prop := Knows fa fn fx K mg
def b_law_cell : SM := (sSeq (sIf (mTest (mOp gLt (mVar 1) (mCall (g1 gLen) (mCons (mVar 0) mNil)))) (sRet (mCall (g1 gAbs) (mCons (mCall (g1 gInt) (mCons (mOp gIx (mVar 0) (mVar 1)) mNil)) mNil))) sNext)
    (sRet (mOp (gAdd false) (mOp gMul (mC (.int 37)) (mVar 1)) (mC (.int 11)))))
def f_law_cell : FM := runF 2 b_law_cell
theorem ok_law_cell {P : Program} {w : World} {K : PySem.W.Frag} {mg : Str → Option Value} {base : Heap} (kn : Kn K mg) : Has P w K mg base 1 d_law_cell ["script", "k"] f_law_cell := by
  refine has_def (k := 0) (N := ["script", "k"]) (d := d_law_cell) (kn.c.def_ 0 (d := d_law_cell) rfl) sc_law_cell fun f cdv A outer s H E hr => ?_
  delta b_law_cell
  exact (dss_cons (ds_if (dt_cmp od_lt (de_var (pv 1)) (de_callB cd_len rfl (kn.free 1) (by decide +kernel) (da_cons (de_var (pv 0)) da_nil)) (nomark _)) (dss_one (ds_ret (de_callB cd_abs rfl (kn.free 3) (by decide +kernel) (da_cons (de_callTy cd_int rfl (kn.free 2) (by decide +kernel) (da_cons (de_ix (de_var (pv 0)) (de_var (pv 1)) (fun _ _ => rfl)) da_nil)) da_nil)))) dss_nil)
    (dss_one (ds_ret (de_op (od_add false) (de_op od_mul de_int (de_var (pv 1))) de_int))))
def b_law_take : SM := (sSeq (sIf (mTest (mOp gGt (mOp gIx (mVar 0) (mC (.int 2))) (mC (.int 0)))) (sSeq (sAsg (mOp gMod (mCall (g1 gInt) (mCons (mOp gIx (mVar 0) (mC (.int 2))) mNil)) (mVar 1)) (bName 2))
    (sSeq (sAsg (mOp gFdiv (mCall (g1 gInt) (mCons (mOp gIx (mVar 0) (mC (.int 2))) mNil)) (mVar 1)) (bSubL (mVar 0) (mC (.int 2))))
    (sRet (mVar 2)))) sNext)
    (sSeq (sAsg (mFn (arity 2 f_law_cell) [] (mCons (mOp gIx (mVar 0) (mC (.int 0))) (mCons (mOp gIx (mVar 0) (mC (.int 1))) mNil))) (bName 3))
    (sSeq (sAsg (mOp (gAdd false) (mOp gIx (mVar 0) (mC (.int 1))) (mC (.int 1))) (bSubL (mVar 0) (mC (.int 1))))
    (sSeq (sIf (mTest (mOp gGe (mVar 3) (mOp gPow (mC (.int 10)) (mC (.int 9))))) (sAsg (mOp gFdiv (mCall (g1 gInt) (mCons (mVar 3) mNil)) (mVar 1)) (bSubL (mVar 0) (mC (.int 2)))) sNext)
    (sRet (mOp gMod (mCall (g1 gInt) (mCons (mVar 3) mNil)) (mVar 1)))))))
def f_law_take : FM := runF 4 b_law_take
theorem ok_law_take {P : Program} {w : World} {K : PySem.W.Frag} {mg : Str → Option Value} {base : Heap} (kn : Kn K mg) : Has P w K mg base 2 d_law_take ["state", "limit"] f_law_take := by
  obtain ⟨fd0, F0, O0⟩ := ok_law_cell (P := P) (w := w) (base := base) kn
  have B1 := FunD.bindsN (ps := ["script", "k"]) F0 (fun _ _ _ _ _ _ us hl => match us, hl with | [_, _], _ => rfl)
  refine has_def (k := 1) (N := ["state", "limit", "found", "cell"]) (d := d_law_take) (kn.c.def_ 1 (d := d_law_take) rfl) sc_law_take fun f cdv A outer s H E hr => ?_
  delta b_law_take
  exact (dss_cons (ds_if (dt_cmp od_gt (de_ix (de_var (pv 0)) de_int (fun _ _ => rfl)) de_int (nomark _)) (dss_cons (ds_set (i := 2) sc_law_take.nd rfl (by first | exact .inl rfl | exact .inr rfl) (de_op od_mod (de_callTy cd_int rfl (kn.free 2) (by decide +kernel) (da_cons (de_ix (de_var (pv 0)) de_int (fun _ _ => rfl)) da_nil)) (de_var (pv 1))))
    (dss_cons (ds_asg (de_op od_fdiv (de_callTy cd_int rfl (kn.free 2) (by decide +kernel) (da_cons (de_ix (de_var (pv 0)) de_int (fun _ _ => rfl)) da_nil)) (de_var (pv 1))) (dg_subL (W := WF) (de_var (pv 0)) de_int))
    (dss_one (ds_ret (de_var (pv 2)))))) dss_nil)
    (dss_cons (ds_set (i := 3) sc_law_take.nd rfl (by first | exact .inl rfl | exact .inr rfl) (de_call (dds := []) O0 (hr.mono (by omega)) rfl (kn.glo 4) F0.kp B1 .nil (fun _ _ => rfl) tk_of (da_cons (de_ix (de_var (pv 0)) de_int (fun _ _ => rfl)) (da_cons (de_ix (de_var (pv 0)) de_int (fun _ _ => rfl)) da_nil))))
    (dss_cons (ds_asg (de_op (od_add false) (de_ix (de_var (pv 0)) de_int (fun _ _ => rfl)) de_int) (dg_subL (W := WF) (de_var (pv 0)) de_int))
    (dss_cons (ds_if (dt_cmp od_ge (de_var (pv 3)) (de_op od_pow de_int de_int) (nomark _)) (dss_one (ds_asg (de_op od_fdiv (de_callTy cd_int rfl (kn.free 2) (by decide +kernel) (da_cons (de_var (pv 3)) da_nil)) (de_var (pv 1))) (dg_subL (W := WF) (de_var (pv 0)) de_int))) dss_nil)
    (dss_one (ds_ret (de_op od_mod (de_callTy cd_int rfl (kn.free 2) (by decide +kernel) (da_cons (de_var (pv 3)) da_nil)) (de_var (pv 1)))))))))
def b_law_plant : SM := (sSeq (sAsg (mOp gIx (mVar 2) (mFn (arity 2 f_law_take) [] (mCons (mVar 0) (mCons (mCall (g1 gLen) (mCons (mVar 2) mNil)) mNil)))) (bName 3))
    (sSeq (sAsg (mOp gIx (mLst false (mCons (mC (.int 0)) (mCons (mC (.int 3)) (mCons (mC (.int 5)) (mCons (mC (.int 9)) (mCons (mC (.int 12)) (mCons (mC (.int 20)) mNil))))))) (mFn (arity 2 f_law_take) [] (mCons (mVar 0) (mCons (mC (.int 6)) mNil)))) (bName 4))
    (sSeq (sIf (mOr (mTest (mOp gEq (mFn (arity 2 f_law_take) [] (mCons (mVar 0) (mCons (mC (.int 3)) mNil))) (mC (.int 0)))) (mTest (mOp gEq (mVar 1) (mC (.str "pa"))))) (sSeq (sAsg (mOp (gAdd false) (mC (.int 1)) (mFn (arity 2 f_law_take) [] (mCons (mVar 0) (mCons (mC (.int 9)) mNil)))) (bName 5))
    (sRet (mTup (mCons (mVar 1) (mCons (mVar 3) (mCons (mC (.int 0)) (mCons (mVar 4) (mCons (mVar 5) (mCons (mC (.int 1000000)) (mCons (mC (.int 1000000)) (mCons (mVar 5) (mCons (mC (.bl true)) mNil)))))))))))) sNext)
    (sSeq (sAsg (mOp gIx (mLst false (mCons (mC (.int 0)) (mCons (mC (.int 3)) (mCons (mC (.int 5)) (mCons (mC (.int 9)) (mCons (mC (.int 14)) (mCons (mC (.int 25)) mNil))))))) (mFn (arity 2 f_law_take) [] (mCons (mVar 0) (mCons (mC (.int 6)) mNil)))) (bName 6))
    (sSeq (sAsg (mOp (gAdd false) (mC (.int 1)) (mFn (arity 2 f_law_take) [] (mCons (mVar 0) (mCons (mC (.int 6)) mNil)))) (bName 7))
    (sSeq (sAsg (mOp gIx (mLst false (mCons (mC (.int 0)) (mCons (mC (.int 4)) (mCons (mC (.int 9)) (mCons (mC (.int 15)) (mCons (mC (.int 30)) (mCons (mC (.int 200)) mNil))))))) (mFn (arity 2 f_law_take) [] (mCons (mVar 0) (mCons (mC (.int 6)) mNil)))) (bName 8))
    (sSeq (sAsg (mOp (gAdd false) (mVar 8) (mOp gIx (mLst false (mCons (mC (.int 0)) (mCons (mC (.int 1)) (mCons (mC (.int 5)) (mCons (mC (.int 12)) (mCons (mC (.int 40)) mNil)))))) (mFn (arity 2 f_law_take) [] (mCons (mVar 0) (mCons (mC (.int 5)) mNil))))) (bName 9))
    (sRet (mTup (mCons (mVar 1) (mCons (mVar 3) (mCons (mVar 6) (mCons (mVar 4) (mCons (mVar 7) (mCons (mVar 8) (mCons (mVar 9) (mCons (mOp (gAdd false) (mVar 7) (mFn (arity 2 f_law_take) [] (mCons (mVar 0) (mCons (mC (.int 9)) mNil)))) (mCons (mC (.bl false)) mNil))))))))))))))))))
def f_law_plant : FM := runF 10 b_law_plant
theorem ok_law_plant {P : Program} {w : World} {K : PySem.W.Frag} {mg : Str → Option Value} {base : Heap} (kn : Kn K mg) : Has P w K mg base 3 d_law_plant ["state", "name", "stations"] f_law_plant := by
  obtain ⟨fd0, F0, O0⟩ := ok_law_take (P := P) (w := w) (base := base) kn
  have B1 := FunD.bindsN (ps := ["state", "limit"]) F0 (fun _ _ _ _ _ _ us hl => match us, hl with | [_, _], _ => rfl)
  refine has_def (k := 2) (N := ["state", "name", "stations", "station", "gives", "minutes", "need", "quick", "hot", "cool"]) (d := d_law_plant) (kn.c.def_ 2 (d := d_law_plant) rfl) sc_law_plant fun f cdv A outer s H E hr => ?_
  delta b_law_plant
  exact (dss_cons (ds_set (i := 3) sc_law_plant.nd rfl (by first | exact .inl rfl | exact .inr rfl) (de_ix (de_var (pv 2)) (de_call (dds := []) O0 (hr.mono (by omega)) rfl (kn.glo 5) F0.kp B1 .nil (fun _ _ => rfl) tk_of (da_cons (de_var (pv 0)) (da_cons (de_callB cd_len rfl (kn.free 1) (by decide +kernel) (da_cons (de_var (pv 2)) da_nil)) da_nil))) (fun _ _ => rfl)))
    (dss_cons (ds_set (i := 4) sc_law_plant.nd rfl (by first | exact .inl rfl | exact .inr rfl) (de_ix (de_lst (hm := false) (da_cons de_int (da_cons de_int (da_cons de_int (da_cons de_int (da_cons de_int (da_cons de_int da_nil))))))) (de_call (dds := []) O0 (hr.mono (by omega)) rfl (kn.glo 5) F0.kp B1 .nil (fun _ _ => rfl) tk_of (da_cons (de_var (pv 0)) (da_cons de_int da_nil))) (fun _ _ => rfl)))
    (dss_cons (ds_if (PW.pt (dw_or (dt_cmp (od_eq hr.units) (de_call (dds := []) O0 (hr.mono (by omega)) rfl (kn.glo 5) F0.kp B1 .nil (fun _ _ => rfl) tk_of (da_cons (de_var (pv 0)) (da_cons de_int da_nil))) de_int (nomark _)) (dw_or1 (dt_cmp (od_eq hr.units) (de_var (pv 1)) de_str (nomark _))))) (dss_cons (ds_set (i := 5) sc_law_plant.nd rfl (by first | exact .inl rfl | exact .inr rfl) (de_op (od_add false) de_int (de_call (dds := []) O0 (hr.mono (by omega)) rfl (kn.glo 5) F0.kp B1 .nil (fun _ _ => rfl) tk_of (da_cons (de_var (pv 0)) (da_cons de_int da_nil)))))
    (dss_one (ds_ret (de_tup (da_cons (de_var (pv 1)) (da_cons (de_var (pv 3)) (da_cons de_int (da_cons (de_var (pv 4)) (da_cons (de_var (pv 5)) (da_cons de_int (da_cons de_int (da_cons (de_var (pv 5)) (da_cons de_bl da_nil))))))))))))) dss_nil)
    (dss_cons (ds_set (i := 6) sc_law_plant.nd rfl (by first | exact .inl rfl | exact .inr rfl) (de_ix (de_lst (hm := false) (da_cons de_int (da_cons de_int (da_cons de_int (da_cons de_int (da_cons de_int (da_cons de_int da_nil))))))) (de_call (dds := []) O0 (hr.mono (by omega)) rfl (kn.glo 5) F0.kp B1 .nil (fun _ _ => rfl) tk_of (da_cons (de_var (pv 0)) (da_cons de_int da_nil))) (fun _ _ => rfl)))
    (dss_cons (ds_set (i := 7) sc_law_plant.nd rfl (by first | exact .inl rfl | exact .inr rfl) (de_op (od_add false) de_int (de_call (dds := []) O0 (hr.mono (by omega)) rfl (kn.glo 5) F0.kp B1 .nil (fun _ _ => rfl) tk_of (da_cons (de_var (pv 0)) (da_cons de_int da_nil)))))
    (dss_cons (ds_set (i := 8) sc_law_plant.nd rfl (by first | exact .inl rfl | exact .inr rfl) (de_ix (de_lst (hm := false) (da_cons de_int (da_cons de_int (da_cons de_int (da_cons de_int (da_cons de_int (da_cons de_int da_nil))))))) (de_call (dds := []) O0 (hr.mono (by omega)) rfl (kn.glo 5) F0.kp B1 .nil (fun _ _ => rfl) tk_of (da_cons (de_var (pv 0)) (da_cons de_int da_nil))) (fun _ _ => rfl)))
    (dss_cons (ds_set (i := 9) sc_law_plant.nd rfl (by first | exact .inl rfl | exact .inr rfl) (de_op (od_add false) (de_var (pv 8)) (de_ix (de_lst (hm := false) (da_cons de_int (da_cons de_int (da_cons de_int (da_cons de_int (da_cons de_int da_nil)))))) (de_call (dds := []) O0 (hr.mono (by omega)) rfl (kn.glo 5) F0.kp B1 .nil (fun _ _ => rfl) tk_of (da_cons (de_var (pv 0)) (da_cons de_int da_nil))) (fun _ _ => rfl))))
    (dss_one (ds_ret (de_tup (da_cons (de_var (pv 1)) (da_cons (de_var (pv 3)) (da_cons (de_var (pv 6)) (da_cons (de_var (pv 4)) (da_cons (de_var (pv 7)) (da_cons (de_var (pv 8)) (da_cons (de_var (pv 9)) (da_cons (de_op (od_add false) (de_var (pv 7)) (de_call (dds := []) O0 (hr.mono (by omega)) rfl (kn.glo 5) F0.kp B1 .nil (fun _ _ => rfl) tk_of (da_cons (de_var (pv 0)) (da_cons de_int da_nil)))) (da_cons de_bl da_nil)))))))))))))))))))
def b_law_line : SM := (sSeq (sAsg (mFn (arity 2 f_law_take) [] (mCons (mVar 0) (mCons (mCall (g1 gLen) (mCons (mVar 2) mNil)) mNil))) (bName 3))
    (sSeq (sAsg (mOp gMod (mOp (gAdd false) (mOp (gAdd false) (mVar 3) (mC (.int 1))) (mFn (arity 2 f_law_take) [] (mCons (mVar 0) (mCons (mOp gSub (mCall (g1 gLen) (mCons (mVar 2) mNil)) (mC (.int 1))) mNil)))) (mCall (g1 gLen) (mCons (mVar 2) mNil))) (bName 4))
    (sSeq (sAsg (mOp gIx (mLst false (mCons (mC (.int 0)) (mCons (mC (.int 0)) (mCons (mC (.int 3)) (mCons (mC (.int 8)) (mCons (mC (.int 12)) (mCons (mC (.int 20)) (mCons (mC (.int 31)) mNil)))))))) (mFn (arity 2 f_law_take) [] (mCons (mVar 0) (mCons (mC (.int 7)) mNil)))) (bName 5))
    (sRet (mTup (mCons (mVar 1) (mCons (mCall (g2 gMinA) (mCons (mOp gIx (mVar 2) (mVar 3)) (mCons (mOp gIx (mVar 2) (mVar 4)) mNil))) (mCons (mCall (g2 gMaxA) (mCons (mOp gIx (mVar 2) (mVar 3)) (mCons (mOp gIx (mVar 2) (mVar 4)) mNil))) (mCons (mVar 5) (mCons (mOp (gAdd false) (mC (.int 1)) (mFn (arity 2 f_law_take) [] (mCons (mVar 0) (mCons (mC (.int 9)) mNil)))) mNil))))))))))
def f_law_line : FM := runF 6 b_law_line
theorem ok_law_line {P : Program} {w : World} {K : PySem.W.Frag} {mg : Str → Option Value} {base : Heap} (kn : Kn K mg) : Has P w K mg base 3 d_law_line ["state", "name", "stations"] f_law_line := by
  obtain ⟨fd0, F0, O0⟩ := ok_law_take (P := P) (w := w) (base := base) kn
  have B1 := FunD.bindsN (ps := ["state", "limit"]) F0 (fun _ _ _ _ _ _ us hl => match us, hl with | [_, _], _ => rfl)
  refine has_def (k := 2) (N := ["state", "name", "stations", "one", "other", "need"]) (d := d_law_line) (kn.c.def_ 3 (d := d_law_line) rfl) sc_law_line fun f cdv A outer s H E hr => ?_
  delta b_law_line
  exact (dss_cons (ds_set (i := 3) sc_law_line.nd rfl (by first | exact .inl rfl | exact .inr rfl) (de_call (dds := []) O0 (hr.mono (by omega)) rfl (kn.glo 5) F0.kp B1 .nil (fun _ _ => rfl) tk_of (da_cons (de_var (pv 0)) (da_cons (de_callB cd_len rfl (kn.free 1) (by decide +kernel) (da_cons (de_var (pv 2)) da_nil)) da_nil))))
    (dss_cons (ds_set (i := 4) sc_law_line.nd rfl (by first | exact .inl rfl | exact .inr rfl) (de_op od_mod (de_op (od_add false) (de_op (od_add false) (de_var (pv 3)) de_int) (de_call (dds := []) O0 (hr.mono (by omega)) rfl (kn.glo 5) F0.kp B1 .nil (fun _ _ => rfl) tk_of (da_cons (de_var (pv 0)) (da_cons (de_op od_sub (de_callB cd_len rfl (kn.free 1) (by decide +kernel) (da_cons (de_var (pv 2)) da_nil)) de_int) da_nil)))) (de_callB cd_len rfl (kn.free 1) (by decide +kernel) (da_cons (de_var (pv 2)) da_nil))))
    (dss_cons (ds_set (i := 5) sc_law_line.nd rfl (by first | exact .inl rfl | exact .inr rfl) (de_ix (de_lst (hm := false) (da_cons de_int (da_cons de_int (da_cons de_int (da_cons de_int (da_cons de_int (da_cons de_int (da_cons de_int da_nil)))))))) (de_call (dds := []) O0 (hr.mono (by omega)) rfl (kn.glo 5) F0.kp B1 .nil (fun _ _ => rfl) tk_of (da_cons (de_var (pv 0)) (da_cons de_int da_nil))) (fun _ _ => rfl)))
    (dss_one (ds_ret (de_tup (da_cons (de_var (pv 1)) (da_cons (de_callB (cd_minA rfl) rfl (kn.free 7) (by decide +kernel) (da_cons (de_ix (de_var (pv 2)) (de_var (pv 3)) (fun _ _ => rfl)) (da_cons (de_ix (de_var (pv 2)) (de_var (pv 4)) (fun _ _ => rfl)) da_nil))) (da_cons (de_callB (cd_maxA rfl) rfl (kn.free 6) (by decide +kernel) (da_cons (de_ix (de_var (pv 2)) (de_var (pv 3)) (fun _ _ => rfl)) (da_cons (de_ix (de_var (pv 2)) (de_var (pv 4)) (fun _ _ => rfl)) da_nil))) (da_cons (de_var (pv 5)) (da_cons (de_op (od_add false) de_int (de_call (dds := []) O0 (hr.mono (by omega)) rfl (kn.glo 5) F0.kp B1 .nil (fun _ _ => rfl) tk_of (da_cons (de_var (pv 0)) (da_cons de_int da_nil)))) da_nil)))))))))))
def b_law_world : SM := (sSeq (sAsg (mSl false (mLst false (mCons (mC (.str "ash")) (mCons (mC (.str "bay")) (mCons (mC (.str "elm")) (mCons (mC (.str "fir")) (mCons (mC (.str "gum")) (mCons (mC (.str "ivy")) mNil))))))) oNone (oSome (mOp (gAdd false) (mC (.int 1)) (mFn (arity 2 f_law_take) [] (mCons (mVar 0) (mCons (mC (.int 6)) mNil)))))) (bName 1))
    (sSeq (sAsg (mLst true mNil) (bName 2))
    (sSeq (sIf (mTest (mOp gGt (mCall (g1 gLen) (mCons (mVar 1) mNil)) (mC (.int 1)))) (sForR1 (mCons (mFn (arity 2 f_law_take) [] (mCons (mVar 0) (mCons (mC (.int 9)) mNil))) mNil) (bName 3) (sDrop (mApp (mVar 2) (mFn (arity 3 f_law_line) [] (mCons (mVar 0) (mCons (mOp (gAdd false) (mC (.str "l")) (mOp gIx (mC (.str "abcdefgh")) (mVar 3))) (mCons (mVar 1) mNil))))))) sNext)
    (sSeq (sAsg (mLst true mNil) (bName 4))
    (sSeq (sForR1 (mCons (mFn (arity 2 f_law_take) [] (mCons (mVar 0) (mCons (mC (.int 6)) mNil))) mNil) (bName 3) (sDrop (mApp (mVar 4) (mFn (arity 3 f_law_plant) [] (mCons (mVar 0) (mCons (mOp (gAdd false) (mC (.str "p")) (mOp gIx (mC (.str "abcde")) (mVar 3))) (mCons (mVar 1) mNil)))))))
    (sRet (mLst false (mCons (mVar 1) (mCons (mFrz (mVar 2)) (mCons (mFrz (mVar 4)) mNil))))))))))
def f_law_world : FM := runF 5 b_law_world
theorem ok_law_world {P : Program} {w : World} {K : PySem.W.Frag} {mg : Str → Option Value} {base : Heap} (kn : Kn K mg) : Has P w K mg base 4 d_law_world ["state"] f_law_world := by
  obtain ⟨fd0, F0, O0⟩ := ok_law_take (P := P) (w := w) (base := base) kn
  have B1 := FunD.bindsN (ps := ["state", "limit"]) F0 (fun _ _ _ _ _ _ us hl => match us, hl with | [_, _], _ => rfl)
  obtain ⟨fd2, F2, O2⟩ := ok_law_line (P := P) (w := w) (base := base) kn
  have B3 := FunD.bindsN (ps := ["state", "name", "stations"]) F2 (fun _ _ _ _ _ _ us hl => match us, hl with | [_, _, _], _ => rfl)
  obtain ⟨fd4, F4, O4⟩ := ok_law_plant (P := P) (w := w) (base := base) kn
  have B5 := FunD.bindsN (ps := ["state", "name", "stations"]) F4 (fun _ _ _ _ _ _ us hl => match us, hl with | [_, _, _], _ => rfl)
  refine has_def (k := 3) (N := ["state", "stations", "lines", "k", "plants"]) (d := d_law_world) (kn.c.def_ 4 (d := d_law_world) rfl) sc_law_world fun f cdv A outer s H E hr => ?_
  delta b_law_world
  exact (dss_cons (ds_set (i := 1) sc_law_world.nd rfl (by first | exact .inl rfl | exact .inr rfl) (de_sl (hm := false) (de_lst (hm := false) (da_cons de_str (da_cons de_str (da_cons de_str (da_cons de_str (da_cons de_str (da_cons de_str da_nil))))))) do_none (do_some (de_op (od_add false) de_int (de_call (dds := []) O0 (hr.mono (by omega)) rfl (kn.glo 5) F0.kp B1 .nil (fun _ _ => rfl) tk_of (da_cons (de_var (pv 0)) (da_cons de_int da_nil)))))))
    (dss_cons (ds_set (i := 2) sc_law_world.nd rfl (by first | exact .inl rfl | exact .inr rfl) (de_lst (hm := true) da_nil))
    (dss_cons (ds_if (dt_cmp od_gt (de_callB cd_len rfl (kn.free 1) (by decide +kernel) (da_cons (de_var (pv 1)) da_nil)) de_int (nomark _)) (dss_one (ds_forR1 own_of rfl rfl (kn.free 9) (da_cons (de_call (dds := []) O0 (hr.mono (by omega)) rfl (kn.glo 5) F0.kp B1 .nil (fun _ _ => rfl) tk_of (da_cons (de_var (pv 0)) (da_cons de_int da_nil))) da_nil) (dg_name (i := 3) sc_law_world.nd rfl (by first | exact .inl rfl | exact .inr rfl)) (dss_one (ds_expr (de_app (de_var (pv 2)) (de_call (dds := []) O2 (hr.mono (by omega)) rfl (kn.glo 8) F2.kp B3 .nil (fun _ _ => rfl) tk_of (da_cons (de_var (pv 0)) (da_cons (de_op (od_add false) de_str (de_ix de_str (de_var (pv 3)) (fun _ _ => rfl))) (da_cons (de_var (pv 1)) da_nil))))))))) dss_nil)
    (dss_cons (ds_set (i := 4) sc_law_world.nd rfl (by first | exact .inl rfl | exact .inr rfl) (de_lst (hm := true) da_nil))
    (dss_cons (ds_forR1 own_of rfl rfl (kn.free 9) (da_cons (de_call (dds := []) O0 (hr.mono (by omega)) rfl (kn.glo 5) F0.kp B1 .nil (fun _ _ => rfl) tk_of (da_cons (de_var (pv 0)) (da_cons de_int da_nil))) da_nil) (dg_name (i := 3) sc_law_world.nd rfl (by first | exact .inl rfl | exact .inr rfl)) (dss_one (ds_expr (de_app (de_var (pv 4)) (de_call (dds := []) O4 (hr.mono (by omega)) rfl (kn.glo 10) F4.kp B5 .nil (fun _ _ => rfl) tk_of (da_cons (de_var (pv 0)) (da_cons (de_op (od_add false) de_str (de_ix de_str (de_var (pv 3)) (fun _ _ => rfl))) (da_cons (de_var (pv 1)) da_nil))))))))
    (dss_one (ds_ret (de_lst (hm := false) (da_cons (de_var (pv 1)) (da_cons (de_frz (de_var (pv 2))) (da_cons (de_frz (de_var (pv 4))) da_nil)))))))))))
def b_land_init : SM := (sSeq (sFldM "Land" "_stations" (mVar 0) (mLst true mNil))
    (sSeq (sFldM "Land" "_lines" (mVar 0) mDNew)
    (sSeq (sFldM "Land" "_plants" (mVar 0) mDNew)
    (sFldM "Land" "_selves" (mVar 0) (mLst true mNil)))))
def f_land_init : FM := runF 1 b_land_init
theorem ok_land_init {P : Program} {w : World} {K : PySem.W.Frag} {mg : Str → Option Value} {base : Heap} (kn : Kn K mg) : Has P w K mg base 1 d_land_init ["self"] f_land_init := by
  refine has_def (k := 0) (N := ["self"]) (d := d_land_init) (kn.c.def_ 5 (d := d_land_init) rfl) sc_land_init fun f cdv A outer s H E hr => ?_
  delta b_land_init
  exact (dss_cons (ds_fld (de_var (pv 0)) (de_lst (hm := true) da_nil) (kn.cls 11) (kn.noat 12))
    (dss_cons (ds_fld (de_var (pv 0)) de_dnew (kn.cls 11) (kn.noat 13))
    (dss_cons (ds_fld (de_var (pv 0)) de_dnew (kn.cls 11) (kn.noat 14))
    (dss_one (ds_fld (de_var (pv 0)) (de_lst (hm := true) da_nil) (kn.cls 11) (kn.noat 15))))))
def b_is_name : SM := (sSeq (sIf (mOr (mNot (mTest (mIsi "str" (mVar 0)))) (mNot (mTest (mChain gLe gLe (mC (.int 1)) (mCall (g1 gLen) (mCons (mVar 0) mNil)) (mC (.int 12)))))) (sRet (mC (.bl false))) sNext)
    (sSeq (sForS (mVar 0) (bName 1) (sIf (mTest (mOp gNotIn (mVar 1) (mC (.str "abcdefghijklmnopqrstuvwxyz")))) (sRet (mC (.bl false))) sNext))
    (sRet (mC (.bl true)))))
def f_is_name : FM := runF 2 b_is_name
theorem ok_is_name {P : Program} {w : World} {K : PySem.W.Frag} {mg : Str → Option Value} {base : Heap} (kn : Kn K mg) : Has P w K mg base 1 d_is_name ["word"] f_is_name := by
  obtain ⟨t0, G0⟩ := kn.int 18 (z := 12)
  obtain ⟨t1, G1⟩ := kn.str 19 (z := "abcdefghijklmnopqrstuvwxyz")
  refine has_def (k := 0) (N := ["word", "sign"]) (d := d_is_name) (kn.c.def_ 6 (d := d_is_name) rfl) sc_is_name fun f cdv A outer s H E hr => ?_
  delta b_is_name
  exact (dss_cons (ds_if (PW.pt (dw_or (dt_not (dt_val (de_isi (T := "str") rfl (kn.free 16) (by decide +kernel) rfl (kn.free 17) (by decide +kernel) (de_var (pv 0))))) (dw_or1 (dt_not (dt_chain od_le od_le de_int (de_callB cd_len rfl (kn.free 1) (by decide +kernel) (da_cons (de_var (pv 0)) da_nil)) (de_c (pe_glob (v := .int 12) rfl G0 ⟨t0, rfl⟩) fun _ _ => rfl)))))) (dss_one (ds_ret de_bl)) dss_nil)
    (dss_cons (ds_forS own_of rfl (de_var (pv 0)) (dg_name (i := 1) sc_is_name.nd rfl (by first | exact .inl rfl | exact .inr rfl)) (dss_one (ds_if (dt_cmp od_notin (de_var (pv 1)) (de_c (pe_glob (v := .str "abcdefghijklmnopqrstuvwxyz") rfl G1 ⟨t1, rfl⟩) fun _ _ => rfl) (by with_unfolding_all rfl)) (dss_one (ds_ret de_bl)) dss_nil)))
    (dss_one (ds_ret de_bl))))
def b_checked_name : SM := (sSeq (sIf (mNot (mTest (mFn (arity 1 f_is_name) [] (mCons (mVar 0) mNil)))) (sRaise "InvalidName" (mCons (mC (.str "no name")) mNil)) sNext)
    (sRet (mVar 0)))
def f_checked_name : FM := runF 1 b_checked_name
theorem ok_checked_name {P : Program} {w : World} {K : PySem.W.Frag} {mg : Str → Option Value} {base : Heap} (kn : Kn K mg) : Has P w K mg base 2 d_checked_name ["word"] f_checked_name := by
  obtain ⟨fd0, F0, O0⟩ := ok_is_name (P := P) (w := w) (base := base) kn
  have B1 := FunD.bindsN (ps := ["word"]) F0 (fun _ _ _ _ _ _ us hl => match us, hl with | [_], _ => rfl)
  refine has_def (k := 1) (N := ["word"]) (d := d_checked_name) (kn.c.def_ 7 (d := d_checked_name) rfl) sc_checked_name fun f cdv A outer s H E hr => ?_
  delta b_checked_name
  exact (dss_cons (ds_if (dt_not (dt_val (de_call (dds := []) O0 (hr.mono (by omega)) rfl (kn.glo 20) F0.kp B1 .nil (fun _ _ => rfl) tk_of (da_cons (de_var (pv 0)) da_nil)))) (dss_one (ds_raise (c := "InvalidName") rfl tk_of PySem.F.excBase_ValueError (kn.exc 21).1 (kn.glo 22) (kn.exc 21).2.1 (raises_own (kn.exc 21).2.2.1 (kn.exc 21).2.2.2) rfl (da_cons de_str da_nil))) dss_nil)
    (dss_one (ds_ret (de_var (pv 0)))))
def b_land_kind : SM := (sSeq (sIf (mTest (mOp gIn (mVar 1) (mFld "Land" "_stations" (mVar 0)))) (sRet (mC (.str "station"))) sNext)
    (sSeq (sIf (mTest (mDIn true (mVar 1) (mFld "Land" "_lines" (mVar 0)))) (sRet (mC (.str "line"))) sNext)
    (sSeq (sIf (mTest (mDIn true (mVar 1) (mFld "Land" "_plants" (mVar 0)))) (sRet (mC (.str "plant"))) sNext)
    (sRet (mC .non)))))
def f_land_kind : FM := runF 2 b_land_kind
theorem ok_land_kind {P : Program} {w : World} {K : PySem.W.Frag} {mg : Str → Option Value} {base : Heap} (kn : Kn K mg) : Has P w K mg base 1 d_land_kind ["self", "word"] f_land_kind := by
  refine has_def (k := 0) (N := ["self", "word"]) (d := d_land_kind) (kn.c.def_ 8 (d := d_land_kind) rfl) sc_land_kind fun f cdv A outer s H E hr => ?_
  delta b_land_kind
  exact (dss_cons (ds_if (dt_cmp od_in (de_var (pv 1)) (de_fld (de_var (pv 0)) (kn.cls 11) (kn.noat 12)) (by with_unfolding_all rfl)) (dss_one (ds_ret de_str)) dss_nil)
    (dss_cons (ds_if (dt_din (un1 hr) (de_var (pv 1)) (de_fld (de_var (pv 0)) (kn.cls 11) (kn.noat 13)) (by with_unfolding_all rfl)) (dss_one (ds_ret de_str)) dss_nil)
    (dss_cons (ds_if (dt_din (un1 hr) (de_var (pv 1)) (de_fld (de_var (pv 0)) (kn.cls 11) (kn.noat 14)) (by with_unfolding_all rfl)) (dss_one (ds_ret de_str)) dss_nil)
    (dss_one (ds_ret de_non)))))
def b_land_free : SM := (sSeq (sDrop (mFn (arity 1 f_checked_name) [] (mCons (mVar 1) mNil)))
    (sIf (mTest (mOp gIsNot (mMeth "Land" "kind" (arity 2 f_land_kind) [] (mVar 0) (mCons (mVar 1) mNil)) (mC .non))) (sRaise "DuplicateName" (mCons (mVar 1) mNil)) sNext))
def f_land_free : FM := runF 2 b_land_free
theorem ok_land_free {P : Program} {w : World} {K : PySem.W.Frag} {mg : Str → Option Value} {base : Heap} (kn : Kn K mg) : Has P w K mg base 3 d_land_free ["self", "word"] f_land_free := by
  obtain ⟨fd0, F0, O0⟩ := ok_checked_name (P := P) (w := w) (base := base) kn
  have B1 := FunD.bindsN (ps := ["word"]) F0 (fun _ _ _ _ _ _ us hl => match us, hl with | [_], _ => rfl)
  obtain ⟨fd2, F2, O2⟩ := ok_land_kind (P := P) (w := w) (base := base) kn
  have B3 := FunD.bindsN (ps := ["self", "word"]) F2 (fun _ _ _ _ _ _ us hl => match us, hl with | [_, _], _ => rfl)
  refine has_def (k := 2) (N := ["self", "word"]) (d := d_land_free) (kn.c.def_ 9 (d := d_land_free) rfl) sc_land_free fun f cdv A outer s H E hr => ?_
  delta b_land_free
  exact (dss_cons (ds_expr (de_call (dds := []) O0 (hr.mono (by omega)) rfl (kn.glo 23) F0.kp B1 .nil (fun _ _ => rfl) tk_of (da_cons (de_var (pv 1)) da_nil)))
    (dss_one (ds_if (dt_cmp od_isnot (de_meth (c := "Land") (dds := []) (de_var (pv 0)) (kn.cls 11) (kn.meth 24) O2 (hr.mono (by omega)) B3 .nil (fun _ _ => rfl) tk_of (da_cons (de_var (pv 1)) da_nil)) de_non (nomark _)) (dss_one (ds_raise (c := "DuplicateName") rfl tk_of PySem.F.excBase_ValueError (kn.exc 25).1 (kn.glo 26) (kn.exc 25).2.1 (raises_own (kn.exc 25).2.2.1 (kn.exc 25).2.2.2) rfl (da_cons (de_var (pv 1)) da_nil))) dss_nil)))
def b_land_room : SM := (sIf (mTest (mOp gGe (mCall (g1 gLen) (mCons (mVar 1) mNil)) (mC (.int 60)))) (sRaise "TooMany" (mCons (mOp (gAdd false) (mC (.str "more than ")) (mCall (g1 gStr) (mCons (mC (.int 60)) mNil))) mNil)) sNext)
def f_land_room : FM := runF 2 b_land_room
theorem ok_land_room {P : Program} {w : World} {K : PySem.W.Frag} {mg : Str → Option Value} {base : Heap} (kn : Kn K mg) : Has P w K mg base 1 d_land_room ["self", "rows"] f_land_room := by
  obtain ⟨t0, G0⟩ := kn.int 27 (z := 60)
  refine has_def (k := 0) (N := ["self", "rows"]) (d := d_land_room) (kn.c.def_ 10 (d := d_land_room) rfl) sc_land_room fun f cdv A outer s H E hr => ?_
  delta b_land_room
  exact (dss_one (ds_if (dt_cmp od_ge (de_callB cd_len rfl (kn.free 1) (by decide +kernel) (da_cons (de_var (pv 1)) da_nil)) (de_c (pe_glob (v := .int 60) rfl G0 ⟨t0, rfl⟩) fun _ _ => rfl) (nomark _)) (dss_one (ds_raise (c := "TooMany") rfl tk_of PySem.F.excBase_ValueError (kn.exc 28).1 (kn.glo 29) (kn.exc 28).2.1 (raises_own (kn.exc 28).2.2.1 (kn.exc 28).2.2.2) rfl (da_cons (de_op (od_add false) de_str (de_callTy cd_str rfl (kn.free 17) (by decide +kernel) (da_cons (de_c (pe_glob (v := .int 60) rfl G0 ⟨t0, rfl⟩) fun _ _ => rfl) da_nil))) da_nil))) dss_nil))
def b_land_add_station : SM := (sSeq (sDrop (mMeth "Land" "_free" (arity 2 f_land_free) [] (mVar 0) (mCons (mVar 1) mNil)))
    (sSeq (sDrop (mMeth "Land" "_room" (arity 2 f_land_room) [] (mVar 0) (mCons (mFld "Land" "_stations" (mVar 0)) mNil)))
    (sFldM "Land" "_stations" (mVar 0) (mCall (g1 (gSorted true)) (mCons (mOp (gAdd false) (mFld "Land" "_stations" (mVar 0)) (mLst false (mCons (mVar 1) mNil))) mNil)))))
def f_land_add_station : FM := runF 2 b_land_add_station
theorem ok_land_add_station {P : Program} {w : World} {K : PySem.W.Frag} {mg : Str → Option Value} {base : Heap} (kn : Kn K mg) : Has P w K mg base 4 d_land_add_station ["self", "word"] f_land_add_station := by
  obtain ⟨fd0, F0, O0⟩ := ok_land_free (P := P) (w := w) (base := base) kn
  have B1 := FunD.bindsN (ps := ["self", "word"]) F0 (fun _ _ _ _ _ _ us hl => match us, hl with | [_, _], _ => rfl)
  obtain ⟨fd2, F2, O2⟩ := ok_land_room (P := P) (w := w) (base := base) kn
  have B3 := FunD.bindsN (ps := ["self", "rows"]) F2 (fun _ _ _ _ _ _ us hl => match us, hl with | [_, _], _ => rfl)
  refine has_def (k := 3) (N := ["self", "word"]) (d := d_land_add_station) (kn.c.def_ 11 (d := d_land_add_station) rfl) sc_land_add_station fun f cdv A outer s H E hr => ?_
  delta b_land_add_station
  exact (dss_cons (ds_expr (de_meth (c := "Land") (dds := []) (de_var (pv 0)) (kn.cls 11) (kn.meth 30) O0 (hr.mono (by omega)) B1 .nil (fun _ _ => rfl) tk_of (da_cons (de_var (pv 1)) da_nil)))
    (dss_cons (ds_expr (de_meth (c := "Land") (dds := []) (de_var (pv 0)) (kn.cls 11) (kn.meth 31) O2 (hr.mono (by omega)) B3 .nil (fun _ _ => rfl) tk_of (da_cons (de_fld (de_var (pv 0)) (kn.cls 11) (kn.noat 12)) da_nil)))
    (dss_one (ds_fld (de_var (pv 0)) (de_callB (cd_sorted true rfl) rfl (kn.free 32) (by decide +kernel) (da_cons (de_op (od_add false) (de_fld (de_var (pv 0)) (kn.cls 11) (kn.noat 12)) (de_lst (hm := false) (da_cons (de_var (pv 1)) da_nil))) da_nil)) (kn.cls 11) (kn.noat 12)))))
def b_land_there : SM := (sIf (mTest (mOp gNotIn (mVar 1) (mFld "Land" "_stations" (mVar 0)))) (sRaise "UnknownName" (mCons (mC (.str "station")) mNil)) sNext)
def f_land_there : FM := runF 2 b_land_there
theorem ok_land_there {P : Program} {w : World} {K : PySem.W.Frag} {mg : Str → Option Value} {base : Heap} (kn : Kn K mg) : Has P w K mg base 1 d_land_there ["self", "word"] f_land_there := by
  refine has_def (k := 0) (N := ["self", "word"]) (d := d_land_there) (kn.c.def_ 12 (d := d_land_there) rfl) sc_land_there fun f cdv A outer s H E hr => ?_
  delta b_land_there
  exact (dss_one (ds_if (dt_cmp od_notin (de_var (pv 1)) (de_fld (de_var (pv 0)) (kn.cls 11) (kn.noat 12)) (by with_unfolding_all rfl)) (dss_one (ds_raise (c := "UnknownName") rfl tk_of PySem.F.excBase_ValueError (kn.exc 33).1 (kn.glo 34) (kn.exc 33).2.1 (raises_own (kn.exc 33).2.2.1 (kn.exc 33).2.2.2) rfl (da_cons de_str da_nil))) dss_nil))
def b_is_number : SM := (sSeq (sIf (mOr (mTest (mIsi "bool" (mVar 0))) (mNot (mTest (mIsi "int" (mVar 0))))) (sRet (mC (.bl false))) sNext)
    (sRet (mChain gLe gLe (mVar 1) (mVar 0) (mVar 2))))
def f_is_number : FM := runF 3 b_is_number
theorem ok_is_number {P : Program} {w : World} {K : PySem.W.Frag} {mg : Str → Option Value} {base : Heap} (kn : Kn K mg) : Has P w K mg base 1 d_is_number ["value", "least", "most"] f_is_number := by
  refine has_def (k := 0) (N := ["value", "least", "most"]) (d := d_is_number) (kn.c.def_ 13 (d := d_is_number) rfl) sc_is_number fun f cdv A outer s H E hr => ?_
  delta b_is_number
  exact (dss_cons (ds_if (PW.pt (dw_or (dt_val (de_isi (T := "bool") rfl (kn.free 16) (by decide +kernel) rfl (kn.free 35) (by decide +kernel) (de_var (pv 0)))) (dw_or1 (dt_not (dt_val (de_isi (T := "int") rfl (kn.free 16) (by decide +kernel) rfl (kn.free 2) (by decide +kernel) (de_var (pv 0)))))))) (dss_one (ds_ret de_bl)) dss_nil)
    (dss_one (ds_ret (de_chain od_le od_le (de_var (pv 1)) (de_var (pv 0)) (de_var (pv 2))))))
def b_checked_number : SM := (sSeq (sIf (mNot (mTest (mFn (arity 3 f_is_number) [] (mCons (mVar 0) (mCons (mVar 1) (mCons (mVar 2) mNil)))))) (sRaise "InvalidNumber" (mCons (mOp (gAdd false) (mOp (gAdd false) (mOp (gAdd false) (mC (.str "no number from ")) (mCall (g1 gStr) (mCons (mVar 1) mNil))) (mC (.str " to "))) (mCall (g1 gStr) (mCons (mVar 2) mNil))) mNil)) sNext)
    (sRet (mVar 0)))
def f_checked_number : FM := runF 3 b_checked_number
theorem ok_checked_number {P : Program} {w : World} {K : PySem.W.Frag} {mg : Str → Option Value} {base : Heap} (kn : Kn K mg) : Has P w K mg base 2 d_checked_number ["value", "least", "most"] f_checked_number := by
  obtain ⟨fd0, F0, O0⟩ := ok_is_number (P := P) (w := w) (base := base) kn
  obtain ⟨ds1, V1, B1⟩ := FunD.binds1 (ps := ["value", "least", "most"]) F0 3 2 (by intro z; cases z) rfl (fun T kV doc pm an cdv ct us its h1 h2 => match us, its, h1, h2 with | [_, _, _], [_, _], _, _ => ⟨_, rfl, rfl⟩)
  refine has_def (k := 1) (N := ["value", "least", "most"]) (d := d_checked_number) (kn.c.def_ 14 (d := d_checked_number) rfl) sc_checked_number fun f cdv A outer s H E hr => ?_
  delta b_checked_number
  exact (dss_cons (ds_if (dt_not (dt_val (de_call (dds := []) O0 (hr.mono (by omega)) rfl (kn.glo 36) F0.kp B1 V1 (fun _ _ => rfl) tk_of (da_cons (de_var (pv 0)) (da_cons (de_var (pv 1)) (da_cons (de_var (pv 2)) da_nil)))))) (dss_one (ds_raise (c := "InvalidNumber") rfl tk_of PySem.F.excBase_ValueError (kn.exc 37).1 (kn.glo 38) (kn.exc 37).2.1 (raises_own (kn.exc 37).2.2.1 (kn.exc 37).2.2.2) rfl (da_cons (de_op (od_add false) (de_op (od_add false) (de_op (od_add false) de_str (de_callTy cd_str rfl (kn.free 17) (by decide +kernel) (da_cons (de_var (pv 1)) da_nil))) de_str) (de_callTy cd_str rfl (kn.free 17) (by decide +kernel) (da_cons (de_var (pv 2)) da_nil))) da_nil))) dss_nil)
    (dss_one (ds_ret (de_var (pv 0)))))
def b_land_add_line : SM := (sSeq (sDrop (mMeth "Land" "_free" (arity 2 f_land_free) [] (mVar 0) (mCons (mVar 1) mNil)))
    (sSeq (sDrop (mMeth "Land" "_there" (arity 2 f_land_there) [] (mVar 0) (mCons (mVar 2) mNil)))
    (sSeq (sDrop (mMeth "Land" "_there" (arity 2 f_land_there) [] (mVar 0) (mCons (mVar 3) mNil)))
    (sSeq (sIf (mTest (mOp gEq (mVar 2) (mVar 3))) (sRaise "SameStation" (mCons (mVar 2) mNil)) sNext)
    (sSeq (sDrop (mFn (arity 3 f_checked_number) [.int 0, .int 1000000] (mCons (mVar 4) mNil)))
    (sSeq (sDrop (mFn (arity 3 f_checked_number) [.int 1000000] (mCons (mVar 5) (mCons (mC (.int 1)) mNil))))
    (sSeq (sDrop (mMeth "Land" "_room" (arity 2 f_land_room) [] (mVar 0) (mCons (mFld "Land" "_lines" (mVar 0)) mNil)))
    (sDPutM (mFld "Land" "_lines" (mVar 0)) (mVar 1) (mTup (mCons (mCall (g2 gMinA) (mCons (mVar 2) (mCons (mVar 3) mNil))) (mCons (mCall (g2 gMaxA) (mCons (mVar 2) (mCons (mVar 3) mNil))) (mCons (mVar 4) (mCons (mVar 5) mNil)))))))))))))
def f_land_add_line : FM := runF 6 b_land_add_line
theorem ok_land_add_line {P : Program} {w : World} {K : PySem.W.Frag} {mg : Str → Option Value} {base : Heap} (kn : Kn K mg) : Has P w K mg base 4 d_land_add_line ["self", "word", "one", "other", "need", "minutes"] f_land_add_line := by
  obtain ⟨fd0, F0, O0⟩ := ok_land_free (P := P) (w := w) (base := base) kn
  have B1 := FunD.bindsN (ps := ["self", "word"]) F0 (fun _ _ _ _ _ _ us hl => match us, hl with | [_, _], _ => rfl)
  obtain ⟨fd2, F2, O2⟩ := ok_land_there (P := P) (w := w) (base := base) kn
  have B3 := FunD.bindsN (ps := ["self", "word"]) F2 (fun _ _ _ _ _ _ us hl => match us, hl with | [_, _], _ => rfl)
  obtain ⟨fd4, F4, O4⟩ := ok_checked_number (P := P) (w := w) (base := base) kn
  obtain ⟨ds5, V5, B5⟩ := FunD.binds1 (ps := ["value", "least", "most"]) F4 1 0 (by intro z; cases z) rfl (fun T kV doc pm an cdv ct us its h1 h2 => match us, its, h1, h2 with | [_], [_, _], _, _ => ⟨_, rfl, rfl⟩)
  obtain ⟨ds6, V6, B6⟩ := FunD.binds1 (ps := ["value", "least", "most"]) F4 2 1 (by intro z; cases z) rfl (fun T kV doc pm an cdv ct us its h1 h2 => match us, its, h1, h2 with | [_, _], [_, _], _, _ => ⟨_, rfl, rfl⟩)
  obtain ⟨fd7, F7, O7⟩ := ok_land_room (P := P) (w := w) (base := base) kn
  have B8 := FunD.bindsN (ps := ["self", "rows"]) F7 (fun _ _ _ _ _ _ us hl => match us, hl with | [_, _], _ => rfl)
  refine has_def (k := 3) (N := ["self", "word", "one", "other", "need", "minutes"]) (d := d_land_add_line) (kn.c.def_ 15 (d := d_land_add_line) rfl) sc_land_add_line fun f cdv A outer s H E hr => ?_
  delta b_land_add_line
  exact (dss_cons (ds_expr (de_meth (c := "Land") (dds := []) (de_var (pv 0)) (kn.cls 11) (kn.meth 30) O0 (hr.mono (by omega)) B1 .nil (fun _ _ => rfl) tk_of (da_cons (de_var (pv 1)) da_nil)))
    (dss_cons (ds_expr (de_meth (c := "Land") (dds := []) (de_var (pv 0)) (kn.cls 11) (kn.meth 39) O2 (hr.mono (by omega)) B3 .nil (fun _ _ => rfl) tk_of (da_cons (de_var (pv 2)) da_nil)))
    (dss_cons (ds_expr (de_meth (c := "Land") (dds := []) (de_var (pv 0)) (kn.cls 11) (kn.meth 39) O2 (hr.mono (by omega)) B3 .nil (fun _ _ => rfl) tk_of (da_cons (de_var (pv 3)) da_nil)))
    (dss_cons (ds_if (dt_cmp (od_eq hr.units) (de_var (pv 2)) (de_var (pv 3)) (nomark _)) (dss_one (ds_raise (c := "SameStation") rfl tk_of PySem.F.excBase_ValueError (kn.exc 40).1 (kn.glo 41) (kn.exc 40).2.1 (raises_own (kn.exc 40).2.2.1 (kn.exc 40).2.2.2) rfl (da_cons (de_var (pv 2)) da_nil))) dss_nil)
    (dss_cons (ds_expr (de_call (dds := [.int 0, .int 1000000]) O4 (hr.mono (by omega)) rfl (kn.glo 42) F4.kp B5 V5 (fun _ _ => ⟨_, _, rfl, rfl, ⟨_, _, rfl, rfl, rfl⟩⟩) tk_of (da_cons (de_var (pv 4)) da_nil)))
    (dss_cons (ds_expr (de_call (dds := [.int 1000000]) O4 (hr.mono (by omega)) rfl (kn.glo 42) F4.kp B6 V6 (fun _ _ => ⟨_, _, rfl, rfl, rfl⟩) tk_of (da_cons (de_var (pv 5)) (da_cons de_int da_nil))))
    (dss_cons (ds_expr (de_meth (c := "Land") (dds := []) (de_var (pv 0)) (kn.cls 11) (kn.meth 31) O7 (hr.mono (by omega)) B8 .nil (fun _ _ => rfl) tk_of (da_cons (de_fld (de_var (pv 0)) (kn.cls 11) (kn.noat 13)) da_nil)))
    (dss_one (ds_dput (un1 hr) (de_fld (de_var (pv 0)) (kn.cls 11) (kn.noat 13)) (de_var (pv 1)) (de_tup (da_cons (de_callB (cd_minA rfl) rfl (kn.free 7) (by decide +kernel) (da_cons (de_var (pv 2)) (da_cons (de_var (pv 3)) da_nil))) (da_cons (de_callB (cd_maxA rfl) rfl (kn.free 6) (by decide +kernel) (da_cons (de_var (pv 2)) (da_cons (de_var (pv 3)) da_nil))) (da_cons (de_var (pv 4)) (da_cons (de_var (pv 5)) da_nil))))))))))))))
def b_land_add_self : SM := (sSeq (sDrop (mMeth "Land" "_free" (arity 2 f_land_free) [] (mVar 0) (mCons (mVar 1) mNil)))
    (sSeq (sDrop (mMeth "Land" "_there" (arity 2 f_land_there) [] (mVar 0) (mCons (mVar 2) mNil)))
    (sSeq (sDrop (mFn (arity 3 f_checked_number) [.int 0, .int 1000000] (mCons (mVar 3) mNil)))
    (sSeq (sDrop (mFn (arity 3 f_checked_number) [.int 1000000] (mCons (mVar 4) (mCons (mC (.int 1)) mNil))))
    (sSeq (sDrop (mMeth "Land" "_room" (arity 2 f_land_room) [] (mVar 0) (mCons (mFld "Land" "_plants" (mVar 0)) mNil)))
    (sSeq (sDPutM (mFld "Land" "_plants" (mVar 0)) (mVar 1) (mTup (mCons (mVar 2) (mCons (mC (.int 0)) (mCons (mVar 3) (mCons (mVar 4) (mCons (mC (.int 1000000)) (mCons (mC (.int 1000000)) (mCons (mVar 4) mNil)))))))))
    (sDrop (mApp (mFld "Land" "_selves" (mVar 0)) (mVar 1)))))))))
def f_land_add_self : FM := runF 5 b_land_add_self
theorem ok_land_add_self {P : Program} {w : World} {K : PySem.W.Frag} {mg : Str → Option Value} {base : Heap} (kn : Kn K mg) : Has P w K mg base 4 d_land_add_self ["self", "word", "station", "gives", "minutes"] f_land_add_self := by
  obtain ⟨fd0, F0, O0⟩ := ok_land_free (P := P) (w := w) (base := base) kn
  have B1 := FunD.bindsN (ps := ["self", "word"]) F0 (fun _ _ _ _ _ _ us hl => match us, hl with | [_, _], _ => rfl)
  obtain ⟨fd2, F2, O2⟩ := ok_land_there (P := P) (w := w) (base := base) kn
  have B3 := FunD.bindsN (ps := ["self", "word"]) F2 (fun _ _ _ _ _ _ us hl => match us, hl with | [_, _], _ => rfl)
  obtain ⟨fd4, F4, O4⟩ := ok_checked_number (P := P) (w := w) (base := base) kn
  obtain ⟨ds5, V5, B5⟩ := FunD.binds1 (ps := ["value", "least", "most"]) F4 1 0 (by intro z; cases z) rfl (fun T kV doc pm an cdv ct us its h1 h2 => match us, its, h1, h2 with | [_], [_, _], _, _ => ⟨_, rfl, rfl⟩)
  obtain ⟨ds6, V6, B6⟩ := FunD.binds1 (ps := ["value", "least", "most"]) F4 2 1 (by intro z; cases z) rfl (fun T kV doc pm an cdv ct us its h1 h2 => match us, its, h1, h2 with | [_, _], [_, _], _, _ => ⟨_, rfl, rfl⟩)
  obtain ⟨fd7, F7, O7⟩ := ok_land_room (P := P) (w := w) (base := base) kn
  have B8 := FunD.bindsN (ps := ["self", "rows"]) F7 (fun _ _ _ _ _ _ us hl => match us, hl with | [_, _], _ => rfl)
  obtain ⟨t9, G9⟩ := kn.int 43 (z := 1000000)
  refine has_def (k := 3) (N := ["self", "word", "station", "gives", "minutes"]) (d := d_land_add_self) (kn.c.def_ 16 (d := d_land_add_self) rfl) sc_land_add_self fun f cdv A outer s H E hr => ?_
  delta b_land_add_self
  exact (dss_cons (ds_expr (de_meth (c := "Land") (dds := []) (de_var (pv 0)) (kn.cls 11) (kn.meth 30) O0 (hr.mono (by omega)) B1 .nil (fun _ _ => rfl) tk_of (da_cons (de_var (pv 1)) da_nil)))
    (dss_cons (ds_expr (de_meth (c := "Land") (dds := []) (de_var (pv 0)) (kn.cls 11) (kn.meth 39) O2 (hr.mono (by omega)) B3 .nil (fun _ _ => rfl) tk_of (da_cons (de_var (pv 2)) da_nil)))
    (dss_cons (ds_expr (de_call (dds := [.int 0, .int 1000000]) O4 (hr.mono (by omega)) rfl (kn.glo 42) F4.kp B5 V5 (fun _ _ => ⟨_, _, rfl, rfl, ⟨_, _, rfl, rfl, rfl⟩⟩) tk_of (da_cons (de_var (pv 3)) da_nil)))
    (dss_cons (ds_expr (de_call (dds := [.int 1000000]) O4 (hr.mono (by omega)) rfl (kn.glo 42) F4.kp B6 V6 (fun _ _ => ⟨_, _, rfl, rfl, rfl⟩) tk_of (da_cons (de_var (pv 4)) (da_cons de_int da_nil))))
    (dss_cons (ds_expr (de_meth (c := "Land") (dds := []) (de_var (pv 0)) (kn.cls 11) (kn.meth 31) O7 (hr.mono (by omega)) B8 .nil (fun _ _ => rfl) tk_of (da_cons (de_fld (de_var (pv 0)) (kn.cls 11) (kn.noat 14)) da_nil)))
    (dss_cons (ds_dput (un1 hr) (de_fld (de_var (pv 0)) (kn.cls 11) (kn.noat 14)) (de_var (pv 1)) (de_tup (da_cons (de_var (pv 2)) (da_cons de_int (da_cons (de_var (pv 3)) (da_cons (de_var (pv 4)) (da_cons (de_c (pe_glob (v := .int 1000000) rfl G9 ⟨t9, rfl⟩) fun _ _ => rfl) (da_cons (de_c (pe_glob (v := .int 1000000) rfl G9 ⟨t9, rfl⟩) fun _ _ => rfl) (da_cons (de_var (pv 4)) da_nil)))))))))
    (dss_one (ds_expr (de_app (de_fld (de_var (pv 0)) (kn.cls 11) (kn.noat 15)) (de_var (pv 1)))))))))))
def b_land_add_plant : SM := (sSeq (sDrop (mMeth "Land" "_free" (arity 2 f_land_free) [] (mVar 0) (mCons (mVar 1) mNil)))
    (sSeq (sDrop (mMeth "Land" "_there" (arity 2 f_land_there) [] (mVar 0) (mCons (mVar 2) mNil)))
    (sSeq (sForT (mTup (mCons (mVar 3) (mCons (mVar 4) mNil))) (bName 9) (sDrop (mFn (arity 3 f_checked_number) [.int 0, .int 1000000] (mCons (mVar 9) mNil))))
    (sSeq (sDrop (mFn (arity 3 f_checked_number) [.int 1000000] (mCons (mVar 5) (mCons (mC (.int 1)) mNil))))
    (sSeq (sDrop (mFn (arity 3 f_checked_number) [.int 0, .int 1000000] (mCons (mVar 6) mNil)))
    (sSeq (sDrop (mFn (arity 3 f_checked_number) [.int 0, .int 1000000] (mCons (mVar 7) mNil)))
    (sSeq (sDrop (mFn (arity 3 f_checked_number) [.int 1000000] (mCons (mVar 8) (mCons (mC (.int 1)) mNil))))
    (sSeq (sIf (mOr (mTest (mOp gLt (mVar 8) (mVar 5))) (mTest (mOp gLt (mVar 7) (mVar 6)))) (sRaise "InvalidNumber" (mCons (mC (.str "slow below quick, or cool below hot")) mNil)) sNext)
    (sSeq (sDrop (mMeth "Land" "_room" (arity 2 f_land_room) [] (mVar 0) (mCons (mFld "Land" "_plants" (mVar 0)) mNil)))
    (sDPutM (mFld "Land" "_plants" (mVar 0)) (mVar 1) (mTup (mCons (mVar 2) (mCons (mVar 3) (mCons (mVar 4) (mCons (mVar 5) (mCons (mVar 6) (mCons (mVar 7) (mCons (mVar 8) mNil))))))))))))))))))
def f_land_add_plant : FM := runF 10 b_land_add_plant
theorem ok_land_add_plant {P : Program} {w : World} {K : PySem.W.Frag} {mg : Str → Option Value} {base : Heap} (kn : Kn K mg) : Has P w K mg base 4 d_land_add_plant ["self", "word", "station", "need", "gives", "quick", "hot", "cool", "slow"] f_land_add_plant := by
  obtain ⟨fd0, F0, O0⟩ := ok_land_free (P := P) (w := w) (base := base) kn
  have B1 := FunD.bindsN (ps := ["self", "word"]) F0 (fun _ _ _ _ _ _ us hl => match us, hl with | [_, _], _ => rfl)
  obtain ⟨fd2, F2, O2⟩ := ok_land_there (P := P) (w := w) (base := base) kn
  have B3 := FunD.bindsN (ps := ["self", "word"]) F2 (fun _ _ _ _ _ _ us hl => match us, hl with | [_, _], _ => rfl)
  obtain ⟨fd4, F4, O4⟩ := ok_checked_number (P := P) (w := w) (base := base) kn
  obtain ⟨ds5, V5, B5⟩ := FunD.binds1 (ps := ["value", "least", "most"]) F4 1 0 (by intro z; cases z) rfl (fun T kV doc pm an cdv ct us its h1 h2 => match us, its, h1, h2 with | [_], [_, _], _, _ => ⟨_, rfl, rfl⟩)
  obtain ⟨ds6, V6, B6⟩ := FunD.binds1 (ps := ["value", "least", "most"]) F4 2 1 (by intro z; cases z) rfl (fun T kV doc pm an cdv ct us its h1 h2 => match us, its, h1, h2 with | [_, _], [_, _], _, _ => ⟨_, rfl, rfl⟩)
  obtain ⟨fd7, F7, O7⟩ := ok_land_room (P := P) (w := w) (base := base) kn
  have B8 := FunD.bindsN (ps := ["self", "rows"]) F7 (fun _ _ _ _ _ _ us hl => match us, hl with | [_, _], _ => rfl)
  refine has_def (k := 3) (N := ["self", "word", "station", "need", "gives", "quick", "hot", "cool", "slow", "value"]) (d := d_land_add_plant) (kn.c.def_ 17 (d := d_land_add_plant) rfl) sc_land_add_plant fun f cdv A outer s H E hr => ?_
  delta b_land_add_plant
  exact (dss_cons (ds_expr (de_meth (c := "Land") (dds := []) (de_var (pv 0)) (kn.cls 11) (kn.meth 30) O0 (hr.mono (by omega)) B1 .nil (fun _ _ => rfl) tk_of (da_cons (de_var (pv 1)) da_nil)))
    (dss_cons (ds_expr (de_meth (c := "Land") (dds := []) (de_var (pv 0)) (kn.cls 11) (kn.meth 39) O2 (hr.mono (by omega)) B3 .nil (fun _ _ => rfl) tk_of (da_cons (de_var (pv 2)) da_nil)))
    (dss_cons (ds_forT own_of rfl (de_tup (da_cons (de_var (pv 3)) (da_cons (de_var (pv 4)) da_nil))) (dg_name (i := 9) sc_land_add_plant.nd rfl (by first | exact .inl rfl | exact .inr rfl)) (dss_one (ds_expr (de_call (dds := [.int 0, .int 1000000]) O4 (hr.mono (by omega)) rfl (kn.glo 42) F4.kp B5 V5 (fun _ _ => ⟨_, _, rfl, rfl, ⟨_, _, rfl, rfl, rfl⟩⟩) tk_of (da_cons (de_var (pv 9)) da_nil)))))
    (dss_cons (ds_expr (de_call (dds := [.int 1000000]) O4 (hr.mono (by omega)) rfl (kn.glo 42) F4.kp B6 V6 (fun _ _ => ⟨_, _, rfl, rfl, rfl⟩) tk_of (da_cons (de_var (pv 5)) (da_cons de_int da_nil))))
    (dss_cons (ds_expr (de_call (dds := [.int 0, .int 1000000]) O4 (hr.mono (by omega)) rfl (kn.glo 42) F4.kp B5 V5 (fun _ _ => ⟨_, _, rfl, rfl, ⟨_, _, rfl, rfl, rfl⟩⟩) tk_of (da_cons (de_var (pv 6)) da_nil)))
    (dss_cons (ds_expr (de_call (dds := [.int 0, .int 1000000]) O4 (hr.mono (by omega)) rfl (kn.glo 42) F4.kp B5 V5 (fun _ _ => ⟨_, _, rfl, rfl, ⟨_, _, rfl, rfl, rfl⟩⟩) tk_of (da_cons (de_var (pv 7)) da_nil)))
    (dss_cons (ds_expr (de_call (dds := [.int 1000000]) O4 (hr.mono (by omega)) rfl (kn.glo 42) F4.kp B6 V6 (fun _ _ => ⟨_, _, rfl, rfl, rfl⟩) tk_of (da_cons (de_var (pv 8)) (da_cons de_int da_nil))))
    (dss_cons (ds_if (PW.pt (dw_or (dt_cmp od_lt (de_var (pv 8)) (de_var (pv 5)) (nomark _)) (dw_or1 (dt_cmp od_lt (de_var (pv 7)) (de_var (pv 6)) (nomark _))))) (dss_one (ds_raise (c := "InvalidNumber") rfl tk_of PySem.F.excBase_ValueError (kn.exc 37).1 (kn.glo 38) (kn.exc 37).2.1 (raises_own (kn.exc 37).2.2.1 (kn.exc 37).2.2.2) rfl (da_cons de_str da_nil))) dss_nil)
    (dss_cons (ds_expr (de_meth (c := "Land") (dds := []) (de_var (pv 0)) (kn.cls 11) (kn.meth 31) O7 (hr.mono (by omega)) B8 .nil (fun _ _ => rfl) tk_of (da_cons (de_fld (de_var (pv 0)) (kn.cls 11) (kn.noat 14)) da_nil)))
    (dss_one (ds_dput (un1 hr) (de_fld (de_var (pv 0)) (kn.cls 11) (kn.noat 14)) (de_var (pv 1)) (de_tup (da_cons (de_var (pv 2)) (da_cons (de_var (pv 3)) (da_cons (de_var (pv 4)) (da_cons (de_var (pv 5)) (da_cons (de_var (pv 6)) (da_cons (de_var (pv 7)) (da_cons (de_var (pv 8)) da_nil)))))))))))))))))))
def b_law_build : SM := (sSeq (sAsg (mMake "Land" (arity 1 f_land_init) [] mNil) (bName 1))
    (sSeq (sForL (mOp gIx (mVar 0) (mC (.int 0))) (bName 2) (sDrop (mMeth "Land" "add_station" (arity 2 f_land_add_station) [] (mVar 1) (mCons (mVar 2) mNil))))
    (sSeq (sForL (mOp gIx (mVar 0) (mC (.int 1))) (bTup 5 (bCons (bName 2) (bCons (bName 3) (bCons (bName 4) (bCons (bName 5) (bCons (bName 6) bNil)))))) (sDrop (mMeth "Land" "add_line" (arity 6 f_land_add_line) [] (mVar 1) (mCons (mVar 2) (mCons (mVar 3) (mCons (mVar 4) (mCons (mVar 5) (mCons (mVar 6) mNil))))))))
    (sSeq (sForL (mOp gIx (mVar 0) (mC (.int 2))) (bTup 9 (bCons (bName 2) (bCons (bName 7) (bCons (bName 5) (bCons (bName 8) (bCons (bName 9) (bCons (bName 10) (bCons (bName 11) (bCons (bName 12) (bCons (bName 13) bNil)))))))))) (sIf (mTru (mVar 13)) (sDrop (mMeth "Land" "add_self" (arity 5 f_land_add_self) [] (mVar 1) (mCons (mVar 2) (mCons (mVar 7) (mCons (mVar 8) (mCons (mVar 9) mNil)))))) (sDrop (mMeth "Land" "add_plant" (arity 9 f_land_add_plant) [] (mVar 1) (mCons (mVar 2) (mCons (mVar 7) (mCons (mVar 5) (mCons (mVar 8) (mCons (mVar 9) (mCons (mVar 10) (mCons (mVar 11) (mCons (mVar 12) mNil))))))))))))
    (sRet (mVar 1))))))
def f_law_build : FM := runF 14 b_law_build
theorem ok_law_build {P : Program} {w : World} {K : PySem.W.Frag} {mg : Str → Option Value} {base : Heap} (kn : Kn K mg) : Has P w K mg base 5 d_law_build ["world"] f_law_build := by
  obtain ⟨fd0, F0, O0⟩ := ok_land_init (P := P) (w := w) (base := base) kn
  have B1 := FunD.bindsN (ps := ["self"]) F0 (fun _ _ _ _ _ _ us hl => match us, hl with | [_], _ => rfl)
  obtain ⟨fd2, F2, O2⟩ := ok_land_add_station (P := P) (w := w) (base := base) kn
  have B3 := FunD.bindsN (ps := ["self", "word"]) F2 (fun _ _ _ _ _ _ us hl => match us, hl with | [_, _], _ => rfl)
  obtain ⟨fd4, F4, O4⟩ := ok_land_add_line (P := P) (w := w) (base := base) kn
  have B5 := FunD.bindsN (ps := ["self", "word", "one", "other", "need", "minutes"]) F4 (fun _ _ _ _ _ _ us hl => match us, hl with | [_, _, _, _, _, _], _ => rfl)
  obtain ⟨fd6, F6, O6⟩ := ok_land_add_self (P := P) (w := w) (base := base) kn
  have B7 := FunD.bindsN (ps := ["self", "word", "station", "gives", "minutes"]) F6 (fun _ _ _ _ _ _ us hl => match us, hl with | [_, _, _, _, _], _ => rfl)
  obtain ⟨fd8, F8, O8⟩ := ok_land_add_plant (P := P) (w := w) (base := base) kn
  have B9 := FunD.bindsN (ps := ["self", "word", "station", "need", "gives", "quick", "hot", "cool", "slow"]) F8 (fun _ _ _ _ _ _ us hl => match us, hl with | [_, _, _, _, _, _, _, _, _], _ => rfl)
  refine has_def (k := 4) (N := ["world", "land", "name", "one", "other", "need", "minutes", "station", "gives", "quick", "hot", "cool", "slow", "alone"]) (d := d_law_build) (kn.c.def_ 18 (d := d_law_build) rfl) sc_law_build fun f cdv A outer s H E hr => ?_
  delta b_law_build
  exact (dss_cons (ds_set (i := 1) sc_law_build.nd rfl (by first | exact .inl rfl | exact .inr rfl) (de_make0 (c := "Land") (dds := []) (kn.mkr 45) O0 (hr.mono (by omega)) rfl (kn.glo 44) B1 .nil (fun _ _ => rfl) tk_of))
    (dss_cons (ds_forL own_of rfl (de_ix (de_var (pv 0)) de_int (fun _ _ => rfl)) (dg_name (i := 2) sc_law_build.nd rfl (by first | exact .inl rfl | exact .inr rfl)) (dss_one (ds_expr (de_meth (c := "Land") (dds := []) (de_var (pv 1)) (kn.cls 11) (kn.meth 46) O2 (hr.mono (by omega)) B3 .nil (fun _ _ => rfl) tk_of (da_cons (de_var (pv 2)) da_nil)))))
    (dss_cons (ds_forL own_of rfl (de_ix (de_var (pv 0)) de_int (fun _ _ => rfl)) (dg_tup rfl (dgs_cons (dg_name (i := 2) sc_law_build.nd rfl (by first | exact .inl rfl | exact .inr rfl)) (dgs_cons (dg_name (i := 3) sc_law_build.nd rfl (by first | exact .inl rfl | exact .inr rfl)) (dgs_cons (dg_name (i := 4) sc_law_build.nd rfl (by first | exact .inl rfl | exact .inr rfl)) (dgs_cons (dg_name (i := 5) sc_law_build.nd rfl (by first | exact .inl rfl | exact .inr rfl)) (dgs_cons (dg_name (i := 6) sc_law_build.nd rfl (by first | exact .inl rfl | exact .inr rfl)) dgs_nil)))))) (dss_one (ds_expr (de_meth (c := "Land") (dds := []) (de_var (pv 1)) (kn.cls 11) (kn.meth 47) O4 (hr.mono (by omega)) B5 .nil (fun _ _ => rfl) tk_of (da_cons (de_var (pv 2)) (da_cons (de_var (pv 3)) (da_cons (de_var (pv 4)) (da_cons (de_var (pv 5)) (da_cons (de_var (pv 6)) da_nil)))))))))
    (dss_cons (ds_forL own_of rfl (de_ix (de_var (pv 0)) de_int (fun _ _ => rfl)) (dg_tup rfl (dgs_cons (dg_name (i := 2) sc_law_build.nd rfl (by first | exact .inl rfl | exact .inr rfl)) (dgs_cons (dg_name (i := 7) sc_law_build.nd rfl (by first | exact .inl rfl | exact .inr rfl)) (dgs_cons (dg_name (i := 5) sc_law_build.nd rfl (by first | exact .inl rfl | exact .inr rfl)) (dgs_cons (dg_name (i := 8) sc_law_build.nd rfl (by first | exact .inl rfl | exact .inr rfl)) (dgs_cons (dg_name (i := 9) sc_law_build.nd rfl (by first | exact .inl rfl | exact .inr rfl)) (dgs_cons (dg_name (i := 10) sc_law_build.nd rfl (by first | exact .inl rfl | exact .inr rfl)) (dgs_cons (dg_name (i := 11) sc_law_build.nd rfl (by first | exact .inl rfl | exact .inr rfl)) (dgs_cons (dg_name (i := 12) sc_law_build.nd rfl (by first | exact .inl rfl | exact .inr rfl)) (dgs_cons (dg_name (i := 13) sc_law_build.nd rfl (by first | exact .inl rfl | exact .inr rfl)) dgs_nil)))))))))) (dss_one (ds_if (dt_truth (de_var (pv 13))) (dss_one (ds_expr (de_meth (c := "Land") (dds := []) (de_var (pv 1)) (kn.cls 11) (kn.meth 48) O6 (hr.mono (by omega)) B7 .nil (fun _ _ => rfl) tk_of (da_cons (de_var (pv 2)) (da_cons (de_var (pv 7)) (da_cons (de_var (pv 8)) (da_cons (de_var (pv 9)) da_nil))))))) (dss_one (ds_expr (de_meth (c := "Land") (dds := []) (de_var (pv 1)) (kn.cls 11) (kn.meth 49) O8 (hr.mono (by omega)) B9 .nil (fun _ _ => rfl) tk_of (da_cons (de_var (pv 2)) (da_cons (de_var (pv 7)) (da_cons (de_var (pv 5)) (da_cons (de_var (pv 8)) (da_cons (de_var (pv 9)) (da_cons (de_var (pv 10)) (da_cons (de_var (pv 11)) (da_cons (de_var (pv 12)) da_nil))))))))))))))
    (dss_one (ds_ret (de_var (pv 1))))))))
def b_law_minutes : SM := (sSeq (sAsg mDNew (bName 2))
    (sSeq (sForL (mVar 1) (bName 3) (sSeq (sAsg (mFn (arity 2 f_law_take) [] (mCons (mVar 0) (mCons (mC (.int 8)) mNil))) (bName 4))
    (sIf (mTest (mOp gGt (mVar 4) (mC (.int 1)))) (sDPutM (mVar 2) (mVar 3) (mOp gIx (mLst false (mCons (mC .non) (mCons (mC (.int 0)) (mCons (mC (.int 1)) (mCons (mC (.int 5)) (mCons (mC (.int 5)) (mCons (mOp (gAdd false) (mC (.int 12)) (mFn (arity 2 f_law_take) [] (mCons (mVar 0) (mCons (mC (.int 90)) mNil)))) (mCons (mOp gPow (mC (.int 10)) (mC (.int 12))) (mCons (mC (.int 40)) mNil))))))))) (mVar 4))) (sIf (mTest (mOp gEq (mVar 4) (mC (.int 1)))) (sDPutM (mVar 2) (mVar 3) (mC .non)) sNext))))
    (sRet (mVar 2))))
def f_law_minutes : FM := runF 5 b_law_minutes
theorem ok_law_minutes {P : Program} {w : World} {K : PySem.W.Frag} {mg : Str → Option Value} {base : Heap} (kn : Kn K mg) : Has P w K mg base 3 d_law_minutes ["state", "names"] f_law_minutes := by
  obtain ⟨fd0, F0, O0⟩ := ok_law_take (P := P) (w := w) (base := base) kn
  have B1 := FunD.bindsN (ps := ["state", "limit"]) F0 (fun _ _ _ _ _ _ us hl => match us, hl with | [_, _], _ => rfl)
  refine has_def (k := 2) (N := ["state", "names", "found", "name", "pick"]) (d := d_law_minutes) (kn.c.def_ 19 (d := d_law_minutes) rfl) sc_law_minutes fun f cdv A outer s H E hr => ?_
  delta b_law_minutes
  exact (dss_cons (ds_set (i := 2) sc_law_minutes.nd rfl (by first | exact .inl rfl | exact .inr rfl) de_dnew)
    (dss_cons (ds_forL own_of rfl (de_var (pv 1)) (dg_name (i := 3) sc_law_minutes.nd rfl (by first | exact .inl rfl | exact .inr rfl)) (dss_cons (ds_set (i := 4) sc_law_minutes.nd rfl (by first | exact .inl rfl | exact .inr rfl) (de_call (dds := []) O0 (hr.mono (by omega)) rfl (kn.glo 5) F0.kp B1 .nil (fun _ _ => rfl) tk_of (da_cons (de_var (pv 0)) (da_cons de_int da_nil))))
    (dss_one (ds_if (dt_cmp od_gt (de_var (pv 4)) de_int (nomark _)) (dss_one (ds_dput (un1 hr) (de_var (pv 2)) (de_var (pv 3)) (de_ix (de_lst (hm := false) (da_cons de_non (da_cons de_int (da_cons de_int (da_cons de_int (da_cons de_int (da_cons (de_op (od_add false) de_int (de_call (dds := []) O0 (hr.mono (by omega)) rfl (kn.glo 5) F0.kp B1 .nil (fun _ _ => rfl) tk_of (da_cons (de_var (pv 0)) (da_cons de_int da_nil)))) (da_cons (de_op od_pow de_int de_int) (da_cons de_int da_nil))))))))) (de_var (pv 4)) (fun _ _ => rfl)))) (dss_one (ds_if (dt_cmp (od_eq hr.units) (de_var (pv 4)) de_int (nomark _)) (dss_one (ds_dput (un1 hr) (de_var (pv 2)) (de_var (pv 3)) de_non)) dss_nil))))))
    (dss_one (ds_ret (de_var (pv 2))))))
def b_land_plants : SM := (sRet (mCall (g1 (gSorted false)) (mCons (mFld "Land" "_plants" (mVar 0)) mNil)))
def f_land_plants : FM := runF 1 b_land_plants
theorem ok_land_plants {P : Program} {w : World} {K : PySem.W.Frag} {mg : Str → Option Value} {base : Heap} (kn : Kn K mg) : Has P w K mg base 1 d_land_plants ["self"] f_land_plants := by
  refine has_def (k := 0) (N := ["self"]) (d := d_land_plants) (kn.c.def_ 20 (d := d_land_plants) rfl) sc_land_plants fun f cdv A outer s H E hr => ?_
  delta b_land_plants
  exact (dss_one (ds_ret (de_callB (cd_sorted false rfl) rfl (kn.free 32) (by decide +kernel) (da_cons (de_fld (de_var (pv 0)) (kn.cls 11) (kn.noat 14)) da_nil))))
def b_land_stations : SM := (sRet (mCall (g1 (gList false)) (mCons (mFld "Land" "_stations" (mVar 0)) mNil)))
def f_land_stations : FM := runF 1 b_land_stations
theorem ok_land_stations {P : Program} {w : World} {K : PySem.W.Frag} {mg : Str → Option Value} {base : Heap} (kn : Kn K mg) : Has P w K mg base 1 d_land_stations ["self"] f_land_stations := by
  refine has_def (k := 0) (N := ["self"]) (d := d_land_stations) (kn.c.def_ 21 (d := d_land_stations) rfl) sc_land_stations fun f cdv A outer s H E hr => ?_
  delta b_land_stations
  exact (dss_one (ds_ret (de_callTy (cd_list false) rfl (kn.free 50) (by decide +kernel) (da_cons (de_fld (de_var (pv 0)) (kn.cls 11) (kn.noat 12)) da_nil))))
def b_land_lines : SM := (sRet (mCall (g1 (gSorted false)) (mCons (mFld "Land" "_lines" (mVar 0)) mNil)))
def f_land_lines : FM := runF 1 b_land_lines
theorem ok_land_lines {P : Program} {w : World} {K : PySem.W.Frag} {mg : Str → Option Value} {base : Heap} (kn : Kn K mg) : Has P w K mg base 1 d_land_lines ["self"] f_land_lines := by
  refine has_def (k := 0) (N := ["self"]) (d := d_land_lines) (kn.c.def_ 22 (d := d_land_lines) rfl) sc_land_lines fun f cdv A outer s H E hr => ?_
  delta b_land_lines
  exact (dss_one (ds_ret (de_callB (cd_sorted false rfl) rfl (kn.free 32) (by decide +kernel) (da_cons (de_fld (de_var (pv 0)) (kn.cls 11) (kn.noat 13)) da_nil))))
def b_named : SM := (sSeq (sIf (mTest (mOp gEq (mVar 1) (mC (.str "station")))) (sRet (mMeth "Land" "stations" (arity 1 f_land_stations) [] (mVar 0) mNil)) sNext)
    (sSeq (sIf (mTest (mOp gEq (mVar 1) (mC (.str "line")))) (sRet (mMeth "Land" "lines" (arity 1 f_land_lines) [] (mVar 0) mNil)) sNext)
    (sRet (mMeth "Land" "plants" (arity 1 f_land_plants) [] (mVar 0) mNil))))
def f_named : FM := runF 2 b_named
theorem ok_named {P : Program} {w : World} {K : PySem.W.Frag} {mg : Str → Option Value} {base : Heap} (kn : Kn K mg) : Has P w K mg base 2 d_named ["land", "kind"] f_named := by
  obtain ⟨fd0, F0, O0⟩ := ok_land_stations (P := P) (w := w) (base := base) kn
  have B1 := FunD.bindsN (ps := ["self"]) F0 (fun _ _ _ _ _ _ us hl => match us, hl with | [_], _ => rfl)
  obtain ⟨fd2, F2, O2⟩ := ok_land_lines (P := P) (w := w) (base := base) kn
  have B3 := FunD.bindsN (ps := ["self"]) F2 (fun _ _ _ _ _ _ us hl => match us, hl with | [_], _ => rfl)
  obtain ⟨fd4, F4, O4⟩ := ok_land_plants (P := P) (w := w) (base := base) kn
  have B5 := FunD.bindsN (ps := ["self"]) F4 (fun _ _ _ _ _ _ us hl => match us, hl with | [_], _ => rfl)
  refine has_def (k := 1) (N := ["land", "kind"]) (d := d_named) (kn.c.def_ 23 (d := d_named) rfl) sc_named fun f cdv A outer s H E hr => ?_
  delta b_named
  exact (dss_cons (ds_if (dt_cmp (od_eq hr.units) (de_var (pv 1)) de_str (nomark _)) (dss_one (ds_ret (de_meth0 (c := "Land") (dds := []) (de_var (pv 0)) (kn.cls 11) (kn.meth 51) O0 (hr.mono (by omega)) B1 .nil (fun _ _ => rfl) tk_of))) dss_nil)
    (dss_cons (ds_if (dt_cmp (od_eq hr.units) (de_var (pv 1)) de_str (nomark _)) (dss_one (ds_ret (de_meth0 (c := "Land") (dds := []) (de_var (pv 0)) (kn.cls 11) (kn.meth 52) O2 (hr.mono (by omega)) B3 .nil (fun _ _ => rfl) tk_of))) dss_nil)
    (dss_one (ds_ret (de_meth0 (c := "Land") (dds := []) (de_var (pv 0)) (kn.cls 11) (kn.meth 53) O4 (hr.mono (by omega)) B5 .nil (fun _ _ => rfl) tk_of)))))
theorem blk_table_init_191_15 : BlkOk ["self", "land", "minutes", "kind", "word", "value"] (defScope s_table_init) { kind := .function, names := [(".0", .local), ("word", .local), ("land", .free)], isGenerator := false, isCoroutine := false, more := [] } [("word", 4)] := ⟨rfl, by decide +kernel, by decide +kernel, by decide +kernel, by decide +kernel⟩
def b_table_init : SM := (sSeq (sFldM "Table" "_rows" (mVar 0) (mLst true mNil))
    (sSeq (sForT (mC (.tup [.str "station", .str "line", .str "plant"])) (bName 3) (sForL (mFn (arity 2 f_named) [] (mCons (mVar 1) (mCons (mVar 3) mNil))) (bName 4) (sSeq (sAsg (mDGet1 (mVar 2) (mVar 4)) (bName 5))
    (sSeq (sIf (mAnd (mTest (mOp gIsNot (mVar 5) (mC .non))) (mNot (mTest (mFn (arity 3 f_is_number) [] (mCons (mVar 5) (mCons (mC (.int 0)) (mCons (mOp gPow (mC (.int 10)) (mC (.int 12))) mNil))))))) (sRaise "InvalidPaper" (mCons (mC (.str "no minute")) mNil)) sNext)
    (sDrop (mApp (mFld "Table" "_rows" (mVar 0)) (mTup (mCons (mVar 3) (mCons (mVar 4) (mCons (mVar 5) mNil))))))))))
    (sSeq (sIf (mTest (mOp gGt (mCall (g1 gLen) (mCons (mLcD false (mVar 2) [4] (bName 4) (mTest (mOp gIs (mMeth "Land" "kind" (arity 2 f_land_kind) [] (mVar 1) (mCons (mVar 4) mNil)) (mC .non))) (mVar 4)) mNil)) (mC (.int 0)))) (sRaise "InvalidPaper" (mCons (mC (.str "an unknown name")) mNil)) sNext)
    (sSeq (sFldM "Table" "_minutes" (mVar 0) mDNew)
    (sForL (mFld "Table" "_rows" (mVar 0)) (bTup 3 (bCons (bName 3) (bCons (bName 4) (bCons (bName 5) bNil)))) (sDPutM (mFld "Table" "_minutes" (mVar 0)) (mVar 4) (mTup (mCons (mVar 3) (mCons (mVar 5) mNil)))))))))
def f_table_init : FM := runF 6 b_table_init
theorem ok_table_init {P : Program} {w : World} {K : PySem.W.Frag} {mg : Str → Option Value} {base : Heap} (kn : Kn K mg) : Has P w K mg base 3 d_table_init ["self", "land", "minutes"] f_table_init := by
  obtain ⟨fd0, F0, O0⟩ := ok_is_number (P := P) (w := w) (base := base) kn
  obtain ⟨ds1, V1, B1⟩ := FunD.binds1 (ps := ["value", "least", "most"]) F0 3 2 (by intro z; cases z) rfl (fun T kV doc pm an cdv ct us its h1 h2 => match us, its, h1, h2 with | [_, _, _], [_, _], _, _ => ⟨_, rfl, rfl⟩)
  obtain ⟨fd2, F2, O2⟩ := ok_named (P := P) (w := w) (base := base) kn
  have B3 := FunD.bindsN (ps := ["land", "kind"]) F2 (fun _ _ _ _ _ _ us hl => match us, hl with | [_, _], _ => rfl)
  obtain ⟨fd4, F4, O4⟩ := ok_land_kind (P := P) (w := w) (base := base) kn
  have B5 := FunD.bindsN (ps := ["self", "word"]) F4 (fun _ _ _ _ _ _ us hl => match us, hl with | [_, _], _ => rfl)
  refine has_def (k := 2) (N := ["self", "land", "minutes", "kind", "word", "value"]) (d := d_table_init) (kn.c.def_ 24 (d := d_table_init) rfl) sc_table_init fun f cdv A outer s H E hr => ?_
  delta b_table_init
  exact (dss_cons (ds_fld (de_var (pv 0)) (de_lst (hm := true) da_nil) (kn.cls 54) (kn.noat 55))
    (dss_cons (ds_forT own_of rfl (de_c (d := .tup [.str "station", .str "line", .str "plant"]) (pe_glob (v := .ref (He.ga K "KINDS")) rfl (kn.glo 59) rfl) (fun S r => fx_tupS (xs := ["station", "line", "plant"]) (fx_at kn.x 0) S r)) (dg_name (i := 3) sc_table_init.nd rfl (by first | exact .inl rfl | exact .inr rfl)) (dss_one (ds_forL own_of rfl (de_call (dds := []) O2 (hr.mono (by omega)) rfl (kn.glo 58) F2.kp B3 .nil (fun _ _ => rfl) tk_of (da_cons (de_var (pv 1)) (da_cons (de_var (pv 3)) da_nil))) (dg_name (i := 4) sc_table_init.nd rfl (by first | exact .inl rfl | exact .inr rfl)) (dss_cons (ds_set (i := 5) sc_table_init.nd rfl (by first | exact .inl rfl | exact .inr rfl) (de_dget1 (un1 hr) (de_var (pv 2)) (de_var (pv 4))))
    (dss_cons (ds_if (PW.pt (dw_and (dt_cmp od_isnot (de_var (pv 5)) de_non (nomark _)) (dw_and1 (dt_not (dt_val (de_call (dds := []) O0 (hr.mono (by omega)) rfl (kn.glo 36) F0.kp B1 V1 (fun _ _ => rfl) tk_of (da_cons (de_var (pv 5)) (da_cons de_int (da_cons (de_op od_pow de_int de_int) da_nil))))))))) (dss_one (ds_raise (c := "InvalidPaper") rfl tk_of PySem.F.excBase_ValueError (kn.exc 56).1 (kn.glo 57) (kn.exc 56).2.1 (raises_own (kn.exc 56).2.2.1 (kn.exc 56).2.2.2) rfl (da_cons de_str da_nil))) dss_nil)
    (dss_one (ds_expr (de_app (de_fld (de_var (pv 0)) (kn.cls 54) (kn.noat 55)) (de_tup (da_cons (de_var (pv 3)) (da_cons (de_var (pv 4)) (da_cons (de_var (pv 5)) da_nil))))))))))))
    (dss_cons (ds_if (dt_cmp od_gt (de_callB cd_len rfl (kn.free 1) (by decide +kernel) (da_cons (de_lcD (own := [("word", 4)]) (hm := false) rfl sc_table_init.nd (de_var (pv 2)) blk_table_init_191_15 (fun s1 H1 C1 cl1 fp1 J1 hJ1 => (dg_name (i := 4) sc_table_init.nd rfl (by first | exact .inl rfl | exact .inr rfl) (hJ := fun σ v S h => hJ1 σ v S 4 (by simp) h))) (fun s1 H1 C1 cl1 fp1 J1 hJ1 => (dts_one (dt_cmp od_is (de_meth (c := "Land") (dds := []) (de_var (pv 1)) (kn.cls 11) (kn.meth 24) O4 (hr.mono (by omega)) B5 .nil (fun _ _ => rfl) takesF (da_cons (de_var (pv 4)) da_nil)) de_non (nomark _)))) (fun s1 H1 C1 cl1 fp1 J1 hJ1 => (de_var (pv 4)))) da_nil)) de_int (nomark _)) (dss_one (ds_raise (c := "InvalidPaper") rfl tk_of PySem.F.excBase_ValueError (kn.exc 56).1 (kn.glo 57) (kn.exc 56).2.1 (raises_own (kn.exc 56).2.2.1 (kn.exc 56).2.2.2) rfl (da_cons de_str da_nil))) dss_nil)
    (dss_cons (ds_fld (de_var (pv 0)) de_dnew (kn.cls 54) (kn.noat 60))
    (dss_one (ds_forL own_of rfl (de_fld (de_var (pv 0)) (kn.cls 54) (kn.noat 55)) (dg_tup rfl (dgs_cons (dg_name (i := 3) sc_table_init.nd rfl (by first | exact .inl rfl | exact .inr rfl)) (dgs_cons (dg_name (i := 4) sc_table_init.nd rfl (by first | exact .inl rfl | exact .inr rfl)) (dgs_cons (dg_name (i := 5) sc_table_init.nd rfl (by first | exact .inl rfl | exact .inr rfl)) dgs_nil)))) (dss_one (ds_dput (un1 hr) (de_fld (de_var (pv 0)) (kn.cls 54) (kn.noat 60)) (de_var (pv 4)) (de_tup (da_cons (de_var (pv 3)) (da_cons (de_var (pv 5)) da_nil)))))))))))
def b_told : SM := (sSeq (sIf (mTest (mOp gIs (mVar 0) (mC .non))) (sRet (mC (.str "never"))) sNext)
    (sRet (mCall (g1 gStr) (mCons (mVar 0) mNil))))
def f_told : FM := runF 1 b_told
theorem ok_told {P : Program} {w : World} {K : PySem.W.Frag} {mg : Str → Option Value} {base : Heap} (kn : Kn K mg) : Has P w K mg base 1 d_told ["value"] f_told := by
  refine has_def (k := 0) (N := ["value"]) (d := d_told) (kn.c.def_ 25 (d := d_told) rfl) sc_told fun f cdv A outer s H E hr => ?_
  delta b_told
  exact (dss_cons (ds_if (dt_cmp od_is (de_var (pv 0)) de_non (nomark _)) (dss_one (ds_ret de_str)) dss_nil)
    (dss_one (ds_ret (de_callTy cd_str rfl (kn.free 17) (by decide +kernel) (da_cons (de_var (pv 0)) da_nil)))))
theorem blk_table_lines_225_15 : BlkOk ["self", "kind", "word", "value"] (defScope s_table_lines) { kind := .function, names := [(".0", .local), ("kind", .local), ("word", .local), ("value", .local), ("told", .globalImplicit)], isGenerator := false, isCoroutine := false, more := [] } [("kind", 1), ("word", 2), ("value", 3)] := ⟨rfl, by decide +kernel, by decide +kernel, by decide +kernel, by decide +kernel⟩
def b_table_lines : SM := (sRet (mLcL false (mFld "Table" "_rows" (mVar 0)) [1, 2, 3] (bTup 3 (bCons (bName 1) (bCons (bName 2) (bCons (bName 3) bNil)))) mYes (mOp (gAdd false) (mOp (gAdd false) (mOp (gAdd false) (mOp (gAdd false) (mVar 1) (mC (.str " "))) (mVar 2)) (mC (.str " "))) (mFn (arity 1 f_told) [] (mCons (mVar 3) mNil)))))
def f_table_lines : FM := runF 4 b_table_lines
theorem ok_table_lines {P : Program} {w : World} {K : PySem.W.Frag} {mg : Str → Option Value} {base : Heap} (kn : Kn K mg) : Has P w K mg base 2 d_table_lines ["self"] f_table_lines := by
  obtain ⟨fd0, F0, O0⟩ := ok_told (P := P) (w := w) (base := base) kn
  have B1 := FunD.bindsN (ps := ["value"]) F0 (fun _ _ _ _ _ _ us hl => match us, hl with | [_], _ => rfl)
  refine has_def (k := 1) (N := ["self", "kind", "word", "value"]) (d := d_table_lines) (kn.c.def_ 26 (d := d_table_lines) rfl) sc_table_lines fun f cdv A outer s H E hr => ?_
  delta b_table_lines
  exact (dss_one (ds_ret (de_lcL (own := [("kind", 1), ("word", 2), ("value", 3)]) (hm := false) rfl sc_table_lines.nd (de_fld (de_var (pv 0)) (kn.cls 54) (kn.noat 55)) blk_table_lines_225_15 (fun s1 H1 C1 cl1 fp1 J1 hJ1 => (dg_tup rfl (dgs_cons (dg_name (i := 1) sc_table_lines.nd rfl (by first | exact .inl rfl | exact .inr rfl) (hJ := fun σ v S h => hJ1 σ v S 1 (by simp) h)) (dgs_cons (dg_name (i := 2) sc_table_lines.nd rfl (by first | exact .inl rfl | exact .inr rfl) (hJ := fun σ v S h => hJ1 σ v S 2 (by simp) h)) (dgs_cons (dg_name (i := 3) sc_table_lines.nd rfl (by first | exact .inl rfl | exact .inr rfl) (hJ := fun σ v S h => hJ1 σ v S 3 (by simp) h)) dgs_nil))))) (fun s1 H1 C1 cl1 fp1 J1 hJ1 => dts_nil) (fun s1 H1 C1 cl1 fp1 J1 hJ1 => (de_op (od_add false) (de_op (od_add false) (de_op (od_add false) (de_op (od_add false) (de_var (pv 1)) de_str) (de_var (pv 2))) de_str) (de_call (dds := []) O0 (hr.mono (by omega)) rfl (kn.glo 61) F0.kp B1 .nil (fun _ _ => rfl) takesF (da_cons (de_var (pv 3)) da_nil)))))))
def b_table_rows : SM := (sRet (mCall (g1 (gList true)) (mCons (mFld "Table" "_rows" (mVar 0)) mNil)))
def f_table_rows : FM := runF 1 b_table_rows
theorem ok_table_rows {P : Program} {w : World} {K : PySem.W.Frag} {mg : Str → Option Value} {base : Heap} (kn : Kn K mg) : Has P w K mg base 1 d_table_rows ["self"] f_table_rows := by
  refine has_def (k := 0) (N := ["self"]) (d := d_table_rows) (kn.c.def_ 27 (d := d_table_rows) rfl) sc_table_rows fun f cdv A outer s H E hr => ?_
  delta b_table_rows
  exact (dss_one (ds_ret (de_callTy (cd_list true) rfl (kn.free 50) (by decide +kernel) (da_cons (de_fld (de_var (pv 0)) (kn.cls 54) (kn.noat 55)) da_nil))))
theorem blk_table_never_206_22 : BlkOk ["self", "kind", "word", "value"] (defScope s_table_never) { kind := .function, names := [(".0", .local), ("kind", .local), ("word", .local), ("value", .local)], isGenerator := false, isCoroutine := false, more := [] } [("kind", 1), ("word", 2), ("value", 3)] := ⟨rfl, by decide +kernel, by decide +kernel, by decide +kernel, by decide +kernel⟩
def b_table_never : SM := (sRet (mCall (g1 (gSorted false)) (mCons (mLcL false (mFld "Table" "_rows" (mVar 0)) [1, 2, 3] (bTup 3 (bCons (bName 1) (bCons (bName 2) (bCons (bName 3) bNil)))) (mTest (mOp gIs (mVar 3) (mC .non))) (mVar 2)) mNil)))
def f_table_never : FM := runF 4 b_table_never
theorem ok_table_never {P : Program} {w : World} {K : PySem.W.Frag} {mg : Str → Option Value} {base : Heap} (kn : Kn K mg) : Has P w K mg base 1 d_table_never ["self"] f_table_never := by
  refine has_def (k := 0) (N := ["self", "kind", "word", "value"]) (d := d_table_never) (kn.c.def_ 28 (d := d_table_never) rfl) sc_table_never fun f cdv A outer s H E hr => ?_
  delta b_table_never
  exact (dss_one (ds_ret (de_callB (cd_sorted false rfl) rfl (kn.free 32) (by decide +kernel) (da_cons (de_lcL (own := [("kind", 1), ("word", 2), ("value", 3)]) (hm := false) rfl sc_table_never.nd (de_fld (de_var (pv 0)) (kn.cls 54) (kn.noat 55)) blk_table_never_206_22 (fun s1 H1 C1 cl1 fp1 J1 hJ1 => (dg_tup rfl (dgs_cons (dg_name (i := 1) sc_table_never.nd rfl (by first | exact .inl rfl | exact .inr rfl) (hJ := fun σ v S h => hJ1 σ v S 1 (by simp) h)) (dgs_cons (dg_name (i := 2) sc_table_never.nd rfl (by first | exact .inl rfl | exact .inr rfl) (hJ := fun σ v S h => hJ1 σ v S 2 (by simp) h)) (dgs_cons (dg_name (i := 3) sc_table_never.nd rfl (by first | exact .inl rfl | exact .inr rfl) (hJ := fun σ v S h => hJ1 σ v S 3 (by simp) h)) dgs_nil))))) (fun s1 H1 C1 cl1 fp1 J1 hJ1 => (dts_one (dt_cmp od_is (de_var (pv 3)) de_non (nomark _)))) (fun s1 H1 C1 cl1 fp1 J1 hJ1 => (de_var (pv 2)))) da_nil))))
theorem blk_table_moments_209_22 : BlkOk ["self", "kind", "word", "value"] (defScope s_table_moments) { kind := .function, names := [(".0", .local), ("kind", .local), ("word", .local), ("value", .local)], isGenerator := false, isCoroutine := false, more := [] } [("kind", 1), ("word", 2), ("value", 3)] := ⟨rfl, by decide +kernel, by decide +kernel, by decide +kernel, by decide +kernel⟩
def b_table_moments : SM := (sRet (mSortSet false (mFld "Table" "_rows" (mVar 0)) [1, 2, 3] (bTup 3 (bCons (bName 1) (bCons (bName 2) (bCons (bName 3) bNil)))) (mTest (mOp gIsNot (mVar 3) (mC .non))) (mVar 3)))
def f_table_moments : FM := runF 4 b_table_moments
theorem ok_table_moments {P : Program} {w : World} {K : PySem.W.Frag} {mg : Str → Option Value} {base : Heap} (kn : Kn K mg) : Has P w K mg base 1 d_table_moments ["self"] f_table_moments := by
  refine has_def (k := 0) (N := ["self", "kind", "word", "value"]) (d := d_table_moments) (kn.c.def_ 29 (d := d_table_moments) rfl) sc_table_moments fun f cdv A outer s H E hr => ?_
  delta b_table_moments
  exact (dss_one (ds_ret (de_sortSet false (own := [("kind", 1), ("word", 2), ("value", 3)]) rfl sc_table_moments.nd rfl (kn.free 32) (by decide +kernel) (de_fld (de_var (pv 0)) (kn.cls 54) (kn.noat 55)) blk_table_moments_209_22 (fun s1 H1 C1 cl1 fp1 J1 hJ1 => (dg_tup rfl (dgs_cons (dg_name (i := 1) sc_table_moments.nd rfl (by first | exact .inl rfl | exact .inr rfl) (hJ := fun σ v S h => hJ1 σ v S 1 (by simp) h)) (dgs_cons (dg_name (i := 2) sc_table_moments.nd rfl (by first | exact .inl rfl | exact .inr rfl) (hJ := fun σ v S h => hJ1 σ v S 2 (by simp) h)) (dgs_cons (dg_name (i := 3) sc_table_moments.nd rfl (by first | exact .inl rfl | exact .inr rfl) (hJ := fun σ v S h => hJ1 σ v S 3 (by simp) h)) dgs_nil))))) (fun s1 H1 C1 cl1 fp1 J1 hJ1 => (dts_one (dt_cmp od_isnot (de_var (pv 3)) de_non (nomark _)))) (fun s1 H1 C1 cl1 fp1 J1 hJ1 => (de_var (pv 3))))))
def b_table_last : SM := (sRet (mCall (g1 gMaxL) (mCons (mOp (gAdd false) (mLst false (mCons (mC (.int 0)) mNil)) (mMeth "Table" "moments" (arity 1 f_table_moments) [] (mVar 0) mNil)) mNil)))
def f_table_last : FM := runF 1 b_table_last
theorem ok_table_last {P : Program} {w : World} {K : PySem.W.Frag} {mg : Str → Option Value} {base : Heap} (kn : Kn K mg) : Has P w K mg base 2 d_table_last ["self"] f_table_last := by
  obtain ⟨fd0, F0, O0⟩ := ok_table_moments (P := P) (w := w) (base := base) kn
  have B1 := FunD.bindsN (ps := ["self"]) F0 (fun _ _ _ _ _ _ us hl => match us, hl with | [_], _ => rfl)
  refine has_def (k := 1) (N := ["self"]) (d := d_table_last) (kn.c.def_ 30 (d := d_table_last) rfl) sc_table_last fun f cdv A outer s H E hr => ?_
  delta b_table_last
  exact (dss_one (ds_ret (de_callB (cd_maxL rfl) rfl (kn.free 6) (by decide +kernel) (da_cons (de_op (od_add false) (de_lst (hm := false) (da_cons de_int da_nil)) (de_meth0 (c := "Table") (dds := []) (de_var (pv 0)) (kn.cls 54) (kn.meth 62) O0 (hr.mono (by omega)) B1 .nil (fun _ _ => rfl) tk_of)) da_nil))))
def b_table_by : SM := (sSeq (sAsg (mTup (mCons (mLst true mNil) (mCons (mLst true mNil) (mCons (mLst true mNil) mNil)))) (bName 2))
    (sSeq (sForL (mFld "Table" "_rows" (mVar 0)) (bTup 3 (bCons (bName 3) (bCons (bName 4) (bCons (bName 5) bNil)))) (sIf (mAnd (mTest (mOp gIsNot (mVar 5) (mC .non))) (mTest (mOp gLe (mVar 5) (mVar 1)))) (sDrop (mApp (mOp gIx (mVar 2) (mTIdx ["station", "line", "plant"] (mVar 3))) (mVar 4))) sNext))
    (sRet (mVar 2))))
def f_table_by : FM := runF 6 b_table_by
theorem ok_table_by {P : Program} {w : World} {K : PySem.W.Frag} {mg : Str → Option Value} {base : Heap} (kn : Kn K mg) : Has P w K mg base 1 d_table_by ["self", "minute"] f_table_by := by
  refine has_def (k := 0) (N := ["self", "minute", "found", "kind", "word", "value"]) (d := d_table_by) (kn.c.def_ 31 (d := d_table_by) rfl) sc_table_by fun f cdv A outer s H E hr => ?_
  delta b_table_by
  exact (dss_cons (ds_set (i := 2) sc_table_by.nd rfl (by first | exact .inl rfl | exact .inr rfl) (de_tup (da_cons (de_lst (hm := true) da_nil) (da_cons (de_lst (hm := true) da_nil) (da_cons (de_lst (hm := true) da_nil) da_nil)))))
    (dss_cons (ds_forL own_of rfl (de_fld (de_var (pv 0)) (kn.cls 54) (kn.noat 55)) (dg_tup rfl (dgs_cons (dg_name (i := 3) sc_table_by.nd rfl (by first | exact .inl rfl | exact .inr rfl)) (dgs_cons (dg_name (i := 4) sc_table_by.nd rfl (by first | exact .inl rfl | exact .inr rfl)) (dgs_cons (dg_name (i := 5) sc_table_by.nd rfl (by first | exact .inl rfl | exact .inr rfl)) dgs_nil)))) (dss_one (ds_if (PW.pt (dw_and (dt_cmp od_isnot (de_var (pv 5)) de_non (nomark _)) (dw_and1 (dt_cmp od_le (de_var (pv 5)) (de_var (pv 1)) (nomark _))))) (dss_one (ds_expr (de_app (de_ix (de_var (pv 2)) (de_tidx (ss := ["station", "line", "plant"]) rfl (kn.glo 59) (by decide) (fx_tupD (fx_at kn.x 1)) (fun S r => fx_tupS (xs := ["station", "line", "plant"]) (fx_at kn.x 0) S r) (de_var (pv 3))) (fun _ _ => rfl)) (de_var (pv 4))))) dss_nil)))
    (dss_one (ds_ret (de_var (pv 2))))))
def b_law_by_right : SM := (sSeq (sAsg (mTup (mCons (mLst true mNil) (mCons (mLst true mNil) (mCons (mLst true mNil) mNil)))) (bName 3))
    (sSeq (sForL (mVar 1) (bTup 3 (bCons (bName 4) (bCons (bName 5) (bCons (bName 6) bNil)))) (sIf (mAnd (mTest (mOp gIsNot (mVar 6) (mC .non))) (mTest (mOp gLe (mVar 6) (mVar 2)))) (sDrop (mApp (mOp gIx (mVar 3) (mLIdx (mLst false (mCons (mC (.str "station")) (mCons (mC (.str "line")) (mCons (mC (.str "plant")) mNil)))) (mVar 4))) (mVar 5))) sNext))
    (sRet (mOp gEq (mMeth "Table" "by" (arity 2 f_table_by) [] (mVar 0) (mCons (mVar 2) mNil)) (mVar 3)))))
def f_law_by_right : FM := runF 7 b_law_by_right
theorem ok_law_by_right {P : Program} {w : World} {K : PySem.W.Frag} {mg : Str → Option Value} {base : Heap} (kn : Kn K mg) : Has P w K mg base 2 d_law_by_right ["table", "rows", "minute"] f_law_by_right := by
  obtain ⟨fd0, F0, O0⟩ := ok_table_by (P := P) (w := w) (base := base) kn
  have B1 := FunD.bindsN (ps := ["self", "minute"]) F0 (fun _ _ _ _ _ _ us hl => match us, hl with | [_, _], _ => rfl)
  refine has_def (k := 1) (N := ["table", "rows", "minute", "due", "kind", "name", "value"]) (d := d_law_by_right) (kn.c.def_ 32 (d := d_law_by_right) rfl) sc_law_by_right fun f cdv A outer s H E hr => ?_
  delta b_law_by_right
  exact (dss_cons (ds_set (i := 3) sc_law_by_right.nd rfl (by first | exact .inl rfl | exact .inr rfl) (de_tup (da_cons (de_lst (hm := true) da_nil) (da_cons (de_lst (hm := true) da_nil) (da_cons (de_lst (hm := true) da_nil) da_nil)))))
    (dss_cons (ds_forL own_of rfl (de_var (pv 1)) (dg_tup rfl (dgs_cons (dg_name (i := 4) sc_law_by_right.nd rfl (by first | exact .inl rfl | exact .inr rfl)) (dgs_cons (dg_name (i := 5) sc_law_by_right.nd rfl (by first | exact .inl rfl | exact .inr rfl)) (dgs_cons (dg_name (i := 6) sc_law_by_right.nd rfl (by first | exact .inl rfl | exact .inr rfl)) dgs_nil)))) (dss_one (ds_if (PW.pt (dw_and (dt_cmp od_isnot (de_var (pv 6)) de_non (nomark _)) (dw_and1 (dt_cmp od_le (de_var (pv 6)) (de_var (pv 2)) (nomark _))))) (dss_one (ds_expr (de_app (de_ix (de_var (pv 3)) (de_lidx (de_lst (hm := false) (da_cons de_str (da_cons de_str (da_cons de_str da_nil)))) (de_var (pv 4))) (fun _ _ => rfl)) (de_var (pv 5))))) dss_nil)))
    (dss_one (ds_ret (de_cmp (od_eq hr.units) (de_meth (c := "Table") (dds := []) (de_var (pv 0)) (kn.cls 54) (kn.meth 63) O0 (hr.mono (by omega)) B1 .nil (fun _ _ => rfl) tk_of (da_cons (de_var (pv 2)) da_nil)) (de_var (pv 3)) (nomark _))))))
def b_table_minute : SM := (sSeq (sIf (mTest (mDIn false (mVar 1) (mFld "Table" "_minutes" (mVar 0)))) (sRaise "UnknownName" (mCons (mC (.str "table")) mNil)) sNext)
    (sRet (mOp gIx (mDGet (mFld "Table" "_minutes" (mVar 0)) (mVar 1)) (mC (.int 1)))))
def f_table_minute : FM := runF 2 b_table_minute
theorem ok_table_minute {P : Program} {w : World} {K : PySem.W.Frag} {mg : Str → Option Value} {base : Heap} (kn : Kn K mg) : Has P w K mg base 1 d_table_minute ["self", "word"] f_table_minute := by
  refine has_def (k := 0) (N := ["self", "word"]) (d := d_table_minute) (kn.c.def_ 33 (d := d_table_minute) rfl) sc_table_minute fun f cdv A outer s H E hr => ?_
  delta b_table_minute
  exact (dss_cons (ds_if (dt_dnotin (un1 hr) (de_var (pv 1)) (de_fld (de_var (pv 0)) (kn.cls 54) (kn.noat 60)) (by with_unfolding_all rfl)) (dss_one (ds_raise (c := "UnknownName") rfl tk_of PySem.F.excBase_ValueError (kn.exc 33).1 (kn.glo 34) (kn.exc 33).2.1 (raises_own (kn.exc 33).2.2.1 (kn.exc 33).2.2.2) rfl (da_cons de_str da_nil))) dss_nil)
    (dss_one (ds_ret (de_ix (de_dget (un1 hr) (de_fld (de_var (pv 0)) (kn.cls 54) (kn.noat 60)) (de_var (pv 1))) de_int (fun _ _ => rfl)))))
def sub_law_minute_309 (nm : Str) : Option Bool := if nm = "InvalidName" then some false else if nm = "InvalidNumber" then some false else if nm = "DuplicateName" then some false else if nm = "UnknownName" then some true else if nm = "SameStation" then some false else if nm = "TooMany" then some false else if nm = "InvalidPaper" then some false else none
theorem subok_law_minute_309 {K : PySem.W.Frag} {mg : Str → Option Value} (kn : Kn K mg) (nm : Str) (b : Bool) (z : sub_law_minute_309 nm = some b) : PySem.W.exmOne K (.ref (He.ga K nm)) (.ref (He.ga K "UnknownName")) = some b := by
  unfold sub_law_minute_309 at z
  split at z
  · rename_i e; cases z; rw [e]; exact kn.exm 64
  split at z
  · rename_i e; cases z; rw [e]; exact kn.exm 65
  split at z
  · rename_i e; cases z; rw [e]; exact kn.exm 66
  split at z
  · rename_i e; cases z; rw [e]; exact kn.exm 67
  split at z
  · rename_i e; cases z; rw [e]; exact kn.exm 68
  split at z
  · rename_i e; cases z; rw [e]; exact kn.exm 69
  split at z
  · rename_i e; cases z; rw [e]; exact kn.exm 70
  cases z
def b_law_minute : SM := (sTry sub_law_minute_309 (sRet (mMeth "Table" "minute" (arity 2 f_table_minute) [] (mVar 0) (mCons (mVar 1) mNil))) (fun nm => if nm = "UnknownName" then (sRet (mC (.str "unknown"))) else fun _ _ => .bad))
def f_law_minute : FM := runF 2 b_law_minute
theorem ok_law_minute {P : Program} {w : World} {K : PySem.W.Frag} {mg : Str → Option Value} {base : Heap} (kn : Kn K mg) : Has P w K mg base 2 d_law_minute ["table", "name"] f_law_minute := by
  obtain ⟨fd0, F0, O0⟩ := ok_table_minute (P := P) (w := w) (base := base) kn
  have B1 := FunD.bindsN (ps := ["self", "word"]) F0 (fun _ _ _ _ _ _ us hl => match us, hl with | [_, _], _ => rfl)
  refine has_def (k := 1) (N := ["table", "name"]) (d := d_law_minute) (kn.c.def_ 34 (d := d_law_minute) rfl) sc_law_minute fun f cdv A outer s H E hr => ?_
  delta b_law_minute
  exact (dss_one (ds_try (cv := (.ref (He.ga K "UnknownName"))) rfl rfl (⟨rfl, by decide, .inl (kn.glo 34)⟩) tk_of (subok_law_minute_309 kn) (fun W1 pn1 xe1 tk1 own1 => (dss_one (ds_ret (de_meth (c := "Table") (dds := []) (de_var (pv 0)) (kn.cls 54) (kn.meth 71) O0 (hr.mono (by omega)) B1 .nil (fun _ _ => rfl) tk1 (da_cons (de_var (pv 1)) da_nil))))) (fun nm a oe pn hc hz hf => by
      unfold sub_law_minute_309 at hc
      split at hc
      · cases hc
      split at hc
      · cases hc
      split at hc
      · cases hc
      split at hc
      · rename_i e; subst e; show PSs _ _ (tS _ _ _ _ (sRet (mC (.str "unknown")))); exact (dss_one (ds_ret de_str))
      split at hc
      · cases hc
      split at hc
      · cases hc
      split at hc
      · cases hc
      cases hc)))
def b_table_eq : SM := (sRet (mAndV (mIsO "Table" (mVar 1)) (mOp gEq (mMeth "Table" "rows" (arity 1 f_table_rows) [] (mVar 0) mNil) (mMeth "Table" "rows" (arity 1 f_table_rows) [] (mVar 1) mNil))))
def f_table_eq : FM := runF 2 b_table_eq
theorem ok_table_eq {P : Program} {w : World} {K : PySem.W.Frag} {mg : Str → Option Value} {base : Heap} (kn : Kn K mg) : Has P w K mg base 2 d_table_eq ["self", "other"] f_table_eq := by
  obtain ⟨fd0, F0, O0⟩ := ok_table_rows (P := P) (w := w) (base := base) kn
  have B1 := FunD.bindsN (ps := ["self"]) F0 (fun _ _ _ _ _ _ us hl => match us, hl with | [_], _ => rfl)
  refine has_def (k := 1) (N := ["self", "other"]) (d := d_table_eq) (kn.c.def_ 35 (d := d_table_eq) rfl) sc_table_eq fun f cdv A outer s H E hr => ?_
  delta b_table_eq
  exact (dss_one (ds_ret (de_and (de_isO (c := "Table") (fx_own (kn.cls 54) (fx_at kn.x 2)) (pe_glob (v := .ref (He.ga K "Table")) rfl (kn.glo 72) rfl) (de_var (pv 1)) rfl (kn.free 16) (by decide +kernel)) (de_and1 (by exact (de_cmp (od_eq hr.units) (de_meth0 (c := "Table") (dds := []) (de_var (pv 0)) (kn.cls 54) (kn.meth 73) O0 (hr.mono (by omega)) B1 .nil (fun _ _ => rfl) tk_of) (de_meth0 (c := "Table") (dds := []) (de_var (pv 1)) (kn.cls 54) (kn.meth 73) O0 (hr.mono (by omega)) B1 .nil (fun _ _ => rfl) tk_of) (nomark _)))))))
def sub_law_made_298 (nm : Str) : Option Bool := if nm = "InvalidName" then some false else if nm = "InvalidNumber" then some false else if nm = "DuplicateName" then some false else if nm = "UnknownName" then some false else if nm = "SameStation" then some false else if nm = "TooMany" then some false else if nm = "InvalidPaper" then some true else none
theorem subok_law_made_298 {K : PySem.W.Frag} {mg : Str → Option Value} (kn : Kn K mg) (nm : Str) (b : Bool) (z : sub_law_made_298 nm = some b) : PySem.W.exmOne K (.ref (He.ga K nm)) (.ref (He.ga K "InvalidPaper")) = some b := by
  unfold sub_law_made_298 at z
  split at z
  · rename_i e; cases z; rw [e]; exact kn.exm 74
  split at z
  · rename_i e; cases z; rw [e]; exact kn.exm 75
  split at z
  · rename_i e; cases z; rw [e]; exact kn.exm 76
  split at z
  · rename_i e; cases z; rw [e]; exact kn.exm 77
  split at z
  · rename_i e; cases z; rw [e]; exact kn.exm 78
  split at z
  · rename_i e; cases z; rw [e]; exact kn.exm 79
  split at z
  · rename_i e; cases z; rw [e]; exact kn.exm 80
  cases z
def b_law_made : SM := (sTryAs sub_law_made_298 2 (sRet (mMake "Table" (arity 3 f_table_init) [] (mCons (mVar 0) (mCons (mVar 1) mNil)))) (fun nm => if nm = "InvalidPaper" then (sRet (mC (.bl true))) else fun _ _ => .bad))
def f_law_made : FM := runF 3 b_law_made
theorem ok_law_made {P : Program} {w : World} {K : PySem.W.Frag} {mg : Str → Option Value} {base : Heap} (kn : Kn K mg) : Has P w K mg base 5 d_law_made ["land", "minutes"] f_law_made := by
  obtain ⟨fd0, F0, O0⟩ := ok_table_init (P := P) (w := w) (base := base) kn
  have B1 := FunD.bindsN (ps := ["self", "land", "minutes"]) F0 (fun _ _ _ _ _ _ us hl => match us, hl with | [_, _, _], _ => rfl)
  refine has_def (k := 4) (N := ["land", "minutes", "e"]) (d := d_law_made) (kn.c.def_ 36 (d := d_law_made) rfl) sc_law_made fun f cdv A outer s H E hr => ?_
  delta b_law_made
  exact (dss_one (ds_try_as (i := 2) (cv := (.ref (He.ga K "InvalidPaper"))) rfl rfl sc_law_made.nd rfl rfl (⟨rfl, by decide, .inl (kn.glo 57)⟩) tk_of (subok_law_made_298 kn) (fun W1 pn1 xe1 tk1 own1 => (dss_one (ds_ret (de_make (c := "Table") (dds := []) (kn.mkr 81) O0 (hr.mono (by omega)) rfl (kn.glo 72) B1 .nil (fun _ _ => rfl) tk1 (da_cons (de_var (pv 0)) (da_cons (de_var (pv 1)) da_nil)))))) (fun nm a oe pn hc hz hf => by
      unfold sub_law_made_298 at hc
      split at hc
      · cases hc
      split at hc
      · cases hc
      split at hc
      · cases hc
      split at hc
      · cases hc
      split at hc
      · cases hc
      split at hc
      · cases hc
      split at hc
      · rename_i e; subst e; show PSs _ _ (tS _ _ _ _ (sRet (mC (.bl true)))); exact (dss_one (ds_ret (by exact de_isE (fx_exc (fx_at kn.x 3)) hz hf (pv 2) (pe_glob (v := .ref (He.ga K "RiseError")) rfl (kn.glo 82) rfl) (fun _ r => r) (fx_kitR (fx_at kn.x 4)) rfl (kn.free 16) (by decide +kernel))))
      cases hc)))
theorem blk_table_minutes_222_15 : BlkOk ["self", "kind", "word", "value"] (defScope s_table_minutes) { kind := .function, names := [(".0", .local), ("kind", .local), ("word", .local), ("value", .local)], isGenerator := false, isCoroutine := false, more := [] } [("kind", 1), ("word", 2), ("value", 3)] := ⟨rfl, by decide +kernel, by decide +kernel, by decide +kernel, by decide +kernel⟩
def b_table_minutes : SM := (sRet (mDcL (mFld "Table" "_rows" (mVar 0)) [1, 2, 3] (bTup 3 (bCons (bName 1) (bCons (bName 2) (bCons (bName 3) bNil)))) (mTest (mOp gIsNot (mVar 3) (mC .non))) (mVar 2) (mVar 3)))
def f_table_minutes : FM := runF 4 b_table_minutes
theorem ok_table_minutes {P : Program} {w : World} {K : PySem.W.Frag} {mg : Str → Option Value} {base : Heap} (kn : Kn K mg) : Has P w K mg base 1 d_table_minutes ["self"] f_table_minutes := by
  refine has_def (k := 0) (N := ["self", "kind", "word", "value"]) (d := d_table_minutes) (kn.c.def_ 37 (d := d_table_minutes) rfl) sc_table_minutes fun f cdv A outer s H E hr => ?_
  delta b_table_minutes
  exact (dss_one (ds_ret (de_dcL (own := [("kind", 1), ("word", 2), ("value", 3)]) rfl sc_table_minutes.nd (de_fld (de_var (pv 0)) (kn.cls 54) (kn.noat 55)) blk_table_minutes_222_15 (fun s1 H1 C1 cl1 fp1 J1 hJ1 => (dg_tup rfl (dgs_cons (dg_name (i := 1) sc_table_minutes.nd rfl (by first | exact .inl rfl | exact .inr rfl) (hJ := fun σ v S h => hJ1 σ v S 1 (by simp) h)) (dgs_cons (dg_name (i := 2) sc_table_minutes.nd rfl (by first | exact .inl rfl | exact .inr rfl) (hJ := fun σ v S h => hJ1 σ v S 2 (by simp) h)) (dgs_cons (dg_name (i := 3) sc_table_minutes.nd rfl (by first | exact .inl rfl | exact .inr rfl) (hJ := fun σ v S h => hJ1 σ v S 3 (by simp) h)) dgs_nil))))) (fun s1 H1 C1 cl1 fp1 J1 hJ1 => (dts_one (dt_cmp od_isnot (de_var (pv 3)) de_non (nomark _)))) (fun s1 H1 C1 cl1 fp1 J1 hJ1 => (de_var (pv 2))) (fun s1 H1 C1 cl1 fp1 J1 hJ1 => (de_var (pv 3))))))
theorem blk_law_317_23 : BlkOk ["script", "state", "world", "land", "names", "minutes", "handed", "table", "rows", "there", "moments", "value", "minute", "other", "wrong", "pick", "line", "plant", "name", "row"] (defScope s_law) { kind := .function, names := [(".0", .local), ("line", .local)], isGenerator := false, isCoroutine := false, more := [] } [("line", 16)] := ⟨rfl, by decide +kernel, by decide +kernel, by decide +kernel, by decide +kernel⟩
theorem blk_law_317_56 : BlkOk ["script", "state", "world", "land", "names", "minutes", "handed", "table", "rows", "there", "moments", "value", "minute", "other", "wrong", "pick", "line", "plant", "name", "row"] (defScope s_law) { kind := .function, names := [(".0", .local), ("plant", .local)], isGenerator := false, isCoroutine := false, more := [] } [("plant", 17)] := ⟨rfl, by decide +kernel, by decide +kernel, by decide +kernel, by decide +kernel⟩
theorem blk_law_322_11 : BlkOk ["script", "state", "world", "land", "names", "minutes", "handed", "table", "rows", "there", "moments", "value", "minute", "other", "wrong", "pick", "line", "plant", "name", "row"] (defScope s_law) { kind := .function, names := [(".0", .local), ("name", .local), ("minutes", .free)], isGenerator := false, isCoroutine := false, more := [] } [("name", 18)] := ⟨rfl, by decide +kernel, by decide +kernel, by decide +kernel, by decide +kernel⟩
theorem blk_law_323_18 : BlkOk ["script", "state", "world", "land", "names", "minutes", "handed", "table", "rows", "there", "moments", "value", "minute", "other", "wrong", "pick", "line", "plant", "name", "row"] (defScope s_law) { kind := .function, names := [(".0", .local), ("line", .local), ("minutes", .free)], isGenerator := false, isCoroutine := false, more := [] } [("line", 16)] := ⟨rfl, by decide +kernel, by decide +kernel, by decide +kernel, by decide +kernel⟩
theorem blk_law_324_18 : BlkOk ["script", "state", "world", "land", "names", "minutes", "handed", "table", "rows", "there", "moments", "value", "minute", "other", "wrong", "pick", "line", "plant", "name", "row"] (defScope s_law) { kind := .function, names := [(".0", .local), ("plant", .local), ("minutes", .free)], isGenerator := false, isCoroutine := false, more := [] } [("plant", 17)] := ⟨rfl, by decide +kernel, by decide +kernel, by decide +kernel, by decide +kernel⟩
theorem blk_law_325_55 : BlkOk ["script", "state", "world", "land", "names", "minutes", "handed", "table", "rows", "there", "moments", "value", "minute", "other", "wrong", "pick", "line", "plant", "name", "row"] (defScope s_law) { kind := .function, names := [(".0", .local), ("row", .local)], isGenerator := false, isCoroutine := false, more := [] } [("row", 19)] := ⟨rfl, by decide +kernel, by decide +kernel, by decide +kernel, by decide +kernel⟩
theorem blk_law_327_12 : BlkOk ["script", "state", "world", "land", "names", "minutes", "handed", "table", "rows", "there", "moments", "value", "minute", "other", "wrong", "pick", "line", "plant", "name", "row"] (defScope s_law) { kind := .function, names := [(".0", .local), ("row", .local)], isGenerator := false, isCoroutine := false, more := [] } [("row", 19)] := ⟨rfl, by decide +kernel, by decide +kernel, by decide +kernel, by decide +kernel⟩
theorem blk_law_329_24 : BlkOk ["script", "state", "world", "land", "names", "minutes", "handed", "table", "rows", "there", "moments", "value", "minute", "other", "wrong", "pick", "line", "plant", "name", "row"] (defScope s_law) { kind := .function, names := [(".0", .local), ("row", .local)], isGenerator := false, isCoroutine := false, more := [] } [("row", 19)] := ⟨rfl, by decide +kernel, by decide +kernel, by decide +kernel, by decide +kernel⟩
theorem blk_law_334_41 : BlkOk ["script", "state", "world", "land", "names", "minutes", "handed", "table", "rows", "there", "moments", "value", "minute", "other", "wrong", "pick", "line", "plant", "name", "row"] (defScope s_law) { kind := .function, names := [(".0", .local), ("row", .local)], isGenerator := false, isCoroutine := false, more := [] } [("row", 19)] := ⟨rfl, by decide +kernel, by decide +kernel, by decide +kernel, by decide +kernel⟩
theorem blk_law_334_75 : BlkOk ["script", "state", "world", "land", "names", "minutes", "handed", "table", "rows", "there", "moments", "value", "minute", "other", "wrong", "pick", "line", "plant", "name", "row"] (defScope s_law) { kind := .function, names := [(".0", .local), ("row", .local), ("table", .free)], isGenerator := false, isCoroutine := false, more := [] } [("row", 19)] := ⟨rfl, by decide +kernel, by decide +kernel, by decide +kernel, by decide +kernel⟩
theorem blk_law_336_24 : BlkOk ["script", "state", "world", "land", "names", "minutes", "handed", "table", "rows", "there", "moments", "value", "minute", "other", "wrong", "pick", "line", "plant", "name", "row"] (defScope s_law) { kind := .function, names := [(".0", .local), ("row", .local), ("str", .globalImplicit)], isGenerator := false, isCoroutine := false, more := [] } [("row", 19)] := ⟨rfl, by decide +kernel, by decide +kernel, by decide +kernel, by decide +kernel⟩
theorem blk_law_341_11 : BlkOk ["script", "state", "world", "land", "names", "minutes", "handed", "table", "rows", "there", "moments", "value", "minute", "other", "wrong", "pick", "line", "plant", "name", "row"] (defScope s_law) { kind := .function, names := [(".0", .local), ("row", .local), ("_law_minute", .globalImplicit), ("table", .free)], isGenerator := false, isCoroutine := false, more := [] } [("row", 19)] := ⟨rfl, by decide +kernel, by decide +kernel, by decide +kernel, by decide +kernel⟩
theorem blk_law_344_53 : BlkOk ["script", "state", "world", "land", "names", "minutes", "handed", "table", "rows", "there", "moments", "value", "minute", "other", "wrong", "pick", "line", "plant", "name", "row"] (defScope s_law) { kind := .function, names := [(".0", .local), ("name", .local), ("minutes", .free), ("other", .free)], isGenerator := false, isCoroutine := false, more := [] } [("name", 18)] := ⟨rfl, by decide +kernel, by decide +kernel, by decide +kernel, by decide +kernel⟩
def b_law : SM := (sSeq (sAsg (mLst true (mCons (mVar 0) (mCons (mC (.int 0)) (mCons (mC (.int 0)) mNil)))) (bName 1))
    (sSeq (sAsg (mFn (arity 1 f_law_world) [] (mCons (mVar 1) mNil)) (bName 2))
    (sSeq (sAsg (mFn (arity 1 f_law_build) [] (mCons (mVar 2) mNil)) (bName 3))
    (sSeq (sAsg (mOp (gAdd false) (mOp (gAdd false) (mOp gIx (mVar 2) (mC (.int 0))) (mLcL false (mOp gIx (mVar 2) (mC (.int 1))) [16] (bName 16) mYes (mOp gIx (mVar 16) (mC (.int 0))))) (mLcL false (mOp gIx (mVar 2) (mC (.int 2))) [17] (bName 17) mYes (mOp gIx (mVar 17) (mC (.int 0))))) (bName 4))
    (sSeq (sAsg (mFn (arity 2 f_law_minutes) [] (mCons (mVar 1) (mCons (mVar 4) mNil))) (bName 5))
    (sSeq (sAsg (mCall (g1 gDictD) (mCons (mVar 5) mNil)) (bName 6))
    (sSeq (sAsg (mMake "Table" (arity 3 f_table_init) [] (mCons (mVar 3) (mCons (mVar 6) mNil))) (bName 7))
    (sSeq (sDPutM (mVar 6) (mC (.str "ash")) (mC (.int 77)))
    (sSeq (sAsg (mLcL false (mOp gIx (mVar 2) (mC (.int 0))) [18] (bName 18) mYes (mTup (mCons (mC (.str "station")) (mCons (mVar 18) (mCons (mDGet1 (mVar 5) (mVar 18)) mNil))))) (bName 8))
    (sSeq (sAsg (mOp (gAdd false) (mVar 8) (mLcL false (mOp gIx (mVar 2) (mC (.int 1))) [16] (bName 16) mYes (mTup (mCons (mC (.str "line")) (mCons (mOp gIx (mVar 16) (mC (.int 0))) (mCons (mDGet1 (mVar 5) (mOp gIx (mVar 16) (mC (.int 0)))) mNil)))))) (bName 8))
    (sSeq (sAsg (mOp (gAdd false) (mVar 8) (mLcL false (mOp gIx (mVar 2) (mC (.int 2))) [17] (bName 17) mYes (mTup (mCons (mC (.str "plant")) (mCons (mOp gIx (mVar 17) (mC (.int 0))) (mCons (mDGet1 (mVar 5) (mOp gIx (mVar 17) (mC (.int 0)))) mNil)))))) (bName 8))
    (sSeq (sIf (mOr (mTest (mOp gNe (mMeth "Table" "rows" (arity 1 f_table_rows) [] (mVar 7) mNil) (mVar 8))) (mTest (mOp gNe (mMeth "Table" "never" (arity 1 f_table_never) [] (mVar 7) mNil) (mCall (g1 (gSorted false)) (mCons (mLcL false (mVar 8) [19] (bName 19) (mTest (mOp gIs (mOp gIx (mVar 19) (mC (.int 2))) (mC .non))) (mOp gIx (mVar 19) (mC (.int 1)))) mNil))))) (sRet (mC (.bl false))) sNext)
    (sSeq (sAsg (mLcL false (mVar 8) [19] (bName 19) (mTest (mOp gIsNot (mOp gIx (mVar 19) (mC (.int 2))) (mC .non))) (mVar 19)) (bName 9))
    (sSeq (sAsg (mLst true mNil) (bName 10))
    (sSeq (sForL (mCall (g1 (gSorted false)) (mCons (mLcL false (mVar 9) [19] (bName 19) mYes (mOp gIx (mVar 19) (mC (.int 2)))) mNil)) (bName 11) (sIf (mTest (mOp gNotIn (mVar 11) (mVar 10))) (sDrop (mApp (mVar 10) (mVar 11))) sNext))
    (sSeq (sIf (mOr (mTest (mOp gNe (mMeth "Table" "moments" (arity 1 f_table_moments) [] (mVar 7) mNil) (mVar 10))) (mTest (mOp gNe (mMeth "Table" "last" (arity 1 f_table_last) [] (mVar 7) mNil) (mCall (g1 gMaxL) (mCons (mOp (gAdd false) (mLst false (mCons (mC (.int 0)) mNil)) (mVar 10)) mNil))))) (sRet (mC (.bl false))) sNext)
    (sSeq (sIf (mOr (mTest (mOp gNe (mCall (g1 (gSorted false)) (mCons (mMeth "Table" "minutes" (arity 1 f_table_minutes) [] (mVar 7) mNil) mNil)) (mCall (g1 (gSorted false)) (mCons (mLcL false (mVar 9) [19] (bName 19) mYes (mOp gIx (mVar 19) (mC (.int 1)))) mNil)))) (mTest (mOp gGt (mCall (g1 gLen) (mCons (mLcL false (mVar 9) [19] (bName 19) (mTest (mOp gNe (mDGet (mMeth "Table" "minutes" (arity 1 f_table_minutes) [] (mVar 7) mNil) (mOp gIx (mVar 19) (mC (.int 1)))) (mOp gIx (mVar 19) (mC (.int 2))))) (mVar 19)) mNil)) (mC (.int 0))))) (sRet (mC (.bl false))) sNext)
    (sSeq (sIf (mTest (mOp gNe (mMeth "Table" "lines" (arity 1 f_table_lines) [] (mVar 7) mNil) (mLcL false (mVar 8) [19] (bName 19) mYes (mOp (gAdd false) (mOp (gAdd false) (mOp (gAdd false) (mOp (gAdd false) (mOp gIx (mVar 19) (mC (.int 0))) (mC (.str " "))) (mOp gIx (mVar 19) (mC (.int 1)))) (mC (.str " "))) (mIf (mTest (mOp gIs (mOp gIx (mVar 19) (mC (.int 2))) (mC .non))) (mC (.str "never")) (mCall (g1 gStr) (mCons (mOp gIx (mVar 19) (mC (.int 2))) mNil))))))) (sRet (mC (.bl false))) sNext)
    (sSeq (sForL (mOp (gAdd false) (mLst false (mCons (mC (.int 0)) (mCons (mC (.int 4)) (mCons (mC (.int 5)) (mCons (mOp gPow (mC (.int 10)) (mC (.int 12))) mNil))))) (mVar 10)) (bName 12) (sIf (mNot (mTest (mFn (arity 3 f_law_by_right) [] (mCons (mVar 7) (mCons (mVar 8) (mCons (mVar 12) mNil)))))) (sRet (mC (.bl false))) sNext))
    (sSeq (sIf (mOr (mTest (mOp gGt (mCall (g1 gLen) (mCons (mLcL false (mVar 8) [19] (bName 19) (mTest (mOp gNe (mFn (arity 2 f_law_minute) [] (mCons (mVar 7) (mCons (mOp gIx (mVar 19) (mC (.int 1))) mNil))) (mOp gIx (mVar 19) (mC (.int 2))))) (mVar 19)) mNil)) (mC (.int 0)))) (mTest (mOp gNe (mFn (arity 2 f_law_minute) [] (mCons (mVar 7) (mCons (mC (.str "zed")) mNil))) (mC (.str "unknown"))))) (sRet (mC (.bl false))) sNext)
    (sSeq (sAsg (mFn (arity 2 f_law_minutes) [] (mCons (mVar 1) (mCons (mVar 4) mNil))) (bName 13))
    (sSeq (sIf (mTest (mOp gNe (mCall (g1 gRepr) (mCons (mEqO "Table" (arity 2 f_table_eq) (mVar 7) (mMake "Table" (arity 3 f_table_init) [] (mCons (mVar 3) (mCons (mVar 13) mNil)))) mNil)) (mCall (g1 gRepr) (mCons (mOp gEq (mCall (g1 gLen) (mCons (mLcL false (mVar 4) [18] (bName 18) (mTest (mOp gNe (mDGet1 (mVar 5) (mVar 18)) (mDGet1 (mVar 13) (mVar 18)))) (mVar 18)) mNil)) (mC (.int 0))) mNil)))) (sRet (mC (.bl false))) sNext)
    (sSeq (sDrop (mApp (mMeth "Table" "rows" (arity 1 f_table_rows) [] (mVar 7) mNil) (mC (.int 5))))
    (sSeq (sDrop (mApp (mOp gIx (mMeth "Table" "by" (arity 2 f_table_by) [] (mVar 7) (mCons (mC (.int 9)) mNil)) (mC (.int 0))) (mC (.str "zed"))))
    (sSeq (sAsg (mCall (g1 gDictD) (mCons (mVar 5) mNil)) (bName 14))
    (sSeq (sAsg (mFn (arity 2 f_law_take) [] (mCons (mVar 1) (mCons (mC (.int 5)) mNil))) (bName 15))
    (sSeq (sDPutM (mVar 14) (mOp gIx (mLst false (mCons (mC (.str "zed")) (mCons (mC (.str "ash")) (mCons (mC (.str "ash")) (mCons (mC (.str "ash")) (mCons (mC (.str "ash")) mNil)))))) (mVar 15)) (mOp gIx (mLst false (mCons (mC (.int 5)) (mCons (mOp gSub (mC (.int 0)) (mC (.int 1))) (mCons (mC (.bl true)) (mCons (mC (.str "5")) (mCons (mOp (gAdd false) (mOp gPow (mC (.int 10)) (mC (.int 12))) (mC (.int 1))) mNil)))))) (mVar 15)))
    (sRet (mAndV (mOp gIsB (mFn (arity 2 f_law_made) [] (mCons (mVar 3) (mCons (mVar 14) mNil))) (mC (.bl true))) (mAndV (mOp gEq (mMeth "Table" "rows" (arity 1 f_table_rows) [] (mVar 7) mNil) (mVar 8)) (mNotV (mEqO "Table" (arity 2 f_table_eq) (mVar 7) (mC (.int 5))))))))))))))))))))))))))))))))))
def f_law : FM := runF 20 b_law
theorem ok_law {P : Program} {w : World} {K : PySem.W.Frag} {mg : Str → Option Value} {base : Heap} (kn : Kn K mg) : ∃ fd, FunD K "law" "law" (defArgs s_law) (defBody s_law) (defScope s_law) [] [] (He.ga K "law") fd ∧ FnOk P w K mg base CX0 6 (He.ga K "law") fd ["script"] (spLaw K f_law) := by
  obtain ⟨fd0, F0, O0⟩ := ok_law_world (P := P) (w := w) (base := base) kn
  have B1 := FunD.bindsN (ps := ["state"]) F0 (fun _ _ _ _ _ _ us hl => match us, hl with | [_], _ => rfl)
  obtain ⟨fd2, F2, O2⟩ := ok_law_build (P := P) (w := w) (base := base) kn
  have B3 := FunD.bindsN (ps := ["world"]) F2 (fun _ _ _ _ _ _ us hl => match us, hl with | [_], _ => rfl)
  obtain ⟨fd4, F4, O4⟩ := ok_law_minutes (P := P) (w := w) (base := base) kn
  have B5 := FunD.bindsN (ps := ["state", "names"]) F4 (fun _ _ _ _ _ _ us hl => match us, hl with | [_, _], _ => rfl)
  obtain ⟨fd6, F6, O6⟩ := ok_table_init (P := P) (w := w) (base := base) kn
  have B7 := FunD.bindsN (ps := ["self", "land", "minutes"]) F6 (fun _ _ _ _ _ _ us hl => match us, hl with | [_, _, _], _ => rfl)
  obtain ⟨fd8, F8, O8⟩ := ok_table_rows (P := P) (w := w) (base := base) kn
  have B9 := FunD.bindsN (ps := ["self"]) F8 (fun _ _ _ _ _ _ us hl => match us, hl with | [_], _ => rfl)
  obtain ⟨fd10, F10, O10⟩ := ok_table_never (P := P) (w := w) (base := base) kn
  have B11 := FunD.bindsN (ps := ["self"]) F10 (fun _ _ _ _ _ _ us hl => match us, hl with | [_], _ => rfl)
  obtain ⟨fd12, F12, O12⟩ := ok_table_moments (P := P) (w := w) (base := base) kn
  have B13 := FunD.bindsN (ps := ["self"]) F12 (fun _ _ _ _ _ _ us hl => match us, hl with | [_], _ => rfl)
  obtain ⟨fd14, F14, O14⟩ := ok_table_last (P := P) (w := w) (base := base) kn
  have B15 := FunD.bindsN (ps := ["self"]) F14 (fun _ _ _ _ _ _ us hl => match us, hl with | [_], _ => rfl)
  obtain ⟨fd16, F16, O16⟩ := ok_table_minutes (P := P) (w := w) (base := base) kn
  have B17 := FunD.bindsN (ps := ["self"]) F16 (fun _ _ _ _ _ _ us hl => match us, hl with | [_], _ => rfl)
  obtain ⟨fd18, F18, O18⟩ := ok_table_lines (P := P) (w := w) (base := base) kn
  have B19 := FunD.bindsN (ps := ["self"]) F18 (fun _ _ _ _ _ _ us hl => match us, hl with | [_], _ => rfl)
  obtain ⟨fd20, F20, O20⟩ := ok_law_by_right (P := P) (w := w) (base := base) kn
  have B21 := FunD.bindsN (ps := ["table", "rows", "minute"]) F20 (fun _ _ _ _ _ _ us hl => match us, hl with | [_, _, _], _ => rfl)
  obtain ⟨fd22, F22, O22⟩ := ok_law_minute (P := P) (w := w) (base := base) kn
  have B23 := FunD.bindsN (ps := ["table", "name"]) F22 (fun _ _ _ _ _ _ us hl => match us, hl with | [_, _], _ => rfl)
  obtain ⟨fd24, F24, O24⟩ := ok_table_eq (P := P) (w := w) (base := base) kn
  have B25 := FunD.bindsN (ps := ["self", "other"]) F24 (fun _ _ _ _ _ _ us hl => match us, hl with | [_, _], _ => rfl)
  obtain ⟨fd26, F26, O26⟩ := ok_table_by (P := P) (w := w) (base := base) kn
  have B27 := FunD.bindsN (ps := ["self", "minute"]) F26 (fun _ _ _ _ _ _ us hl => match us, hl with | [_, _], _ => rfl)
  obtain ⟨fd28, F28, O28⟩ := ok_law_take (P := P) (w := w) (base := base) kn
  have B29 := FunD.bindsN (ps := ["state", "limit"]) F28 (fun _ _ _ _ _ _ us hl => match us, hl with | [_, _], _ => rfl)
  obtain ⟨fd30, F30, O30⟩ := ok_law_made (P := P) (w := w) (base := base) kn
  have B31 := FunD.bindsN (ps := ["land", "minutes"]) F30 (fun _ _ _ _ _ _ us hl => match us, hl with | [_, _], _ => rfl)
  obtain ⟨fd, F⟩ := kn.c.def_ 38 (d := d_law) rfl
  refine ⟨fd, F, law_def (ad := He.ga K) (k := 5) (N := ["script", "state", "world", "land", "names", "minutes", "handed", "table", "rows", "there", "moments", "value", "minute", "other", "wrong", "pick", "line", "plant", "name", "row"]) F sc_law fun cdv A outer s H E hr => ?_⟩
  delta b_law
  exact (dss_cons (ds_set (i := 1) sc_law.nd rfl (by first | exact .inl rfl | exact .inr rfl) (de_lst (hm := true) (da_cons (de_var (pv 0)) (da_cons de_int (da_cons de_int da_nil)))))
    (dss_cons (ds_set (i := 2) sc_law.nd rfl (by first | exact .inl rfl | exact .inr rfl) (de_call (dds := []) O0 (hr.mono (by omega)) rfl (kn.glo 83) F0.kp B1 .nil (fun _ _ => rfl) takesF (da_cons (de_var (pv 1)) da_nil)))
    (dss_cons (ds_set (i := 3) sc_law.nd rfl (by first | exact .inl rfl | exact .inr rfl) (de_call (dds := []) O2 (hr.mono (by omega)) rfl (kn.glo 84) F2.kp B3 .nil (fun _ _ => rfl) takesF (da_cons (de_var (pv 2)) da_nil)))
    (dss_cons (ds_set (i := 4) sc_law.nd rfl (by first | exact .inl rfl | exact .inr rfl) (de_op (od_add false) (de_op (od_add false) (de_ix (de_var (pv 2)) de_int (fun _ _ => rfl)) (de_lcL (own := [("line", 16)]) (hm := false) rfl sc_law.nd (de_ix (de_var (pv 2)) de_int (fun _ _ => rfl)) blk_law_317_23 (fun s1 H1 C1 cl1 fp1 J1 hJ1 => (dg_name (i := 16) sc_law.nd rfl (by first | exact .inl rfl | exact .inr rfl) (hJ := fun σ v S h => hJ1 σ v S 16 (by simp) h))) (fun s1 H1 C1 cl1 fp1 J1 hJ1 => dts_nil) (fun s1 H1 C1 cl1 fp1 J1 hJ1 => (de_ix (de_var (pv 16)) de_int (fun _ _ => rfl))))) (de_lcL (own := [("plant", 17)]) (hm := false) rfl sc_law.nd (de_ix (de_var (pv 2)) de_int (fun _ _ => rfl)) blk_law_317_56 (fun s2 H2 C2 cl2 fp2 J2 hJ2 => (dg_name (i := 17) sc_law.nd rfl (by first | exact .inl rfl | exact .inr rfl) (hJ := fun σ v S h => hJ2 σ v S 17 (by simp) h))) (fun s2 H2 C2 cl2 fp2 J2 hJ2 => dts_nil) (fun s2 H2 C2 cl2 fp2 J2 hJ2 => (de_ix (de_var (pv 17)) de_int (fun _ _ => rfl))))))
    (dss_cons (ds_set (i := 5) sc_law.nd rfl (by first | exact .inl rfl | exact .inr rfl) (de_call (dds := []) O4 (hr.mono (by omega)) rfl (kn.glo 85) F4.kp B5 .nil (fun _ _ => rfl) takesF (da_cons (de_var (pv 1)) (da_cons (de_var (pv 4)) da_nil))))
    (dss_cons (ds_set (i := 6) sc_law.nd rfl (by first | exact .inl rfl | exact .inr rfl) (de_callTy cd_dictD rfl (kn.free 86) (by decide +kernel) (da_cons (de_var (pv 5)) da_nil)))
    (dss_cons (ds_set (i := 7) sc_law.nd rfl (by first | exact .inl rfl | exact .inr rfl) (de_make (c := "Table") (dds := []) (kn.mkr 81) O6 (hr.mono (by omega)) rfl (kn.glo 72) B7 .nil (fun _ _ => rfl) takesF (da_cons (de_var (pv 3)) (da_cons (de_var (pv 6)) da_nil))))
    (dss_cons (ds_dput (un1 hr) (de_var (pv 6)) de_str de_int)
    (dss_cons (ds_setLcL (iy := 8) (own := [("name", 18)]) (hm := false) rfl sc_law.nd (de_ix (de_var (pv 2)) de_int (fun _ _ => rfl)) blk_law_322_11 (fun s3 H3 C3 cl3 fp3 J3 hJ3 => (dg_name (i := 18) sc_law.nd rfl (by first | exact .inl rfl | exact .inr rfl) (hJ := fun σ v S h => hJ3 σ v S 18 (by simp) h))) (fun s3 H3 C3 cl3 fp3 J3 hJ3 => dts_nil) (fun s3 H3 C3 cl3 fp3 J3 hJ3 => (de_tup (da_cons de_str (da_cons (de_var (pv 18)) (da_cons (de_dget1 (un1 hr) (de_var (pv 5)) (de_var (pv 18))) da_nil))))) (hy := rfl) (hyl := rfl) (hsw := rfl))
    (dss_cons (ds_set (i := 8) sc_law.nd rfl (by first | exact .inl rfl | exact .inr rfl) (de_op (od_add false) (de_var (pv 8)) (de_lcL (own := [("line", 16)]) (hm := false) rfl sc_law.nd (de_ix (de_var (pv 2)) de_int (fun _ _ => rfl)) blk_law_323_18 (fun s4 H4 C4 cl4 fp4 J4 hJ4 => (dg_name (i := 16) sc_law.nd rfl (by first | exact .inl rfl | exact .inr rfl) (hJ := fun σ v S h => hJ4 σ v S 16 (by simp) h))) (fun s4 H4 C4 cl4 fp4 J4 hJ4 => dts_nil) (fun s4 H4 C4 cl4 fp4 J4 hJ4 => (de_tup (da_cons de_str (da_cons (de_ix (de_var (pv 16)) de_int (fun _ _ => rfl)) (da_cons (de_dget1 (un1 hr) (de_var (pv 5)) (de_ix (de_var (pv 16)) de_int (fun _ _ => rfl))) da_nil))))))))
    (dss_cons (ds_set (i := 8) sc_law.nd rfl (by first | exact .inl rfl | exact .inr rfl) (de_op (od_add false) (de_var (pv 8)) (de_lcL (own := [("plant", 17)]) (hm := false) rfl sc_law.nd (de_ix (de_var (pv 2)) de_int (fun _ _ => rfl)) blk_law_324_18 (fun s5 H5 C5 cl5 fp5 J5 hJ5 => (dg_name (i := 17) sc_law.nd rfl (by first | exact .inl rfl | exact .inr rfl) (hJ := fun σ v S h => hJ5 σ v S 17 (by simp) h))) (fun s5 H5 C5 cl5 fp5 J5 hJ5 => dts_nil) (fun s5 H5 C5 cl5 fp5 J5 hJ5 => (de_tup (da_cons de_str (da_cons (de_ix (de_var (pv 17)) de_int (fun _ _ => rfl)) (da_cons (de_dget1 (un1 hr) (de_var (pv 5)) (de_ix (de_var (pv 17)) de_int (fun _ _ => rfl))) da_nil))))))))
    (dss_cons (ds_if (PW.pt (dw_or (dt_cmp (od_ne hr.units) (de_meth0 (c := "Table") (dds := []) (de_var (pv 7)) (kn.cls 54) (kn.meth 73) O8 (hr.mono (by omega)) B9 .nil (fun _ _ => rfl) takesF) (de_var (pv 8)) (nomark _)) (dw_or1 (dt_cmp (od_ne hr.units) (de_meth0 (c := "Table") (dds := []) (de_var (pv 7)) (kn.cls 54) (kn.meth 87) O10 (hr.mono (by omega)) B11 .nil (fun _ _ => rfl) takesF) (de_callB (cd_sorted false rfl) rfl (kn.free 32) (by decide +kernel) (da_cons (de_lcL (own := [("row", 19)]) (hm := false) rfl sc_law.nd (de_var (pv 8)) blk_law_325_55 (fun s6 H6 C6 cl6 fp6 J6 hJ6 => (dg_name (i := 19) sc_law.nd rfl (by first | exact .inl rfl | exact .inr rfl) (hJ := fun σ v S h => hJ6 σ v S 19 (by simp) h))) (fun s6 H6 C6 cl6 fp6 J6 hJ6 => (dts_one (dt_cmp od_is (de_ix (de_var (pv 19)) de_int (fun _ _ => rfl)) de_non (nomark _)))) (fun s6 H6 C6 cl6 fp6 J6 hJ6 => (de_ix (de_var (pv 19)) de_int (fun _ _ => rfl)))) da_nil)) (nomark _))))) (dss_one (ds_ret de_bl)) dss_nil)
    (dss_cons (ds_setLcL (iy := 9) (own := [("row", 19)]) (hm := false) rfl sc_law.nd (de_var (pv 8)) blk_law_327_12 (fun s7 H7 C7 cl7 fp7 J7 hJ7 => (dg_name (i := 19) sc_law.nd rfl (by first | exact .inl rfl | exact .inr rfl) (hJ := fun σ v S h => hJ7 σ v S 19 (by simp) h))) (fun s7 H7 C7 cl7 fp7 J7 hJ7 => (dts_one (dt_cmp od_isnot (de_ix (de_var (pv 19)) de_int (fun _ _ => rfl)) de_non (nomark _)))) (fun s7 H7 C7 cl7 fp7 J7 hJ7 => (de_var (pv 19))) (hy := rfl) (hyl := rfl) (hsw := rfl))
    (dss_cons (ds_set (i := 10) sc_law.nd rfl (by first | exact .inl rfl | exact .inr rfl) (de_lst (hm := true) da_nil))
    (dss_cons (ds_forL own_of rfl (de_callB (cd_sorted false rfl) rfl (kn.free 32) (by decide +kernel) (da_cons (de_lcL (own := [("row", 19)]) (hm := false) rfl sc_law.nd (de_var (pv 9)) blk_law_329_24 (fun s8 H8 C8 cl8 fp8 J8 hJ8 => (dg_name (i := 19) sc_law.nd rfl (by first | exact .inl rfl | exact .inr rfl) (hJ := fun σ v S h => hJ8 σ v S 19 (by simp) h))) (fun s8 H8 C8 cl8 fp8 J8 hJ8 => dts_nil) (fun s8 H8 C8 cl8 fp8 J8 hJ8 => (de_ix (de_var (pv 19)) de_int (fun _ _ => rfl)))) da_nil)) (dg_name (i := 11) sc_law.nd rfl (by first | exact .inl rfl | exact .inr rfl)) (dss_one (ds_if (dt_cmp od_notin (de_var (pv 11)) (de_var (pv 10)) (by with_unfolding_all rfl)) (dss_one (ds_expr (de_app (de_var (pv 10)) (de_var (pv 11))))) dss_nil)))
    (dss_cons (ds_if (PW.pt (dw_or (dt_cmp (od_ne hr.units) (de_meth0 (c := "Table") (dds := []) (de_var (pv 7)) (kn.cls 54) (kn.meth 62) O12 (hr.mono (by omega)) B13 .nil (fun _ _ => rfl) takesF) (de_var (pv 10)) (nomark _)) (dw_or1 (dt_cmp (od_ne hr.units) (de_meth0 (c := "Table") (dds := []) (de_var (pv 7)) (kn.cls 54) (kn.meth 88) O14 (hr.mono (by omega)) B15 .nil (fun _ _ => rfl) takesF) (de_callB (cd_maxL rfl) rfl (kn.free 6) (by decide +kernel) (da_cons (de_op (od_add false) (de_lst (hm := false) (da_cons de_int da_nil)) (de_var (pv 10))) da_nil)) (nomark _))))) (dss_one (ds_ret de_bl)) dss_nil)
    (dss_cons (ds_if (PW.pt (dw_or (dt_cmp (od_ne hr.units) (de_callB (cd_sorted false rfl) rfl (kn.free 32) (by decide +kernel) (da_cons (de_meth0 (c := "Table") (dds := []) (de_var (pv 7)) (kn.cls 54) (kn.meth 89) O16 (hr.mono (by omega)) B17 .nil (fun _ _ => rfl) takesF) da_nil)) (de_callB (cd_sorted false rfl) rfl (kn.free 32) (by decide +kernel) (da_cons (de_lcL (own := [("row", 19)]) (hm := false) rfl sc_law.nd (de_var (pv 9)) blk_law_334_41 (fun s9 H9 C9 cl9 fp9 J9 hJ9 => (dg_name (i := 19) sc_law.nd rfl (by first | exact .inl rfl | exact .inr rfl) (hJ := fun σ v S h => hJ9 σ v S 19 (by simp) h))) (fun s9 H9 C9 cl9 fp9 J9 hJ9 => dts_nil) (fun s9 H9 C9 cl9 fp9 J9 hJ9 => (de_ix (de_var (pv 19)) de_int (fun _ _ => rfl)))) da_nil)) (nomark _)) (dw_or1 (dt_cmp od_gt (de_callB cd_len rfl (kn.free 1) (by decide +kernel) (da_cons (de_lcL (own := [("row", 19)]) (hm := false) rfl sc_law.nd (de_var (pv 9)) blk_law_334_75 (fun s10 H10 C10 cl10 fp10 J10 hJ10 => (dg_name (i := 19) sc_law.nd rfl (by first | exact .inl rfl | exact .inr rfl) (hJ := fun σ v S h => hJ10 σ v S 19 (by simp) h))) (fun s10 H10 C10 cl10 fp10 J10 hJ10 => (dts_one (dt_cmp (od_ne hr.units) (de_dget (un1 hr) (de_meth0 (c := "Table") (dds := []) (de_var (pv 7)) (kn.cls 54) (kn.meth 89) O16 (hr.mono (by omega)) B17 .nil (fun _ _ => rfl) takesF) (de_ix (de_var (pv 19)) de_int (fun _ _ => rfl))) (de_ix (de_var (pv 19)) de_int (fun _ _ => rfl)) (nomark _)))) (fun s10 H10 C10 cl10 fp10 J10 hJ10 => (de_var (pv 19)))) da_nil)) de_int (nomark _))))) (dss_one (ds_ret de_bl)) dss_nil)
    (dss_cons (ds_if (dt_cmp (od_ne hr.units) (de_meth0 (c := "Table") (dds := []) (de_var (pv 7)) (kn.cls 54) (kn.meth 90) O18 (hr.mono (by omega)) B19 .nil (fun _ _ => rfl) takesF) (de_lcL (own := [("row", 19)]) (hm := false) rfl sc_law.nd (de_var (pv 8)) blk_law_336_24 (fun s11 H11 C11 cl11 fp11 J11 hJ11 => (dg_name (i := 19) sc_law.nd rfl (by first | exact .inl rfl | exact .inr rfl) (hJ := fun σ v S h => hJ11 σ v S 19 (by simp) h))) (fun s11 H11 C11 cl11 fp11 J11 hJ11 => dts_nil) (fun s11 H11 C11 cl11 fp11 J11 hJ11 => (de_op (od_add false) (de_op (od_add false) (de_op (od_add false) (de_op (od_add false) (de_ix (de_var (pv 19)) de_int (fun _ _ => rfl)) de_str) (de_ix (de_var (pv 19)) de_int (fun _ _ => rfl))) de_str) (de_if (dt_cmp od_is (de_ix (de_var (pv 19)) de_int (fun _ _ => rfl)) de_non (nomark _)) de_str (de_callTy cd_str rfl (kn.free 17) (by decide +kernel) (da_cons (de_ix (de_var (pv 19)) de_int (fun _ _ => rfl)) da_nil)))))) (nomark _)) (dss_one (ds_ret de_bl)) dss_nil)
    (dss_cons (ds_forL own_of rfl (de_op (od_add false) (de_lst (hm := false) (da_cons de_int (da_cons de_int (da_cons de_int (da_cons (de_op od_pow de_int de_int) da_nil))))) (de_var (pv 10))) (dg_name (i := 12) sc_law.nd rfl (by first | exact .inl rfl | exact .inr rfl)) (dss_one (ds_if (dt_not (dt_val (de_call (dds := []) O20 (hr.mono (by omega)) rfl (kn.glo 91) F20.kp B21 .nil (fun _ _ => rfl) takesF (da_cons (de_var (pv 7)) (da_cons (de_var (pv 8)) (da_cons (de_var (pv 12)) da_nil)))))) (dss_one (ds_ret de_bl)) dss_nil)))
    (dss_cons (ds_if (PW.pt (dw_or (dt_cmp od_gt (de_callB cd_len rfl (kn.free 1) (by decide +kernel) (da_cons (de_lcL (own := [("row", 19)]) (hm := false) rfl sc_law.nd (de_var (pv 8)) blk_law_341_11 (fun s12 H12 C12 cl12 fp12 J12 hJ12 => (dg_name (i := 19) sc_law.nd rfl (by first | exact .inl rfl | exact .inr rfl) (hJ := fun σ v S h => hJ12 σ v S 19 (by simp) h))) (fun s12 H12 C12 cl12 fp12 J12 hJ12 => (dts_one (dt_cmp (od_ne hr.units) (de_call (dds := []) O22 (hr.mono (by omega)) rfl (kn.glo 92) F22.kp B23 .nil (fun _ _ => rfl) takesF (da_cons (de_var (pv 7)) (da_cons (de_ix (de_var (pv 19)) de_int (fun _ _ => rfl)) da_nil))) (de_ix (de_var (pv 19)) de_int (fun _ _ => rfl)) (nomark _)))) (fun s12 H12 C12 cl12 fp12 J12 hJ12 => (de_var (pv 19)))) da_nil)) de_int (nomark _)) (dw_or1 (dt_cmp (od_ne hr.units) (de_call (dds := []) O22 (hr.mono (by omega)) rfl (kn.glo 92) F22.kp B23 .nil (fun _ _ => rfl) takesF (da_cons (de_var (pv 7)) (da_cons de_str da_nil))) de_str (nomark _))))) (dss_one (ds_ret de_bl)) dss_nil)
    (dss_cons (ds_set (i := 13) sc_law.nd rfl (by first | exact .inl rfl | exact .inr rfl) (de_call (dds := []) O4 (hr.mono (by omega)) rfl (kn.glo 85) F4.kp B5 .nil (fun _ _ => rfl) takesF (da_cons (de_var (pv 1)) (da_cons (de_var (pv 4)) da_nil))))
    (dss_cons (ds_if (dt_cmp (od_ne hr.units) (de_callB cd_repr rfl (kn.free 94) (by decide +kernel) (da_cons (de_eqO (c := "Table") (kn.meth 93) O24 (hr.mono (by omega)) hr.units B25 takesF (de_var (pv 7)) (de_make (c := "Table") (dds := []) (kn.mkr 81) O6 (hr.mono (by omega)) rfl (kn.glo 72) B7 .nil (fun _ _ => rfl) takesF (da_cons (de_var (pv 3)) (da_cons (de_var (pv 13)) da_nil))) (nomark _)) da_nil)) (de_callB cd_repr rfl (kn.free 94) (by decide +kernel) (da_cons (de_cmp (od_eq hr.units) (de_callB cd_len rfl (kn.free 1) (by decide +kernel) (da_cons (de_lcL (own := [("name", 18)]) (hm := false) rfl sc_law.nd (de_var (pv 4)) blk_law_344_53 (fun s13 H13 C13 cl13 fp13 J13 hJ13 => (dg_name (i := 18) sc_law.nd rfl (by first | exact .inl rfl | exact .inr rfl) (hJ := fun σ v S h => hJ13 σ v S 18 (by simp) h))) (fun s13 H13 C13 cl13 fp13 J13 hJ13 => (dts_one (dt_cmp (od_ne hr.units) (de_dget1 (un1 hr) (de_var (pv 5)) (de_var (pv 18))) (de_dget1 (un1 hr) (de_var (pv 13)) (de_var (pv 18))) (nomark _)))) (fun s13 H13 C13 cl13 fp13 J13 hJ13 => (de_var (pv 18)))) da_nil)) de_int (nomark _)) da_nil)) (nomark _)) (dss_one (ds_ret de_bl)) dss_nil)
    (dss_cons (ds_expr (de_app (de_meth0 (c := "Table") (dds := []) (de_var (pv 7)) (kn.cls 54) (kn.meth 73) O8 (hr.mono (by omega)) B9 .nil (fun _ _ => rfl) takesF) de_int))
    (dss_cons (ds_expr (de_app (de_ix (de_meth (c := "Table") (dds := []) (de_var (pv 7)) (kn.cls 54) (kn.meth 63) O26 (hr.mono (by omega)) B27 .nil (fun _ _ => rfl) takesF (da_cons de_int da_nil)) de_int (fun _ _ => rfl)) de_str))
    (dss_cons (ds_set (i := 14) sc_law.nd rfl (by first | exact .inl rfl | exact .inr rfl) (de_callTy cd_dictD rfl (kn.free 86) (by decide +kernel) (da_cons (de_var (pv 5)) da_nil)))
    (dss_cons (ds_set (i := 15) sc_law.nd rfl (by first | exact .inl rfl | exact .inr rfl) (de_call (dds := []) O28 (hr.mono (by omega)) rfl (kn.glo 5) F28.kp B29 .nil (fun _ _ => rfl) takesF (da_cons (de_var (pv 1)) (da_cons de_int da_nil))))
    (dss_cons (ds_dput (un1 hr) (de_var (pv 14)) (de_ix (de_lst (hm := false) (da_cons de_str (da_cons de_str (da_cons de_str (da_cons de_str (da_cons de_str da_nil)))))) (de_var (pv 15)) (fun _ _ => rfl)) (de_ix (de_lst (hm := false) (da_cons de_int (da_cons (de_op od_sub de_int de_int) (da_cons de_bl (da_cons de_str (da_cons (de_op (od_add false) (de_op od_pow de_int de_int) de_int) da_nil)))))) (de_var (pv 15)) (fun _ _ => rfl)))
    (dss_one (ds_ret (de_and (de_cmp od_isB (de_call (dds := []) O30 (hr.mono (by omega)) rfl (kn.glo 95) F30.kp B31 .nil (fun _ _ => rfl) takesF (da_cons (de_var (pv 3)) (da_cons (de_var (pv 14)) da_nil))) de_bl (nomark _)) (de_and (de_cmp (od_eq hr.units) (de_meth0 (c := "Table") (dds := []) (de_var (pv 7)) (kn.cls 54) (kn.meth 73) O8 (hr.mono (by omega)) B9 .nil (fun _ _ => rfl) takesF) (de_var (pv 8)) (nomark _)) (de_and1 (by exact (de_not (de_eqO (c := "Table") (kn.meth 93) O24 (hr.mono (by omega)) hr.units B25 takesF (de_var (pv 7)) de_int (nomark _))))))))))))))))))))))))))))))))))))
end DK.k18
end
section
set_option Elab.async false
set_option linter.all false
set_option autoImplicit false
set_option maxRecDepth 100000
set_option maxHeartbeats 0
/-! The head of darkrise_k18_what_a_table_tells: printed by gen.py. -/
namespace DK.k18
open PySem L2 DK
def loose0 : List PySem.Str := ["_wall", "RiseError", "InvalidName", "InvalidNumber", "DuplicateName", "UnknownName", "SameStation", "TooMany", "InvalidPaper", "LETTERS", "LONGEST", "GREATEST", "is_name", "checked_name", "is_number", "checked_number", "told", "MOST", "KINDS", "Land", "Table", "_named", "_law_cell", "_law_take", "_law_line", "_law_plant", "_law_world", "_law_build", "_law_minutes", "_law_made"]
def loose1 : List PySem.Str := ["_law_by_right", "_law_minute"]
def loose : List PySem.Str := loose0 ++ loose1
abbrev R : PySem.W.OpenRow := PySem.W.OpenLaw.row PySem.Challenge.rw_darkrise_k18_what_a_table_tells
abbrev hk : PySem.W.Hook := He.hookX 6 fa fn [] [] (allFx fx)
def ob (s : PySem.W.SharedT) : He.AlX := He.obsX 6 fa fn [] [] (allFx fx) (HandSHeadRun.getT s)
theorem ob_eq (s : PySem.W.SharedT) : ob s = hk.obs s.abs := He.obsX_eq (HandSHeadRun.getT_eq s)
theorem run (w : World) : HandSHeadRun.RunEq R (PySem.W.view R.prog [37]) hk ob 20000 loose w := by
  intro os
  kernel_rfl
end DK.k18
open PySem PySem.W PySem.Calls PyProof.Rows
theorem DK.k18.core (hm : ∀ ns : List Int, ns.length ≤ 63 → ∃ O, DK.k18.f_law [.rol (ns.map DK.D.int)] [] = .ok (.bl true) O) : PySem.Challenge.rw_darkrise_k18_what_a_table_tells.Holds := by
  w_on; o_law
  refine HandSHeadRun.head_any (r := OpenLaw.row PySem.Challenge.rw_darkrise_k18_what_a_table_tells) (q := view (OpenLaw.row PySem.Challenge.rw_darkrise_k18_what_a_table_tells).prog [37]) (H := DK.k18.hk) (ob := DK.k18.ob) (M := 20000) (loose := DK.k18.loose) (d := HandSHeadRun.topDef (OpenLaw.row PySem.Challenge.rw_darkrise_k18_what_a_table_tells).prog 37) (kwd := []) DK.k18.ob_eq
    (by kernel_rfl) (fun s => by kernel_rfl) DK.k18.run (by kernel_rfl) (by kernel_rfl) (by kernel_rfl) (by rfl) (by first | assumption | decide +kernel) (by decide +kernel) ⟨rfl, rfl, rfl, rfl, rfl, by decide +kernel⟩ ?hw ?hc
  case hw => w_witness2
  case hc =>
    refine L2.walk_ofE (l := PySem.Challenge.rw_darkrise_k18_what_a_table_tells) (n := 63) (k := 6) (x := "script") (CX := L2.CX0) rfl (by decide) (by kernel_rfl) ⟨rfl, by decide, by decide⟩ ?F (fun _ _ _ _ z => z)
    intro w mg fa h Y G hmg0
    obtain ⟨K, KX, c⟩ := Y
    have hmg : mg ("law" : PySem.Str) = some (.ref fa) := by
      have e : (HandSHeadRun.topDef (OpenLaw.row PySem.Challenge.rw_darkrise_k18_what_a_table_tells).prog 37).name = ("law" : PySem.Str) := by kernel_rfl
      rw [← e]
      exact hmg0
    have kn : DK.k18.Kn K mg := ⟨c.t.d, c.more, h, KX, G⟩
    have e := hmg.symm.trans (kn.glo 0)
    cases e
    obtain ⟨fd1, F1⟩ := kn.c.def_ 38 (d := DK.k18.d_law) rfl
    obtain ⟨fd, F, _⟩ := DK.k18.ok_law (P := (PySem.Challenge.rw_darkrise_k18_what_a_table_tells).prog) (w := w) (base := h) kn
    have b := L2.FunD.bindsA (ps := ["script"]) F fun _ _ _ _ _ _ us hl => match us, hl with | [_], _ => rfl
    refine ⟨K, fd, DK.spLaw K DK.k18.f_law, KX, fun s v => b s [v] rfl, fun H a ns hl _ hS => ⟨a, ns, rfl, hS, hl, hm ns hl, fun _ => rfl⟩, fun base _ _ => ?_⟩
    obtain ⟨fd2, F2, O2⟩ := DK.k18.ok_law (P := (PySem.Challenge.rw_darkrise_k18_what_a_table_tells).prog) (w := w) (base := base) kn
    rw [DK.fd_eq F F2]
    exact O2
end
section
set_option Elab.async false
set_option linter.all false
set_option autoImplicit false
set_option maxRecDepth 100000
set_option maxHeartbeats 4000000
/-! K18A: a table is made, in plain Lean. -/
namespace DK.k18
open PySem L2 DK DK.W
theorem x_take : f_law_take = fTake := rfl
theorem x_world : f_law_world = W.f_law_world := rfl
theorem x_build : f_law_build = W.f_law_build := rfl
theorem x_kind : f_land_kind = W.f_land_kind := rfl
theorem x_stations : f_land_stations = W.f_land_stations := rfl
theorem x_lines : f_land_lines = W.f_land_lines := rfl
theorem x_plants : f_land_plants = W.f_land_plants := rfl
theorem x_num : f_is_number = fIsNum := rfl
section
variable {s l p v : D}
theorem lk_stations : List.lookup ("stations" : Str) [(("_stations" : Str), s), (("_lines" : Str), l), (("_plants" : Str), p), (("_selves" : Str), v)] = none := rfl
theorem lk_lines : List.lookup ("lines" : Str) [(("_stations" : Str), s), (("_lines" : Str), l), (("_plants" : Str), p), (("_selves" : Str), v)] = none := rfl
theorem lk_plants : List.lookup ("plants" : Str) [(("_stations" : Str), s), (("_lines" : Str), l), (("_plants" : Str), p), (("_selves" : Str), v)] = none := rfl
theorem lk_names : List.lookup ("names" : Str) [(("_stations" : Str), s), (("_lines" : Str), l), (("_plants" : Str), p), (("_selves" : Str), v)] = none := rfl
theorem lk_line : List.lookup ("line" : Str) [(("_stations" : Str), s), (("_lines" : Str), l), (("_plants" : Str), p), (("_selves" : Str), v)] = none := rfl
theorem lk_plant : List.lookup ("plant" : Str) [(("_stations" : Str), s), (("_lines" : Str), l), (("_plants" : Str), p), (("_selves" : Str), v)] = none := rfl
theorem lk_is_self : List.lookup ("is_self" : Str) [(("_stations" : Str), s), (("_lines" : Str), l), (("_plants" : Str), p), (("_selves" : Str), v)] = none := rfl
theorem lk_lines_at : List.lookup ("lines_at" : Str) [(("_stations" : Str), s), (("_lines" : Str), l), (("_plants" : Str), p), (("_selves" : Str), v)] = none := rfl
theorem lk_plants_at : List.lookup ("plants_at" : Str) [(("_stations" : Str), s), (("_lines" : Str), l), (("_plants" : Str), p), (("_selves" : Str), v)] = none := rfl
theorem lk_far_end : List.lookup ("far_end" : Str) [(("_stations" : Str), s), (("_lines" : Str), l), (("_plants" : Str), p), (("_selves" : Str), v)] = none := rfl
theorem lk_rows : List.lookup ("rows" : Str) [(("_stations" : Str), s), (("_lines" : Str), l), (("_plants" : Str), p), (("_selves" : Str), v)] = none := rfl
theorem lk_there : List.lookup ("_there" : Str) [(("_stations" : Str), s), (("_lines" : Str), l), (("_plants" : Str), p), (("_selves" : Str), v)] = none := rfl
theorem lk_copy : List.lookup ("copy" : Str) [(("_stations" : Str), s), (("_lines" : Str), l), (("_plants" : Str), p), (("_selves" : Str), v)] = none := rfl
theorem lk_remove_station : List.lookup ("remove_station" : Str) [(("_stations" : Str), s), (("_lines" : Str), l), (("_plants" : Str), p), (("_selves" : Str), v)] = none := rfl
theorem lk_remove_line : List.lookup ("remove_line" : Str) [(("_stations" : Str), s), (("_lines" : Str), l), (("_plants" : Str), p), (("_selves" : Str), v)] = none := rfl
theorem lk_remove_plant : List.lookup ("remove_plant" : Str) [(("_stations" : Str), s), (("_lines" : Str), l), (("_plants" : Str), p), (("_selves" : Str), v)] = none := rfl
theorem lk_add_station : List.lookup ("add_station" : Str) [(("_stations" : Str), s), (("_lines" : Str), l), (("_plants" : Str), p), (("_selves" : Str), v)] = none := rfl
theorem lk_add_line : List.lookup ("add_line" : Str) [(("_stations" : Str), s), (("_lines" : Str), l), (("_plants" : Str), p), (("_selves" : Str), v)] = none := rfl
theorem lk_add_self : List.lookup ("add_self" : Str) [(("_stations" : Str), s), (("_lines" : Str), l), (("_plants" : Str), p), (("_selves" : Str), v)] = none := rfl
theorem lk_add_plant : List.lookup ("add_plant" : Str) [(("_stations" : Str), s), (("_lines" : Str), l), (("_plants" : Str), p), (("_selves" : Str), v)] = none := rfl
theorem lk_free : List.lookup ("_free" : Str) [(("_stations" : Str), s), (("_lines" : Str), l), (("_plants" : Str), p), (("_selves" : Str), v)] = none := rfl
theorem lk_room : List.lookup ("_room" : Str) [(("_stations" : Str), s), (("_lines" : Str), l), (("_plants" : Str), p), (("_selves" : Str), v)] = none := rfl
theorem lk_kind : List.lookup ("kind" : Str) [(("_stations" : Str), s), (("_lines" : Str), l), (("_plants" : Str), p), (("_selves" : Str), v)] = none := rfl
end
/-! ### rows -/
abbrev Row := Str × Str × Option Int
def optD : Option Int → D
  | none => .non
  | some i => .int i
abbrev rowD (r : Row) : D := .tup [.str r.1, .str r.2.1, optD r.2.2]
abbrev minD (r : Row) : D := .tup [.str r.1, optD r.2.2]
def rowsK (kd : Str) (xs : List Str) (M : Str → Option Int) : List Row := xs.map fun x => (kd, x, M x)
def rowsW (w : Wd) (M : Str → Option Int) : List Row := (rowsK "station" w.st M ++ rowsK "line" (w.ls.map (·.n)) M) ++ rowsK "plant" (w.ps.map (·.n)) M
def nmsW (w : Wd) : List Str := (w.st ++ w.ls.map (·.n)) ++ w.ps.map (·.n)
theorem rowsK_len {kd : Str} {xs : List Str} {M : Str → Option Int} : (rowsK kd xs M).length = xs.length := List.length_map _
theorem rowsK_nm {kd : Str} {xs : List Str} {M : Str → Option Int} : (rowsK kd xs M).map (·.2.1) = xs := by
  unfold rowsK
  rw [List.map_map]
  exact List.map_id _
theorem rowsW_nm {w : Wd} {M : Str → Option Int} : (rowsW w M).map (·.2.1) = nmsW w := by
  unfold rowsW nmsW
  rw [List.map_append, List.map_append, rowsK_nm, rowsK_nm, rowsK_nm]
theorem rowsW_len {w : Wd} {M : Str → Option Int} : (rowsW w M).length = (nmsW w).length := by rw [← rowsW_nm (M := M), List.length_map]
theorem nmsW_nd {w : Wd} (k : WOK w) : (nmsW w).Nodup := by
  unfold nmsW
  rw [List.append_assoc]
  exact k.nd
theorem nmsW_len {w : Wd} (k : WOK w) : (nmsW w).length ≤ 19 := by
  obtain ⟨n, _, _, hs⟩ := k.st
  have h1 := k.ll
  have h2 := k.pl
  have h3 : w.st.length ≤ 6 := by rw [hs, List.length_take]; show min n 6 ≤ 6; omega
  unfold nmsW
  rw [List.length_append, List.length_append, List.length_map, List.length_map]
  omega
theorem rowsW_M {w : Wd} {M : Str → Option Int} {r : Row} (h : r ∈ rowsW w M) : r.2.2 = M r.2.1 := by
  unfold rowsW rowsK at h
  rcases List.mem_append.mp h with h | h
  · rcases List.mem_append.mp h with h | h <;> obtain ⟨x, _, rfl⟩ := List.mem_map.mp h <;> rfl
  · obtain ⟨x, _, rfl⟩ := List.mem_map.mp h
    rfl
theorem kind_in {w : Wd} {x : Str} : kindD w x = .non ↔ x ∉ nmsW w := by
  unfold kindD nmsW
  rw [List.mem_append, List.mem_append]
  by_cases c1 : x ∈ w.st
  · rw [if_pos c1]
    exact ⟨(fun z => nomatch z), fun z => absurd (.inl (.inl c1)) z⟩
  · rw [if_neg c1]
    by_cases c2 : x ∈ w.ls.map (·.n)
    · rw [if_pos c2]
      exact ⟨(fun z => nomatch z), fun z => absurd (.inl (.inr c2)) z⟩
    · rw [if_neg c2]
      by_cases c3 : x ∈ w.ps.map (·.n)
      · rw [if_pos c3]
        exact ⟨(fun z => nomatch z), fun z => absurd (.inr c3) z⟩
      · rw [if_neg c3]
        exact ⟨fun _ z => z.elim (fun z => z.elim c1 c2) c3, fun _ => rfl⟩
/-! ### minutes handed in -/
structure Mins (kvs : List (Key × D)) (M : Str → Option Int) (ns : List Str) : Prop where
  v : ∀ x, (valD kvs (.inr x)).getD .non = optD (M x)
  k : ∃ ks : List Str, kvs.map (·.1) = ks.map Sum.inr ∧ ∀ x ∈ ks, x ∈ ns
  b : ∀ x i, M x = some i → 0 ≤ i ∧ i ≤ 10 ^ 12
  l : kvs.length ≤ 1000
abbrev tab1 (n : Nat) : Ob := .ins "Table" [("_rows", .hdl (n + 1))]
abbrev tabO (n : Nat) : Ob := .ins "Table" [("_rows", .hdl (n + 1)), ("_minutes", .hdl (n + 2))]
abbrev inB : SM := (sSeq (sAsg (mDGet1 (mVar 2) (mVar 4)) (bName 5))
    (sSeq (sIf (mAnd (mTest (mOp gIsNot (mVar 5) (mC .non))) (mNot (mTest (mFn (arity 3 f_is_number) [] (mCons (mVar 5) (mCons (mC (.int 0)) (mCons (mOp gPow (mC (.int 10)) (mC (.int 12))) mNil))))))) (sRaise "InvalidPaper" (mCons (mC (.str "no minute")) mNil)) sNext)
    (sDrop (mApp (mFld "Table" "_rows" (mVar 0)) (mTup (mCons (mVar 3) (mCons (mVar 4) (mCons (mVar 5) mNil))))))))
theorem isnum_yes {O : Store} {v a c : Int} (h0 : a ≤ v) (h1 : v ≤ c) : f_is_number [.int v, .int a, .int c] O = .ok (.bl true) O := by
  simp [f_is_number, b_is_number, runF, sSeq, sIf, sNext, sDrop, sRet, sRetN, sAsg, ofRes, ofB, bName, bNil, bCons, bTup, bLst, bSubL, mTest, mOp, mVar, mC, mChain, mAnd, mOr, mNot, mIf, mAndV, mOrV, mNotV, mNeg, mCons, mNil, mTup, mLst, newL, mCall, mFn, arity, g1, g2, gLen, gInt, gAbs, gMax2, gMin2, gIx, seqOf, lsqOf, lstOf, Res.bind, ofO, gAdd_ok, gSub_ok, gEq_int, gNe_int, gLt_int, gLe_int, gGt_int, gGe_int, gEq_bl, gNe_bl, gEq_str, gNe_str, mIsi, mIsiT, tyD, kitL, kitTab, atI_c0, atI_c1, atI_c2, atI_c3, atI_c4, sForR1, int1, int2, mMeth, mMake, mFld, sFldM, gIs, gIsNot, isNon_t, sRaise, gList, newLO, h0, h1]
theorem tr1 {a : D} : List.lookup ("_rows" : Str) [(("_rows" : Str), a)] = some a := rfl
section
variable {h s l p v m : Nat} {w : Wd} {O : Store} {kvs : List (Key × D)} {M : Str → Option Int} {ns : List Str}
/-- the rows of one kind -/
theorem inner_ok {kd : Str} {xs : List Str} {acc : List D} {y4 y5 : Option D} (hm : O[m]? = some (.dct kvs)) (K : ∀ x ∈ xs, (valD kvs (.inr x)).getD .non = optD (M x)) (B : ∀ x i, M x = some i → 0 ≤ i ∧ i ≤ 10 ^ 12)
    (e : f_named [.hdl h, .str kd] (O ++ [tab1 O.length, .lst acc]) = .ok (.lst (xs.map .str)) (O ++ [tab1 O.length, .lst acc])) (hl : acc.length + xs.length ≤ 1000) :
    ∃ y4' y5', sForL (mFn (arity 2 f_named) [] (mCons (mVar 1) (mCons (mVar 3) mNil))) (bName 4) inB [some (.hdl O.length), some (.hdl h), some (.hdl m), some (.str kd), y4, y5] (O ++ [tab1 O.length, .lst acc])
      = .next [some (.hdl O.length), some (.hdl h), some (.hdl m), some (.str kd), y4', y5'] (O ++ [tab1 O.length, .lst (acc ++ (rowsK kd xs M).map rowD)]) := by
  have mlt := (List.getElem?_eq_some_iff.mp hm).1
  obtain ⟨L', O', e1, y4', y5', rfl, rfl⟩ := forL_keeps (m := mFn (arity 2 f_named) [] (mCons (mVar 1) (mCons (mVar 3) mNil))) (b := bName 4) (body := inB) (L := [some (.hdl O.length), some (.hdl h), some (.hdl m), some (.str kd), y4, y5]) (O := O ++ [tab1 O.length, .lst acc]) (O1 := O ++ [tab1 O.length, .lst acc]) (ds := xs.map .str)
    (I := fun i L O' => ∃ y4 y5 : Option D, L = [some (.hdl O.length), some (.hdl h), some (.hdl m), some (.str kd), y4, y5] ∧ O' = O ++ [tab1 O.length, .lst (acc ++ (rowsK kd (xs.take i) M).map rowD)])
    (by simp [runF, sSeq, sIf, sNext, sDrop, sRet, sRetN, sAsg, ofRes, ofB, bName, bNil, bCons, bTup, bLst, bSubL, mTest, mOp, mVar, mC, mChain, mAnd, mOr, mNot, mIf, mAndV, mOrV, mNotV, mNeg, mCons, mNil, mTup, mLst, newL, mCall, mFn, arity, g1, g2, gLen, gInt, gAbs, gMax2, gMin2, gIx, seqOf, lsqOf, lstOf, Res.bind, ofO, gAdd_ok, gSub_ok, gEq_int, gNe_int, gLt_int, gLe_int, gGt_int, gGe_int, gEq_bl, gNe_bl, gEq_str, gNe_str, mIsi, mIsiT, tyD, kitL, kitTab, atI_c0, atI_c1, atI_c2, atI_c3, atI_c4, sForR1, int1, int2, mMeth, mMake, mFld, sFldM, gIs, gIsNot, isNon_t, sRaise, gList, newLO, e]) ⟨y4, y5, rfl, by simp [rowsK]⟩ fun i d L O' hd ⟨y4, y5, hL, hO⟩ => by
      subst hL hO
      rw [List.getElem?_map] at hd
      obtain ⟨x, hx, rfl⟩ := Option.map_eq_some_iff.mp hd
      have hi := (List.getElem?_eq_some_iff.mp hx).1
      have kx := K x (List.mem_of_getElem? hx)
      have tk : (rowsK kd (xs.take (i + 1)) M).map rowD = (rowsK kd (xs.take i) M).map rowD ++ [rowD (kd, x, M x)] := by
        rw [take_snoc hx]
        unfold rowsK
        rw [List.map_append, List.map_append]
        rfl
      have al : (acc ++ (rowsK kd (xs.take i) M).map rowD).length ≤ 1000000 := by
        rw [List.length_append, List.length_map, rowsK_len, List.length_take]
        omega
      rw [tk, ← List.append_assoc]
      generalize acc ++ (rowsK kd (xs.take i) M).map rowD = zs at *
      have g1 : (O ++ [tab1 O.length, Ob.lst zs])[m]? = some (.dct kvs) := by rw [List.getElem?_append_left mlt]; exact hm
      have g2 : (O ++ [tab1 O.length, Ob.lst zs])[O.length]? = some (tab1 O.length) := by rw [List.getElem?_append_right (Nat.le_refl _)]; simp
      have g3 : (O ++ [tab1 O.length, Ob.lst zs])[O.length + 1]? = some (.lst zs) := by rw [List.getElem?_append_right (by omega)]; simp
      have st : (O ++ [tab1 O.length, Ob.lst zs]).set (O.length + 1) (.lst (zs ++ [rowD (kd, x, M x)])) = O ++ [tab1 O.length, .lst (zs ++ [rowD (kd, x, M x)])] := by
        rw [List.set_append_right _ _ (by omega), show O.length + 1 - O.length = 1 by omega]
        rfl
      have ea : mApp (mFld "Table" "_rows" (mVar 0)) (mTup (mCons (mVar 3) (mCons (mVar 4) (mCons (mVar 5) mNil)))) [some (.hdl O.length), some (.hdl h), some (.hdl m), some (.str kd), some (.str x), some (optD (M x))] (O ++ [tab1 O.length, Ob.lst zs]) = .ok .non (O ++ [tab1 O.length, .lst (zs ++ [rowD (kd, x, M x)])]) := by
        rw [← st]
        exact app_ok (O1 := O ++ [tab1 O.length, Ob.lst zs]) (O2 := O ++ [tab1 O.length, Ob.lst zs]) (xs0 := zs) (by simp [runF, sSeq, sIf, sNext, sDrop, sRet, sRetN, sAsg, ofRes, ofB, bName, bNil, bCons, bTup, bLst, bSubL, mTest, mOp, mVar, mC, mChain, mAnd, mOr, mNot, mIf, mAndV, mOrV, mNotV, mNeg, mCons, mNil, mTup, mLst, newL, mCall, mFn, arity, g1, g2, gLen, gInt, gAbs, gMax2, gMin2, gIx, seqOf, lsqOf, lstOf, Res.bind, ofO, gAdd_ok, gSub_ok, gEq_int, gNe_int, gLt_int, gLe_int, gGt_int, gGe_int, gEq_bl, gNe_bl, gEq_str, gNe_str, mIsi, mIsiT, tyD, kitL, kitTab, atI_c0, atI_c1, atI_c2, atI_c3, atI_c4, sForR1, int1, int2, mMeth, mMake, mFld, sFldM, gIs, gIsNot, isNon_t, sRaise, gList, newLO, g2, tr1]) g3 (by simp [runF, sSeq, sIf, sNext, sDrop, sRet, sRetN, sAsg, ofRes, ofB, bName, bNil, bCons, bTup, bLst, bSubL, mTest, mOp, mVar, mC, mChain, mAnd, mOr, mNot, mIf, mAndV, mOrV, mNotV, mNeg, mCons, mNil, mTup, mLst, newL, mCall, mFn, arity, g1, g2, gLen, gInt, gAbs, gMax2, gMin2, gIx, seqOf, lsqOf, lstOf, Res.bind, ofO, gAdd_ok, gSub_ok, gEq_int, gNe_int, gLt_int, gLe_int, gGt_int, gGe_int, gEq_bl, gNe_bl, gEq_str, gNe_str, mIsi, mIsiT, tyD, kitL, kitTab, atI_c0, atI_c1, atI_c2, atI_c3, atI_c4, sForR1, int1, int2, mMeth, mMake, mFld, sFldM, gIs, gIsNot, isNon_t, sRaise, gList, newLO]) g3 al
      refine ⟨[some (.hdl O.length), some (.hdl h), some (.hdl m), some (.str kd), some (.str x), some (optD (M x))], _, ?_, some (.str x), some (optD (M x)), rfl, rfl⟩
      generalize O ++ [tab1 O.length, .lst (zs ++ [rowD (kd, x, M x)])] = O2 at *
      generalize O ++ [tab1 O.length, Ob.lst zs] = O1 at *
      have pw : gPow O1 (.int 10) (.int 12) = some (.int 1000000000000, O1) := rfl
      simp only [turnOf, inB]
      generalize mApp (mFld "Table" "_rows" (mVar 0)) _ = aE at ea ⊢
      cases hM : M x with
      | none =>
        rw [hM] at kx ea
        simp only [optD] at kx ea
        simp [mDGet1, dctOf, keyD, isNon, runF, sSeq, sIf, sNext, sDrop, sRet, sRetN, sAsg, ofRes, ofB, bName, bNil, bCons, bTup, bLst, bSubL, mTest, mOp, mVar, mC, mChain, mAnd, mOr, mNot, mIf, mAndV, mOrV, mNotV, mNeg, mCons, mNil, mTup, mLst, newL, mCall, mFn, arity, g1, g2, gLen, gInt, gAbs, gMax2, gMin2, gIx, seqOf, lsqOf, lstOf, Res.bind, ofO, gAdd_ok, gSub_ok, gEq_int, gNe_int, gLt_int, gLe_int, gGt_int, gGe_int, gEq_bl, gNe_bl, gEq_str, gNe_str, mIsi, mIsiT, tyD, kitL, kitTab, atI_c0, atI_c1, atI_c2, atI_c3, atI_c4, sForR1, int1, int2, mMeth, mMake, mFld, sFldM, gIs, gIsNot, isNon_t, sRaise, gList, newLO, g1, kx, optD, ea]
      | some i =>
        rw [hM] at kx ea
        simp only [optD] at kx ea
        obtain ⟨b0, b1⟩ := B x i hM
        have nm := isnum_yes (O := O1) (v := i) (a := 0) (c := 1000000000000) b0 (by omega)
        simp [mDGet1, dctOf, keyD, isNon, runF, sSeq, sIf, sNext, sDrop, sRet, sRetN, sAsg, ofRes, ofB, bName, bNil, bCons, bTup, bLst, bSubL, mTest, mOp, mVar, mC, mChain, mAnd, mOr, mNot, mIf, mAndV, mOrV, mNotV, mNeg, mCons, mNil, mTup, mLst, newL, mCall, mFn, arity, g1, g2, gLen, gInt, gAbs, gMax2, gMin2, gIx, seqOf, lsqOf, lstOf, Res.bind, ofO, gAdd_ok, gSub_ok, gEq_int, gNe_int, gLt_int, gLe_int, gGt_int, gGe_int, gEq_bl, gNe_bl, gEq_str, gNe_str, mIsi, mIsiT, tyD, kitL, kitTab, atI_c0, atI_c1, atI_c2, atI_c3, atI_c4, sForR1, int1, int2, mMeth, mMake, mFld, sFldM, gIs, gIsNot, isNon_t, sRaise, gList, newLO, g1, kx, optD, pw, nm, ea]
  exact ⟨y4', y5', by rw [List.length_map, List.take_length] at e1; exact e1⟩
theorem nq1 : (("line" : Str) = "station") = False := eq_false (by decide)
theorem nq2 : (("plant" : Str) = "station") = False := eq_false (by decide)
theorem nq3 : (("plant" : Str) = "line") = False := eq_false (by decide)
theorem named_st (a : LandAt h s l p v w O) (k : Srt w) : f_named [.hdl h, .str "station"] O = .ok (.lst (w.st.map .str)) O := by
  have e := stations_ok a k
  rw [← x_stations] at e
  simp [f_named, b_named, runF, sSeq, sIf, sNext, sDrop, sRet, sRetN, sAsg, ofRes, ofB, bName, bNil, bCons, bTup, bLst, bSubL, mTest, mOp, mVar, mC, mChain, mAnd, mOr, mNot, mIf, mAndV, mOrV, mNotV, mNeg, mCons, mNil, mTup, mLst, newL, mCall, mFn, arity, g1, g2, gLen, gInt, gAbs, gMax2, gMin2, gIx, seqOf, lsqOf, lstOf, Res.bind, ofO, gAdd_ok, gSub_ok, gEq_int, gNe_int, gLt_int, gLe_int, gGt_int, gGe_int, gEq_bl, gNe_bl, gEq_str, gNe_str, mIsi, mIsiT, tyD, kitL, kitTab, atI_c0, atI_c1, atI_c2, atI_c3, atI_c4, sForR1, int1, int2, mMeth, mMake, mFld, sFldM, gIs, gIsNot, isNon_t, sRaise, gList, newLO, a.eo, lk_stations, lk_lines, lk_plants, lk_names, lk_line, lk_plant, lk_is_self, lk_lines_at, lk_plants_at, lk_far_end, lk_rows, lk_there, lk_copy, lk_remove_station, lk_remove_line, lk_remove_plant, lk_add_station, lk_add_line, lk_add_self, lk_add_plant, lk_free, lk_room, lk_kind, e]
theorem named_ln (a : LandAt h s l p v w O) (k : Srt w) : f_named [.hdl h, .str "line"] O = .ok (.lst ((w.ls.map (·.n)).map .str)) O := by
  have e := lines_ok a k
  rw [← x_lines] at e
  generalize (w.ls.map (·.n)).map D.str = z at *
  simp [nq1, nq2, nq3, f_named, b_named, runF, sSeq, sIf, sNext, sDrop, sRet, sRetN, sAsg, ofRes, ofB, bName, bNil, bCons, bTup, bLst, bSubL, mTest, mOp, mVar, mC, mChain, mAnd, mOr, mNot, mIf, mAndV, mOrV, mNotV, mNeg, mCons, mNil, mTup, mLst, newL, mCall, mFn, arity, g1, g2, gLen, gInt, gAbs, gMax2, gMin2, gIx, seqOf, lsqOf, lstOf, Res.bind, ofO, gAdd_ok, gSub_ok, gEq_int, gNe_int, gLt_int, gLe_int, gGt_int, gGe_int, gEq_bl, gNe_bl, gEq_str, gNe_str, mIsi, mIsiT, tyD, kitL, kitTab, atI_c0, atI_c1, atI_c2, atI_c3, atI_c4, sForR1, int1, int2, mMeth, mMake, mFld, sFldM, gIs, gIsNot, isNon_t, sRaise, gList, newLO, a.eo, lk_stations, lk_lines, lk_plants, lk_names, lk_line, lk_plant, lk_is_self, lk_lines_at, lk_plants_at, lk_far_end, lk_rows, lk_there, lk_copy, lk_remove_station, lk_remove_line, lk_remove_plant, lk_add_station, lk_add_line, lk_add_self, lk_add_plant, lk_free, lk_room, lk_kind, e]
theorem named_pl (a : LandAt h s l p v w O) (k : Srt w) : f_named [.hdl h, .str "plant"] O = .ok (.lst ((w.ps.map (·.n)).map .str)) O := by
  have e := plants_ok a k
  rw [← x_plants] at e
  generalize (w.ps.map (·.n)).map D.str = z at *
  simp [nq1, nq2, nq3, f_named, b_named, runF, sSeq, sIf, sNext, sDrop, sRet, sRetN, sAsg, ofRes, ofB, bName, bNil, bCons, bTup, bLst, bSubL, mTest, mOp, mVar, mC, mChain, mAnd, mOr, mNot, mIf, mAndV, mOrV, mNotV, mNeg, mCons, mNil, mTup, mLst, newL, mCall, mFn, arity, g1, g2, gLen, gInt, gAbs, gMax2, gMin2, gIx, seqOf, lsqOf, lstOf, Res.bind, ofO, gAdd_ok, gSub_ok, gEq_int, gNe_int, gLt_int, gLe_int, gGt_int, gGe_int, gEq_bl, gNe_bl, gEq_str, gNe_str, mIsi, mIsiT, tyD, kitL, kitTab, atI_c0, atI_c1, atI_c2, atI_c3, atI_c4, sForR1, int1, int2, mMeth, mMake, mFld, sFldM, gIs, gIsNot, isNon_t, sRaise, gList, newLO, a.eo, lk_stations, lk_lines, lk_plants, lk_names, lk_line, lk_plant, lk_is_self, lk_lines_at, lk_plants_at, lk_far_end, lk_rows, lk_there, lk_copy, lk_remove_station, lk_remove_line, lk_remove_plant, lk_add_station, lk_add_line, lk_add_self, lk_add_plant, lk_free, lk_room, lk_kind, e]
/-- the names that a land does not know -/
def strange (w : Wd) (ks : List Str) : List Str := ks.filter fun x => decide (x ∉ nmsW w)
abbrev unkE : EM := mLcD false (mVar 2) [4] (bName 4) (mTest (mOp gIs (mMeth "Land" "kind" (arity 2 f_land_kind) [] (mVar 1) (mCons (mVar 4) mNil)) (mC .non))) (mVar 4)
theorem unk_ok {ks : List Str} {y0 y3 y4 y5 : Option D} (a : LandAt h s l p v w O) (hm : O[m]? = some (.dct kvs)) (hne : h < m ∧ s < m ∧ l < m ∧ p < m ∧ v < m) (hk : kvs.map (·.1) = ks.map Sum.inr) (hl : kvs.length ≤ 1000) :
    unkE [y0, some (.hdl h), some (.hdl m), y3, y4, y5] O = .ok (.lst ((strange w ks).map .str)) O := by
  obtain ⟨n1, n2, n3, n4, n5⟩ := hne
  have a1 : LandAt h s l p v w (O.set m (.fdc kvs)) := ⟨by rw [List.getElem?_set_ne (by omega)]; exact a.eo, by rw [List.getElem?_set_ne (by omega)]; exact a.es, by rw [List.getElem?_set_ne (by omega)]; exact a.el, by rw [List.getElem?_set_ne (by omega)]; exact a.ep, by rw [List.getElem?_set_ne (by omega)]; exact a.ev, a.lp, a.sv, a.pos⟩
  have hd1 : (O.set m (.fdc kvs))[m]? = some (.fdc kvs) := set_at hm
  have back : (O.set m (.fdc kvs)).set m (.dct kvs) = O := by
    rw [List.set_set]
    exact List.ext_getElem? fun i => by
      by_cases c : i = m
      · subst c
        rw [set_at hm, hm]
      · rw [List.getElem?_set_ne (fun z => c z.symm)]
  generalize hO1 : O.set m (.fdc kvs) = O1 at *
  have kl : ks.length = kvs.length := by rw [← List.length_map (f := Sum.inr (α := Int)) (as := ks), ← hk, List.length_map]
  have kd : (kvs.map fun kv => kD kv.1) = ks.map D.str := by
    have : (kvs.map fun kv => kD kv.1) = (kvs.map (·.1)).map kD := by rw [List.map_map]; rfl
    rw [this, hk, List.map_map]
    rfl
  have eg := lc_pureG (nx := fun i _ => some (ks.map D.str)[i]?) (turn := lcTurn [4] (bName 4) (mTest (mOp gIs (mMeth "Land" "kind" (arity 2 f_land_kind) [] (mVar 1) (mCons (mVar 4) mNil)) (mC .non))) (mVar 4) [y0, some (.hdl h), some (.hdl m), y3, y4, y5]) (ds := ks.map D.str) (O := O1)
    (f := fun d => match d with | .str x => if x ∉ nmsW w then some (.str x) else none | _ => none) (fun i => rfl) (fun d hd acc ha => by
    obtain ⟨x, hx, rfl⟩ := List.mem_map.mp hd
    have e := kind_ok (nm := x) a1
    rw [← x_kind] at e
    by_cases c : x ∈ nmsW w
    · have c1 : isNon (kindD w x) = false := by
        have : kindD w x ≠ .non := fun z => kind_in.mp z c
        cases hkx : kindD w x <;> simp [isNon, hkx] at this ⊢
      simp [lcTurn, wipeL, runF, sSeq, sIf, sNext, sDrop, sRet, sRetN, sAsg, ofRes, ofB, bName, bNil, bCons, bTup, bLst, bSubL, mTest, mOp, mVar, mC, mChain, mAnd, mOr, mNot, mIf, mAndV, mOrV, mNotV, mNeg, mCons, mNil, mTup, mLst, newL, mCall, mFn, arity, g1, g2, gLen, gInt, gAbs, gMax2, gMin2, gIx, seqOf, lsqOf, lstOf, Res.bind, ofO, gAdd_ok, gSub_ok, gEq_int, gNe_int, gLt_int, gLe_int, gGt_int, gGe_int, gEq_bl, gNe_bl, gEq_str, gNe_str, mIsi, mIsiT, tyD, kitL, kitTab, atI_c0, atI_c1, atI_c2, atI_c3, atI_c4, sForR1, int1, int2, mMeth, mMake, mFld, sFldM, gIs, gIsNot, isNon_t, sRaise, gList, newLO, a1.eo, lk_stations, lk_lines, lk_plants, lk_names, lk_line, lk_plant, lk_is_self, lk_lines_at, lk_plants_at, lk_far_end, lk_rows, lk_there, lk_copy, lk_remove_station, lk_remove_line, lk_remove_plant, lk_add_station, lk_add_line, lk_add_self, lk_add_plant, lk_free, lk_room, lk_kind, e, c, c1]
    · have c1 : kindD w x = .non := kind_in.mpr c
      rw [c1] at e
      simp [lcTurn, wipeL, isNon, runF, sSeq, sIf, sNext, sDrop, sRet, sRetN, sAsg, ofRes, ofB, bName, bNil, bCons, bTup, bLst, bSubL, mTest, mOp, mVar, mC, mChain, mAnd, mOr, mNot, mIf, mAndV, mOrV, mNotV, mNeg, mCons, mNil, mTup, mLst, newL, mCall, mFn, arity, g1, g2, gLen, gInt, gAbs, gMax2, gMin2, gIx, seqOf, lsqOf, lstOf, Res.bind, ofO, gAdd_ok, gSub_ok, gEq_int, gNe_int, gLt_int, gLe_int, gGt_int, gGe_int, gEq_bl, gNe_bl, gEq_str, gNe_str, mIsi, mIsiT, tyD, kitL, kitTab, atI_c0, atI_c1, atI_c2, atI_c3, atI_c4, sForR1, int1, int2, mMeth, mMake, mFld, sFldM, gIs, gIsNot, isNon_t, sRaise, gList, newLO, a1.eo, lk_stations, lk_lines, lk_plants, lk_names, lk_line, lk_plant, lk_is_self, lk_lines_at, lk_plants_at, lk_far_end, lk_rows, lk_there, lk_copy, lk_remove_station, lk_remove_line, lk_remove_plant, lk_add_station, lk_add_line, lk_add_self, lk_add_plant, lk_free, lk_room, lk_kind, e, c, ha]) ks.length 0 [] (by simp) (by simpa using (by omega : ks.length ≤ 900000))
  have fm : ∀ xs : List Str, (xs.map D.str).filterMap (fun d => match d with | .str x => if x ∉ nmsW w then some (D.str x) else none | _ => none) = (strange w xs).map .str := fun xs => by
    induction xs with
    | nil => rfl
    | cons x xs ih =>
      unfold strange at ih ⊢
      rw [List.map_cons, List.filterMap_cons, List.filter_cons]
      by_cases c : x ∈ nmsW w
      · simp only [c, not_true_eq_false, if_false, decide_false, Bool.false_eq_true]
        exact ih
      · simp only [c, not_false_eq_true, if_true, decide_true]
        rw [ih]
        rfl
  rw [List.drop_zero, fm, List.nil_append] at eg
  have sl : (strange w ks).length ≤ ks.length := List.length_filter_le _ _
  have sl2 : ((strange w ks).map D.str).length ≤ 1000000 := by rw [List.length_map]; omega
  unfold unkE mLcD
  generalize lcTurn [4] _ _ _ _ = tn at eg ⊢
  generalize (strange w ks).map D.str = z at *
  rw [kl] at eg
  simp only [List.getElem?_map] at eg
  simp only [mVar]
  simp [hm, hO1, kd, eg, lcEnd, newL, unlockR, hd1, back, sl2]
end
end DK.k18
end
section
set_option Elab.async false
set_option linter.all false
set_option autoImplicit false
set_option maxRecDepth 100000
set_option maxHeartbeats 4000000
/-! K18B: tables made, and refused, in plain Lean. -/
namespace DK.k18
open PySem L2 DK DK.W
abbrev minB : SM := (sDPutM (mFld "Table" "_minutes" (mVar 0)) (mVar 4) (mTup (mCons (mVar 3) (mCons (mVar 5) mNil))))
abbrev g3 : BM := (bTup 3 (bCons (bName 3) (bCons (bName 4) (bCons (bName 5) bNil))))
theorem tr2 {a b : D} : List.lookup ("_rows" : Str) [(("_rows" : Str), a), (("_minutes" : Str), b)] = some a := rfl
theorem tm2 {a b : D} : List.lookup ("_minutes" : Str) [(("_rows" : Str), a), (("_minutes" : Str), b)] = some b := rfl
section
variable {h s l p v m : Nat} {w : Wd} {O : Store} {kvs : List (Key × D)} {M : Str → Option Int} {ns : List Str}
theorem minl_ok {rs : List Row} {y1 y2 y3 y4 y5 : Option D} (nd : (rs.map (·.2.1)).Nodup) (hl : rs.length ≤ 1000) :
    ∃ y3' y4' y5', sForL (mFld "Table" "_rows" (mVar 0)) g3 minB [some (.hdl O.length), y1, y2, y3, y4, y5] (O ++ [tabO O.length, .lst (rs.map rowD), .dct []])
      = .next [some (.hdl O.length), y1, y2, y3', y4', y5'] (O ++ [tabO O.length, .lst (rs.map rowD), .dct (dicS (·.2.1) minD rs)]) := by
  have q1 : ∀ x : Ob, (O ++ [tabO O.length, .lst (rs.map rowD), x])[O.length]? = some (tabO O.length) := fun x => by rw [List.getElem?_append_right (Nat.le_refl _)]; simp
  have q2 : ∀ x : Ob, (O ++ [tabO O.length, .lst (rs.map rowD), x])[O.length + 1]? = some (.lst (rs.map rowD)) := fun x => by rw [List.getElem?_append_right (by omega)]; simp
  have q3 : ∀ x : Ob, (O ++ [tabO O.length, .lst (rs.map rowD), x])[O.length + 2]? = some x := fun x => by rw [List.getElem?_append_right (by omega)]; simp
  have q4 : ∀ x y : Ob, (O ++ [tabO O.length, .lst (rs.map rowD), x]).set (O.length + 2) y = O ++ [tabO O.length, .lst (rs.map rowD), y] := fun x y => by
    rw [List.set_append_right _ _ (by omega), show O.length + 2 - O.length = 2 by omega]
    rfl
  obtain ⟨L', O', e, y3', y4', y5', rfl, rfl⟩ := loopH_keeps (turn := turnOf g3 minB) (n := O.length + 1) (xs := rs.map rowD)
    (I := fun i L O' => ∃ y3 y4 y5 : Option D, L = [some (.hdl O.length), y1, y2, y3, y4, y5] ∧ O' = O ++ [tabO O.length, .lst (rs.map rowD), .dct (dicS (·.2.1) minD (rs.take i))])
    (fun j L O' ⟨_, _, _, _, hO⟩ => by rw [hO]; exact q2 _) (rs.map rowD).length 0 [some (.hdl O.length), y1, y2, y3, y4, y5] (O ++ [tabO O.length, .lst (rs.map rowD), .dct []]) (by omega) ⟨y3, y4, y5, rfl, rfl⟩ fun j d L O' hd ⟨y3, y4, y5, hL, hO⟩ => by
      subst hL hO
      rw [List.getElem?_map] at hd
      obtain ⟨r, hr, rfl⟩ := Option.map_eq_some_iff.mp hd
      have tk := take_get hr
      have hno : r.2.1 ∉ (rs.take j).map (·.2.1) := fun z => by
        have hs : rs.take (j + 1) <+: rs := List.take_prefix _ _
        have nd2 : ((rs.take (j + 1)).map (·.2.1)).Nodup := nd.sublist (hs.sublist.map _)
        rw [tk, List.map_append, List.nodup_append] at nd2
        exact nd2.2.2 _ z _ (by simp) rfl
      have pt := put_dicS (n := fun r : Row => r.2.1) (g := minD) (x := r) (xs := rs.take j) hno
      rw [← tk] at pt
      have dl : (dicS (fun r : Row => r.2.1) minD (rs.take j)).length ≤ 1000000 := by simp; omega
      refine ⟨[some (.hdl O.length), y1, y2, some (.str r.1), some (.str r.2.1), some (optD r.2.2)], _, ?_, some (.str r.1), some (.str r.2.1), some (optD r.2.2), rfl, rfl⟩
      generalize dicS (fun r : Row => r.2.1) minD (rs.take j) = dx at *
      generalize dicS (fun r : Row => r.2.1) minD (rs.take (j + 1)) = dy at *
      have r1 := q1 (.dct dx)
      have r3 := q3 (.dct dx)
      have r4 := q4 (.dct dx) (.dct dy)
      generalize O ++ [tabO O.length, .lst (rs.map rowD), .dct dx] = O1 at *
      simp [turnOf, sDPutM, dctOf, keyD, hdlN, runF, sSeq, sIf, sNext, sDrop, sRet, sRetN, sAsg, ofRes, ofB, bName, bNil, bCons, bTup, bLst, bSubL, mTest, mOp, mVar, mC, mChain, mAnd, mOr, mNot, mIf, mAndV, mOrV, mNotV, mNeg, mCons, mNil, mTup, mLst, newL, mCall, mFn, arity, g1, g2, gLen, gInt, gAbs, gMax2, gMin2, gIx, seqOf, lsqOf, lstOf, Res.bind, ofO, gAdd_ok, gSub_ok, gEq_int, gNe_int, gLt_int, gLe_int, gGt_int, gGe_int, gEq_bl, gNe_bl, gEq_str, gNe_str, mIsi, mIsiT, tyD, kitL, kitTab, atI_c0, atI_c1, atI_c2, atI_c3, atI_c4, sForR1, int1, int2, mMeth, mMake, mFld, sFldM, gIs, gIsNot, isNon_t, sRaise, gList, newLO, r1, r3, tm2, dl, pt, r4]
  refine ⟨y3', y4', y5', ?_⟩
  rw [List.length_map, List.take_length] at e
  have e0 : mFld "Table" "_rows" (mVar 0) [some (.hdl O.length), y1, y2, y3, y4, y5] (O ++ [tabO O.length, .lst (rs.map rowD), .dct []]) = .ok (.hdl (O.length + 1)) (O ++ [tabO O.length, .lst (rs.map rowD), .dct []]) := by
    have r1 := q1 (.dct [])
    generalize O ++ [tabO O.length, .lst (rs.map rowD), .dct []] = O1 at *
    simp [runF, sSeq, sIf, sNext, sDrop, sRet, sRetN, sAsg, ofRes, ofB, bName, bNil, bCons, bTup, bLst, bSubL, mTest, mOp, mVar, mC, mChain, mAnd, mOr, mNot, mIf, mAndV, mOrV, mNotV, mNeg, mCons, mNil, mTup, mLst, newL, mCall, mFn, arity, g1, g2, gLen, gInt, gAbs, gMax2, gMin2, gIx, seqOf, lsqOf, lstOf, Res.bind, ofO, gAdd_ok, gSub_ok, gEq_int, gNe_int, gLt_int, gLe_int, gGt_int, gGe_int, gEq_bl, gNe_bl, gEq_str, gNe_str, mIsi, mIsiT, tyD, kitL, kitTab, atI_c0, atI_c1, atI_c2, atI_c3, atI_c4, sForR1, int1, int2, mMeth, mMake, mFld, sFldM, gIs, gIsNot, isNon_t, sRaise, gList, newLO, r1, tr2]
  show ofRes _ (mFld "Table" "_rows" (mVar 0) _ _) (fun d O1 => match d with
    | .lst ds => loopD (turnOf g3 minB) ds _ O1
    | .rol ds => loopD (turnOf g3 minB) ds _ O1
    | .hdl n => (match O1[n]? with
      | some (.lst xs) => loopH (turnOf g3 minB) n xs.length 0 _ O1
      | _ => .bad)
    | _ => .bad) = _
  rw [e0]
  show (match (O ++ [tabO O.length, .lst (rs.map rowD), .dct []])[O.length + 1]? with
      | some (.lst xs) => loopH (turnOf g3 minB) (O.length + 1) xs.length 0 _ _
      | _ => .bad) = _
  rw [q2]
  show loopH (turnOf g3 minB) (O.length + 1) (rs.map rowD).length 0 _ _ = _
  rw [List.length_map]
  exact e
abbrev kindsT : EM := mC (.tup [.str "station", .str "line", .str "plant"])
abbrev kB : SM := (sForL (mFn (arity 2 f_named) [] (mCons (mVar 1) (mCons (mVar 3) mNil))) (bName 4) inB)
/-- all the rows -/
theorem rows_loop (a : LandAt h s l p v w O) (k : WOK w) (hm : O[m]? = some (.dct kvs)) (K : ∀ x ∈ nmsW w, (valD kvs (.inr x)).getD .non = optD (M x)) (B : ∀ x i, M x = some i → 0 ≤ i ∧ i ≤ 10 ^ 12) :
    ∃ y3 y4 y5, sForT kindsT (bName 3) kB [some (.hdl O.length), some (.hdl h), some (.hdl m), none, none, none] (O ++ [tab1 O.length, .lst []]) = .next [some (.hdl O.length), some (.hdl h), some (.hdl m), y3, y4, y5] (O ++ [tab1 O.length, .lst ((rowsW w M).map rowD)]) := by
  have kk := k.srt
  have nl := nmsW_len k
  have nl' : (w.st.length + (w.ls.map (·.n)).length) + (w.ps.map (·.n)).length ≤ 19 := by
    unfold nmsW at nl
    rw [List.length_append, List.length_append] at nl
    exact nl
  have K1 : ∀ x ∈ w.st, (valD kvs (.inr x)).getD .non = optD (M x) := fun x hx => K x (List.mem_append_left _ (List.mem_append_left _ hx))
  have K2 : ∀ x ∈ w.ls.map (·.n), (valD kvs (.inr x)).getD .non = optD (M x) := fun x hx => K x (List.mem_append_left _ (List.mem_append_right _ hx))
  have K3 : ∀ x ∈ w.ps.map (·.n), (valD kvs (.inr x)).getD .non = optD (M x) := fun x hx => K x (List.mem_append_right _ hx)
  obtain ⟨y4, y5, e1⟩ := inner_ok (acc := []) (y4 := none) (y5 := none) hm K1 B (named_st (a.fr fr_app) kk) (by simp; omega)
  obtain ⟨z4, z5, e2⟩ := inner_ok (acc := [] ++ (rowsK "station" w.st M).map rowD) (y4 := y4) (y5 := y5) hm K2 B (named_ln (a.fr fr_app) kk) (by rw [List.nil_append, List.length_map, rowsK_len]; omega)
  obtain ⟨u4, u5, e3⟩ := inner_ok (acc := ([] ++ (rowsK "station" w.st M).map rowD) ++ (rowsK "line" (w.ls.map (·.n)) M).map rowD) (y4 := z4) (y5 := z5) hm K3 B (named_pl (a.fr fr_app) kk) (by rw [List.nil_append, List.length_append, List.length_map, List.length_map, rowsK_len, rowsK_len]; omega)
  have er : (([] ++ (rowsK "station" w.st M).map rowD) ++ (rowsK "line" (w.ls.map (·.n)) M).map rowD) ++ (rowsK "plant" (w.ps.map (·.n)) M).map rowD = (rowsW w M).map rowD := by
    unfold rowsW
    rw [List.nil_append, List.map_append, List.map_append]
  rw [er] at e3
  refine ⟨some (.str "plant"), u4, u5, ?_⟩
  simp only [kB]
  generalize sForL _ (bName 4) inB = sI at e1 e2 e3 ⊢
  generalize (rowsW w M).map rowD = zs at *
  generalize [] ++ (rowsK "station" w.st M).map rowD ++ (rowsK "line" (w.ls.map (·.n)) M).map rowD = zb at *
  generalize [] ++ (rowsK "station" w.st M).map rowD = za at *
  simp [sForT, loopD, turnOf, runF, sSeq, sIf, sNext, sDrop, sRet, sRetN, sAsg, ofRes, ofB, bName, bNil, bCons, bTup, bLst, bSubL, mTest, mOp, mVar, mC, mChain, mAnd, mOr, mNot, mIf, mAndV, mOrV, mNotV, mNeg, mCons, mNil, mTup, mLst, newL, mCall, mFn, arity, g1, g2, gLen, gInt, gAbs, gMax2, gMin2, gIx, seqOf, lsqOf, lstOf, Res.bind, ofO, gAdd_ok, gSub_ok, gEq_int, gNe_int, gLt_int, gLe_int, gGt_int, gGe_int, gEq_bl, gNe_bl, gEq_str, gNe_str, mIsi, mIsiT, tyD, kitL, kitTab, atI_c0, atI_c1, atI_c2, atI_c3, atI_c4, sForR1, int1, int2, mMeth, mMake, mFld, sFldM, gIs, gIsNot, isNon_t, sRaise, gList, newLO, e1, e2, e3]
theorem init_ok (a : LandAt h s l p v w O) (k : WOK w) (hm : O[m]? = some (.dct kvs)) (K : Mins kvs M (nmsW w)) (lt : h < m ∧ s < m ∧ l < m ∧ p < m ∧ v < m) :
    f_table_init [.hdl O.length, .hdl h, .hdl m] (O ++ [.ins "Table" []]) = .ok .non (O ++ [tabO O.length, .lst ((rowsW w M).map rowD), .dct (dicS (·.2.1) minD (rowsW w M))]) := by
  obtain ⟨y3, y4, y5, e1⟩ := rows_loop a k hm (fun x _ => K.v x) K.b
  obtain ⟨ks, hk, hks⟩ := K.k
  have mlt := (List.getElem?_eq_some_iff.mp hm).1
  have hm2 : (O ++ [tab1 O.length, .lst ((rowsW w M).map rowD)])[m]? = some (.dct kvs) := by rw [List.getElem?_append_left mlt]; exact hm
  have e2 := unk_ok (y0 := some (.hdl O.length)) (y3 := y3) (y4 := y4) (y5 := y5) (a.fr (fr_app (J := [tab1 O.length, .lst ((rowsW w M).map rowD)]))) hm2 lt hk K.l
  have st : strange w ks = [] := List.filter_eq_nil_iff.mpr fun x hx => by
    rw [decide_eq_false (fun z => z (hks x hx))]
    exact Bool.false_ne_true
  rw [st] at e2
  have nd : ((rowsW w M).map (·.2.1)).Nodup := by rw [rowsW_nm]; exact nmsW_nd k
  have rl : (rowsW w M).length ≤ 1000 := by
    have := nmsW_len k
    rw [rowsW_len]
    omega
  obtain ⟨z3, z4, z5, e3⟩ := minl_ok (O := O) (y1 := some (.hdl h)) (y2 := some (.hdl m)) (y3 := y3) (y4 := y4) (y5 := y5) nd rl
  have p1 : ∀ d : D, putD "_rows" d [] = [(("_rows" : Str), d)] := fun _ => rfl
  have p2 : ∀ d a : D, putD "_minutes" d [(("_rows" : Str), a)] = [(("_rows" : Str), a), (("_minutes" : Str), d)] := fun _ _ => rfl
  simp only [f_table_init, b_table_init]
  simp only [kindsT, kB] at e1
  simp only [unkE] at e2
  generalize sForT _ (bName 3) _ = sT at e1 ⊢
  generalize mLcD false _ [4] (bName 4) _ (mVar 4) = sU at e2 ⊢
  generalize sForL (mFld "Table" "_rows" (mVar 0)) _ _ = sM at e3 ⊢
  generalize (rowsW w M).map rowD = zs at *
  generalize dicS (fun r : Row => r.2.1) minD (rowsW w M) = zd at *
  simp only [List.map_nil] at e2
  simp [mDNew, runF, sSeq, sIf, sNext, sDrop, sRet, sRetN, sAsg, ofRes, ofB, bName, bNil, bCons, bTup, bLst, bSubL, mTest, mOp, mVar, mC, mChain, mAnd, mOr, mNot, mIf, mAndV, mOrV, mNotV, mNeg, mCons, mNil, mTup, mLst, newL, mCall, mFn, arity, g1, g2, gLen, gInt, gAbs, gMax2, gMin2, gIx, seqOf, lsqOf, lstOf, Res.bind, ofO, gAdd_ok, gSub_ok, gEq_int, gNe_int, gLt_int, gLe_int, gGt_int, gGe_int, gEq_bl, gNe_bl, gEq_str, gNe_str, mIsi, mIsiT, tyD, kitL, kitTab, atI_c0, atI_c1, atI_c2, atI_c3, atI_c4, sForR1, int1, int2, mMeth, mMake, mFld, sFldM, gIs, gIsNot, isNon_t, sRaise, gList, newLO, p1, p2, e1, e2, e3]
/-! ### refused -/
theorem init_bad1 {d : D} {rest : List Str} (a : LandAt h s l p v w O) (k : WOK w) (hw : w.st = ("ash" : Str) :: rest) (hm : O[m]? = some (.dct kvs)) (hv : (valD kvs (.inr "ash")).getD .non = d) (hn : isNon d = false) (hf : ∀ O, f_is_number [d, .int 0, .int 1000000000000] O = .ok (.bl false) O) :
    ∃ O', f_table_init [.hdl O.length, .hdl h, .hdl m] (O ++ [.ins "Table" []]) = .exc ⟨"InvalidPaper", none⟩ O' ∧ Fz O O' := by
  have mlt := (List.getElem?_eq_some_iff.mp hm).1
  have e := named_st (a.fr (fr_app (J := [tab1 O.length, .lst []]))) k.srt
  rw [hw, List.map_cons] at e
  have hm2 : (O ++ [tab1 O.length, .lst []])[m]? = some (.dct kvs) := by rw [List.getElem?_append_left mlt]; exact hm
  have p1 : ∀ d : D, putD "_rows" d [] = [(("_rows" : Str), d)] := fun _ => rfl
  have pw : ∀ O, gPow O (.int 10) (.int 12) = some (.int 1000000000000, O) := fun _ => rfl
  refine ⟨O ++ [tab1 O.length, .lst []], ?_, fz_app⟩
  generalize rest.map D.str = zs at *
  simp [f_table_init, b_table_init, sForT, sForL, loopD, turnOf, mDGet1, dctOf, keyD, runF, sSeq, sIf, sNext, sDrop, sRet, sRetN, sAsg, ofRes, ofB, bName, bNil, bCons, bTup, bLst, bSubL, mTest, mOp, mVar, mC, mChain, mAnd, mOr, mNot, mIf, mAndV, mOrV, mNotV, mNeg, mCons, mNil, mTup, mLst, newL, mCall, mFn, arity, g1, g2, gLen, gInt, gAbs, gMax2, gMin2, gIx, seqOf, lsqOf, lstOf, Res.bind, ofO, gAdd_ok, gSub_ok, gEq_int, gNe_int, gLt_int, gLe_int, gGt_int, gGe_int, gEq_bl, gNe_bl, gEq_str, gNe_str, mIsi, mIsiT, tyD, kitL, kitTab, atI_c0, atI_c1, atI_c2, atI_c3, atI_c4, sForR1, int1, int2, mMeth, mMake, mFld, sFldM, gIs, gIsNot, isNon_t, sRaise, gList, newLO, p1, e, hm2, hv, hn, pw, hf]
theorem init_bad2 {ks : List Str} (a : LandAt h s l p v w O) (k : WOK w) (hm : O[m]? = some (.dct kvs)) (K : ∀ x ∈ nmsW w, (valD kvs (.inr x)).getD .non = optD (M x)) (B : ∀ x i, M x = some i → 0 ≤ i ∧ i ≤ 10 ^ 12) (lt : h < m ∧ s < m ∧ l < m ∧ p < m ∧ v < m) (hk : kvs.map (·.1) = ks.map Sum.inr) (hl : kvs.length ≤ 1000) (hs : strange w ks ≠ []) :
    ∃ O', f_table_init [.hdl O.length, .hdl h, .hdl m] (O ++ [.ins "Table" []]) = .exc ⟨"InvalidPaper", none⟩ O' ∧ Fz O O' := by
  obtain ⟨y3, y4, y5, e1⟩ := rows_loop a k hm K B
  have mlt := (List.getElem?_eq_some_iff.mp hm).1
  have hm2 : (O ++ [tab1 O.length, .lst ((rowsW w M).map rowD)])[m]? = some (.dct kvs) := by rw [List.getElem?_append_left mlt]; exact hm
  have e2 := unk_ok (y0 := some (.hdl O.length)) (y3 := y3) (y4 := y4) (y5 := y5) (a.fr (fr_app (J := [tab1 O.length, .lst ((rowsW w M).map rowD)]))) hm2 lt hk hl
  have p1 : ∀ d : D, putD "_rows" d [] = [(("_rows" : Str), d)] := fun _ => rfl
  have sl : 0 < ((strange w ks).map D.str).length := by
    rw [List.length_map]
    exact List.length_pos_iff.mpr hs
  refine ⟨O ++ [tab1 O.length, .lst ((rowsW w M).map rowD)], ?_, fz_app⟩
  simp only [f_table_init, b_table_init]
  simp only [kindsT, kB] at e1
  simp only [unkE] at e2
  generalize sForT _ (bName 3) _ = sT at e1 ⊢
  generalize mLcD false _ [4] (bName 4) _ (mVar 4) = sU at e2 ⊢
  generalize (rowsW w M).map rowD = zs at *
  generalize (strange w ks).map D.str = zu at *
  have sl' : (0 : Int) < (zu.length : Int) := by omega
  simp [runF, sSeq, sIf, sNext, sDrop, sRet, sRetN, sAsg, ofRes, ofB, bName, bNil, bCons, bTup, bLst, bSubL, mTest, mOp, mVar, mC, mChain, mAnd, mOr, mNot, mIf, mAndV, mOrV, mNotV, mNeg, mCons, mNil, mTup, mLst, newL, mCall, mFn, arity, g1, g2, gLen, gInt, gAbs, gMax2, gMin2, gIx, seqOf, lsqOf, lstOf, Res.bind, ofO, gAdd_ok, gSub_ok, gEq_int, gNe_int, gLt_int, gLe_int, gGt_int, gGe_int, gEq_bl, gNe_bl, gEq_str, gNe_str, mIsi, mIsiT, tyD, kitL, kitTab, atI_c0, atI_c1, atI_c2, atI_c3, atI_c4, sForR1, int1, int2, mMeth, mMake, mFld, sFldM, gIs, gIsNot, isNon_t, sRaise, gList, newLO, p1, e1, e2, sl]
end
end DK.k18
end
section
set_option Elab.async false
set_option linter.all false
set_option autoImplicit false
set_option maxRecDepth 100000
set_option maxHeartbeats 4000000
/-! K18C: what a table tells, in plain Lean. -/
namespace DK.k18
open PySem L2 DK DK.W
structure TabAt (n : Nat) (rs : List Row) (O : Store) : Prop where
  eo : O[n]? = some (tabO n)
  er : O[n + 1]? = some (.lst (rs.map rowD))
  em : O[n + 2]? = some (.dct (dicS (·.2.1) minD rs))
theorem TabAt.fz {n : Nat} {rs : List Row} {O O' : Store} (t : TabAt n rs O) (f : Fz O O') : TabAt n rs O' := ⟨f.at t.eo, f.at t.er, f.at t.em⟩
theorem TabAt.fr {n : Nat} {rs : List Row} {O O' : Store} (t : TabAt n rs O) (f : Fr O O') (h : 0 < n) : TabAt n rs O' := ⟨f.at h t.eo, f.at (by omega) t.er, f.at (by omega) t.em⟩
abbrev KINDS : List Str := ["station", "line", "plant"]
structure RowsOK (rs : List Row) : Prop where
  nd : (rs.map (·.2.1)).Nodup
  l : rs.length ≤ 19
  k : ∀ r ∈ rs, r.1 ∈ KINDS
  n : ∀ r ∈ rs, r.2.1 ∈ NAMES
  b : ∀ r ∈ rs, ∀ i, r.2.2 = some i → 0 ≤ i ∧ i ≤ 10 ^ 12
theorem rows_okW {w : Wd} {M : Str → Option Int} (k : WOK w) (B : ∀ x i, M x = some i → 0 ≤ i ∧ i ≤ 10 ^ 12) : RowsOK (rowsW w M) := by
  refine ⟨by rw [rowsW_nm]; exact nmsW_nd k, by rw [rowsW_len]; exact nmsW_len k, fun r hr => ?_, fun r hr => ?_, fun r hr i hi => ?_⟩
  · unfold rowsW rowsK at hr
    rcases List.mem_append.mp hr with h | h
    · rcases List.mem_append.mp h with h | h <;> obtain ⟨x, _, rfl⟩ := List.mem_map.mp h <;> simp
    · obtain ⟨x, _, rfl⟩ := List.mem_map.mp h
      simp
  · have : r.2.1 ∈ nmsW w := by rw [← rowsW_nm (M := M)]; exact List.mem_map.mpr ⟨r, hr, rfl⟩
    unfold nmsW at this
    rcases List.mem_append.mp this with h | h
    · rcases List.mem_append.mp h with h | h
      · exact k.snm h
      · obtain ⟨x, hx, e⟩ := List.mem_map.mp h
        rw [← e]
        exact k.lnm hx
    · obtain ⟨x, hx, e⟩ := List.mem_map.mp h
      rw [← e]
      exact k.pnm hx
  · rw [rowsW_M hr] at hi
    exact B _ _ hi
/-! ### comprehensions over rows -/
def decR : D → Option Row
  | .tup [.str k, .str x, .non] => some (k, x, none)
  | .tup [.str k, .str x, .int i] => some (k, x, some i)
  | _ => none
theorem dec_row (r : Row) : decR (rowD r) = some r := by
  obtain ⟨k, x, v⟩ := r
  cases v <;> rfl
theorem fm_rows (g : Row → Option D) : ∀ rs : List Row, (rs.map rowD).filterMap (fun d => (decR d).bind g) = rs.filterMap g
  | [] => rfl
  | r :: rs => by
    rw [List.map_cons, List.filterMap_cons, List.filterMap_cons, fm_rows g rs, dec_row]
    rfl
theorem lc_rows {src : EM} {vs : List Nat} {b : BM} {tt : TM} {el : EM} {L : Loc} {O O1 : Store} {d : D} {rs : List Row} (g : Row → Option D) (hs : src L O = .ok d O1) (hd : lsqOf O1 d = some (rs.map rowD)) (hl : rs.length ≤ 1000)
    (st : ∀ r ∈ rs, ∃ L', b (rowD r) (wipeL L vs) O1 = some (L', O1) ∧ ((∃ y, tt L' O1 = .ok true O1 ∧ el L' O1 = .ok y O1 ∧ g r = some y) ∨ (tt L' O1 = .ok false O1 ∧ g r = none))) : mLcL false src vs b tt el L O = .ok (.lst (rs.filterMap g)) O1 := by
  have e := lcL_pure (tt := tt) (el := el) (vs := vs) (b := b) (fun d => (decR d).bind g) hs hd (by rw [List.length_map]; omega) fun d hd => by
    obtain ⟨r, hr, rfl⟩ := List.mem_map.mp hd
    obtain ⟨L', e1, e2⟩ := st r hr
    refine ⟨L', e1, ?_⟩
    rw [dec_row]
    exact e2
  rw [fm_rows] at e
  exact e
/-- a comprehension whose turns leave the store, few of them -/
theorem lc_few {nx : Nat → Store → Option (Option D)} {turn : D → Store → List D → Option (Store × List D)} {ds : List D} {O : Store} {f : D → Option D} {B : Nat} (hn : ∀ i, nx i O = some ds[i]?)
    (ht : ∀ d ∈ ds, ∀ acc : List D, acc.length < B → turn d O acc = some (O, acc ++ (f d).toList)) : ∀ (k i : Nat) (acc : List D), ds.length = i + k → acc.length + k ≤ B → lcG nx turn k i O acc = some (O, acc ++ (ds.drop i).filterMap f)
  | 0, i, acc, h, hl => by
    unfold lcG
    rw [hn, List.getElem?_eq_none (by omega), List.drop_eq_nil_of_le (by omega)]
    simp
  | k + 1, i, acc, h, hl => by
    have hi : i < ds.length := by omega
    unfold lcG
    rw [hn, List.getElem?_eq_getElem hi]
    show (match turn ds[i] O acc with | some p => lcG nx turn k (i + 1) p.1 p.2 | none => none) = _
    rw [ht _ (List.getElem_mem hi) acc (by omega)]
    show lcG nx turn k (i + 1) O (acc ++ (f ds[i]).toList) = _
    have hz : (f ds[i]).toList.length ≤ 1 := by cases f ds[i] <;> simp
    rw [lc_few hn ht k (i + 1) _ (by omega) (by rw [List.length_append]; omega), List.drop_eq_getElem_cons hi, List.filterMap_cons, List.append_assoc]
    cases f ds[i] <;> rfl
def valsR (rs : List Row) : List Int := rs.filterMap (·.2.2)
def thereR (rs : List Row) : List Row := rs.filter (·.2.2.isSome)
def neverR (rs : List Row) : List Str := (rs.filter (·.2.2.isNone)).map (·.2.1)
theorem valsR_len {rs : List Row} : (valsR rs).length ≤ rs.length := List.length_filterMap_le _ _
theorem thereR_len {rs : List Row} : (thereR rs).length ≤ rs.length := List.length_filter_le _ _
theorem neverR_len {rs : List Row} : (neverR rs).length ≤ rs.length := by
  unfold neverR
  rw [List.length_map]
  exact List.length_filter_le _ _
theorem fm_vals : ∀ rs : List Row, (rs.filterMap fun r => r.2.2.map D.int) = (valsR rs).map .int
  | [] => rfl
  | (k, x, v) :: rs => by
    have ih := fm_vals rs
    unfold valsR at ih ⊢
    cases v with
    | none => exact ih
    | some i =>
      show D.int i :: _ = D.int i :: _
      rw [ih]
theorem fm_never : ∀ rs : List Row, (rs.filterMap fun r => if r.2.2 = none then some (D.str r.2.1) else none) = (neverR rs).map .str
  | [] => rfl
  | (k, x, v) :: rs => by
    have ih := fm_never rs
    unfold neverR at ih ⊢
    cases v with
    | none =>
      show D.str x :: _ = D.str x :: _
      rw [ih]
      all_goals rfl
    | some i => exact ih
theorem fm_there : ∀ rs : List Row, (rs.filterMap fun r => if r.2.2 = none then none else some (rowD r)) = (thereR rs).map rowD
  | [] => rfl
  | (k, x, v) :: rs => by
    have ih := fm_there rs
    unfold thereR at ih ⊢
    cases v with
    | none => exact ih
    | some i =>
      show rowD (k, x, some i) :: _ = rowD (k, x, some i) :: _
      rw [ih]
      all_goals rfl
theorem sorted_any {O : Store} {d : D} {xs : List Str} {hm : Bool} (hd : lsqOf O d = some (xs.map D.str)) (hx : dctOf O d = none) (h1 : xs.length < 64) : gSorted hm O d = newLO hm ((sortS xs).map .str) O := by
  cases xs with
  | nil =>
    unfold gSorted
    rw [hx]
    have e1 : sortI [] = [] := by unfold sortI; exact List.mergeSort_nil
    have e2 : sortS [] = [] := by unfold sortS; exact List.mergeSort_nil
    simp [hd, intsOf, e1, e2]
  | cons x xs => exact sorted_strs hd hx (by simp) h1
theorem sorted_ints {O : Store} {d : D} {xs : List Int} {hm : Bool} (hd : lsqOf O d = some (xs.map D.int)) (hx : dctOf O d = none) (hl : xs.length ≤ 1000) : gSorted hm O d = newLO hm ((sortI xs).map .int) O := by
  unfold gSorted
  rw [hx]
  simp [hd, intsOf_map]
  omega
theorem sortS_len (xs : List Str) : (sortS xs).length = xs.length := (List.mergeSort_perm _ _).length_eq
theorem sortI_len (xs : List Int) : (sortI xs).length = xs.length := (List.mergeSort_perm _ _).length_eq
section
variable {a b : D}
theorem lt_minute : List.lookup ("minute" : Str) [(("_rows" : Str), a), (("_minutes" : Str), b)] = none := rfl
theorem lt_rows : List.lookup ("rows" : Str) [(("_rows" : Str), a), (("_minutes" : Str), b)] = none := rfl
theorem lt_never : List.lookup ("never" : Str) [(("_rows" : Str), a), (("_minutes" : Str), b)] = none := rfl
theorem lt_moments : List.lookup ("moments" : Str) [(("_rows" : Str), a), (("_minutes" : Str), b)] = none := rfl
theorem lt_last : List.lookup ("last" : Str) [(("_rows" : Str), a), (("_minutes" : Str), b)] = none := rfl
theorem lt_by : List.lookup ("by" : Str) [(("_rows" : Str), a), (("_minutes" : Str), b)] = none := rfl
theorem lt_minutes : List.lookup ("minutes" : Str) [(("_rows" : Str), a), (("_minutes" : Str), b)] = none := rfl
theorem lt_lines : List.lookup ("lines" : Str) [(("_rows" : Str), a), (("_minutes" : Str), b)] = none := rfl
end
section
variable {n : Nat} {rs : List Row} {O : Store} {x : Str}
theorem rows_ok (t : TabAt n rs O) (k : RowsOK rs) : f_table_rows [.hdl n] O = .ok (.hdl O.length) (O ++ [.lst (rs.map rowD)]) := by
  have l := k.l
  have hl : (rs.map rowD).length ≤ 1000000 := by rw [List.length_map]; omega
  have er := t.er
  generalize rs.map rowD = z at *
  simp [f_table_rows, b_table_rows, runF, sSeq, sIf, sNext, sDrop, sRet, sRetN, sAsg, ofRes, ofB, bName, bNil, bCons, bTup, bLst, bSubL, mTest, mOp, mVar, mC, mChain, mAnd, mOr, mNot, mIf, mAndV, mOrV, mNotV, mNeg, mCons, mNil, mTup, mLst, newL, mCall, mFn, arity, g1, g2, gLen, gInt, gAbs, gMax2, gMin2, gIx, seqOf, lsqOf, lstOf, Res.bind, ofO, gAdd_ok, gSub_ok, gEq_int, gNe_int, gLt_int, gLe_int, gGt_int, gGe_int, gEq_bl, gNe_bl, gEq_str, gNe_str, mIsi, mIsiT, tyD, kitL, kitTab, atI_c0, atI_c1, atI_c2, atI_c3, atI_c4, sForR1, int1, int2, mMeth, mMake, mFld, sFldM, gIs, gIsNot, isNon_t, sRaise, gList, newLO, t.eo, tr2, er, hl]
theorem never_ok (t : TabAt n rs O) (k : RowsOK rs) : f_table_never [.hdl n] O = .ok (.lst ((sortS (neverR rs)).map .str)) O := by
  have l := k.l
  have e := lc_rows (tt := (mTest (mOp gIs (mVar 3) (mC .non)))) (el := mVar 2) (vs := [1, 2, 3]) (b := (bTup 3 (bCons (bName 1) (bCons (bName 2) (bCons (bName 3) bNil))))) (src := mFld "Table" "_rows" (mVar 0)) (L := [some (.hdl n), none, none, none]) (O := O) (O1 := O) (d := .hdl (n + 1)) (rs := rs) (fun r => if r.2.2 = none then some (.str r.2.1) else none)
    (by simp [runF, sSeq, sIf, sNext, sDrop, sRet, sRetN, sAsg, ofRes, ofB, bName, bNil, bCons, bTup, bLst, bSubL, mTest, mOp, mVar, mC, mChain, mAnd, mOr, mNot, mIf, mAndV, mOrV, mNotV, mNeg, mCons, mNil, mTup, mLst, newL, mCall, mFn, arity, g1, g2, gLen, gInt, gAbs, gMax2, gMin2, gIx, seqOf, lsqOf, lstOf, Res.bind, ofO, gAdd_ok, gSub_ok, gEq_int, gNe_int, gLt_int, gLe_int, gGt_int, gGe_int, gEq_bl, gNe_bl, gEq_str, gNe_str, mIsi, mIsiT, tyD, kitL, kitTab, atI_c0, atI_c1, atI_c2, atI_c3, atI_c4, sForR1, int1, int2, mMeth, mMake, mFld, sFldM, gIs, gIsNot, isNon_t, sRaise, gList, newLO, t.eo, tr2]) (by simp [lsqOf, lstOf, t.er]) (by omega) fun r hr => by
      obtain ⟨kd, x, v⟩ := r
      cases v with
      | none => exact ⟨[some (.hdl n), some (.str kd), some (.str x), some .non], by simp [wipeL, optD, runF, sSeq, sIf, sNext, sDrop, sRet, sRetN, sAsg, ofRes, ofB, bName, bNil, bCons, bTup, bLst, bSubL, mTest, mOp, mVar, mC, mChain, mAnd, mOr, mNot, mIf, mAndV, mOrV, mNotV, mNeg, mCons, mNil, mTup, mLst, newL, mCall, mFn, arity, g1, g2, gLen, gInt, gAbs, gMax2, gMin2, gIx, seqOf, lsqOf, lstOf, Res.bind, ofO, gAdd_ok, gSub_ok, gEq_int, gNe_int, gLt_int, gLe_int, gGt_int, gGe_int, gEq_bl, gNe_bl, gEq_str, gNe_str, mIsi, mIsiT, tyD, kitL, kitTab, atI_c0, atI_c1, atI_c2, atI_c3, atI_c4, sForR1, int1, int2, mMeth, mMake, mFld, sFldM, gIs, gIsNot, isNon_t, sRaise, gList, newLO], .inl ⟨.str x, by simp [isNon, runF, sSeq, sIf, sNext, sDrop, sRet, sRetN, sAsg, ofRes, ofB, bName, bNil, bCons, bTup, bLst, bSubL, mTest, mOp, mVar, mC, mChain, mAnd, mOr, mNot, mIf, mAndV, mOrV, mNotV, mNeg, mCons, mNil, mTup, mLst, newL, mCall, mFn, arity, g1, g2, gLen, gInt, gAbs, gMax2, gMin2, gIx, seqOf, lsqOf, lstOf, Res.bind, ofO, gAdd_ok, gSub_ok, gEq_int, gNe_int, gLt_int, gLe_int, gGt_int, gGe_int, gEq_bl, gNe_bl, gEq_str, gNe_str, mIsi, mIsiT, tyD, kitL, kitTab, atI_c0, atI_c1, atI_c2, atI_c3, atI_c4, sForR1, int1, int2, mMeth, mMake, mFld, sFldM, gIs, gIsNot, isNon_t, sRaise, gList, newLO], by simp [runF, sSeq, sIf, sNext, sDrop, sRet, sRetN, sAsg, ofRes, ofB, bName, bNil, bCons, bTup, bLst, bSubL, mTest, mOp, mVar, mC, mChain, mAnd, mOr, mNot, mIf, mAndV, mOrV, mNotV, mNeg, mCons, mNil, mTup, mLst, newL, mCall, mFn, arity, g1, g2, gLen, gInt, gAbs, gMax2, gMin2, gIx, seqOf, lsqOf, lstOf, Res.bind, ofO, gAdd_ok, gSub_ok, gEq_int, gNe_int, gLt_int, gLe_int, gGt_int, gGe_int, gEq_bl, gNe_bl, gEq_str, gNe_str, mIsi, mIsiT, tyD, kitL, kitTab, atI_c0, atI_c1, atI_c2, atI_c3, atI_c4, sForR1, int1, int2, mMeth, mMake, mFld, sFldM, gIs, gIsNot, isNon_t, sRaise, gList, newLO], rfl⟩⟩
      | some i => exact ⟨[some (.hdl n), some (.str kd), some (.str x), some (.int i)], by simp [wipeL, optD, runF, sSeq, sIf, sNext, sDrop, sRet, sRetN, sAsg, ofRes, ofB, bName, bNil, bCons, bTup, bLst, bSubL, mTest, mOp, mVar, mC, mChain, mAnd, mOr, mNot, mIf, mAndV, mOrV, mNotV, mNeg, mCons, mNil, mTup, mLst, newL, mCall, mFn, arity, g1, g2, gLen, gInt, gAbs, gMax2, gMin2, gIx, seqOf, lsqOf, lstOf, Res.bind, ofO, gAdd_ok, gSub_ok, gEq_int, gNe_int, gLt_int, gLe_int, gGt_int, gGe_int, gEq_bl, gNe_bl, gEq_str, gNe_str, mIsi, mIsiT, tyD, kitL, kitTab, atI_c0, atI_c1, atI_c2, atI_c3, atI_c4, sForR1, int1, int2, mMeth, mMake, mFld, sFldM, gIs, gIsNot, isNon_t, sRaise, gList, newLO], .inr ⟨by simp [isNon, runF, sSeq, sIf, sNext, sDrop, sRet, sRetN, sAsg, ofRes, ofB, bName, bNil, bCons, bTup, bLst, bSubL, mTest, mOp, mVar, mC, mChain, mAnd, mOr, mNot, mIf, mAndV, mOrV, mNotV, mNeg, mCons, mNil, mTup, mLst, newL, mCall, mFn, arity, g1, g2, gLen, gInt, gAbs, gMax2, gMin2, gIx, seqOf, lsqOf, lstOf, Res.bind, ofO, gAdd_ok, gSub_ok, gEq_int, gNe_int, gLt_int, gLe_int, gGt_int, gGe_int, gEq_bl, gNe_bl, gEq_str, gNe_str, mIsi, mIsiT, tyD, kitL, kitTab, atI_c0, atI_c1, atI_c2, atI_c3, atI_c4, sForR1, int1, int2, mMeth, mMake, mFld, sFldM, gIs, gIsNot, isNon_t, sRaise, gList, newLO], rfl⟩⟩
  rw [fm_never] at e
  have sl := sortS_len (neverR rs)
  have nl := neverR_len (rs := rs)
  have es : gSorted false O (.lst ((neverR rs).map .str)) = some (.lst ((sortS (neverR rs)).map .str), O) := by
    rw [sorted_any (xs := neverR rs) rfl rfl (by omega)]
    simp [newLO]
    omega
  generalize (sortS (neverR rs)).map D.str = z1 at *
  generalize (neverR rs).map D.str = z2 at *
  simp only [f_table_never, b_table_never]
  generalize mLcL false _ [1, 2, 3] _ _ (mVar 2) = sL at e ⊢
  simp [runF, sSeq, sIf, sNext, sDrop, sRet, sRetN, sAsg, ofRes, ofB, bName, bNil, bCons, bTup, bLst, bSubL, mTest, mOp, mVar, mC, mChain, mAnd, mOr, mNot, mIf, mAndV, mOrV, mNotV, mNeg, mCons, mNil, mTup, mLst, newL, mCall, mFn, arity, g1, g2, gLen, gInt, gAbs, gMax2, gMin2, gIx, seqOf, lsqOf, lstOf, Res.bind, ofO, gAdd_ok, gSub_ok, gEq_int, gNe_int, gLt_int, gLe_int, gGt_int, gGe_int, gEq_bl, gNe_bl, gEq_str, gNe_str, mIsi, mIsiT, tyD, kitL, kitTab, atI_c0, atI_c1, atI_c2, atI_c3, atI_c4, sForR1, int1, int2, mMeth, mMake, mFld, sFldM, gIs, gIsNot, isNon_t, sRaise, gList, newLO, e, es]
theorem moments_ok (t : TabAt n rs O) (k : RowsOK rs) : f_table_moments [.hdl n] O = .ok (.lst ((sortU (valsR rs)).map .int)) O := by
  have l := k.l
  have vl := valsR_len (rs := rs)
  have eg := lc_few (nx := fun i O => (lsqOf O (.hdl (n + 1))).map (·[i]?)) (turn := scTurn [1, 2, 3] (bTup 3 (bCons (bName 1) (bCons (bName 2) (bCons (bName 3) bNil)))) (mTest (mOp gIsNot (mVar 3) (mC .non))) (mVar 3) [some (.hdl n), none, none, none]) (ds := rs.map rowD) (O := O) (B := 4000)
    (f := fun d => (decR d).bind fun r => r.2.2.map D.int) (fun i => by simp [lsqOf, lstOf, t.er]) (fun d hd acc ha => by
      obtain ⟨r, hr, rfl⟩ := List.mem_map.mp hd
      obtain ⟨kd, x, v⟩ := r
      rw [dec_row]
      cases v with
      | none => simp [scTurn, wipeL, optD, isNon, runF, sSeq, sIf, sNext, sDrop, sRet, sRetN, sAsg, ofRes, ofB, bName, bNil, bCons, bTup, bLst, bSubL, mTest, mOp, mVar, mC, mChain, mAnd, mOr, mNot, mIf, mAndV, mOrV, mNotV, mNeg, mCons, mNil, mTup, mLst, newL, mCall, mFn, arity, g1, g2, gLen, gInt, gAbs, gMax2, gMin2, gIx, seqOf, lsqOf, lstOf, Res.bind, ofO, gAdd_ok, gSub_ok, gEq_int, gNe_int, gLt_int, gLe_int, gGt_int, gGe_int, gEq_bl, gNe_bl, gEq_str, gNe_str, mIsi, mIsiT, tyD, kitL, kitTab, atI_c0, atI_c1, atI_c2, atI_c3, atI_c4, sForR1, int1, int2, mMeth, mMake, mFld, sFldM, gIs, gIsNot, isNon_t, sRaise, gList, newLO]
      | some i => simp [scTurn, wipeL, optD, isNon, runF, sSeq, sIf, sNext, sDrop, sRet, sRetN, sAsg, ofRes, ofB, bName, bNil, bCons, bTup, bLst, bSubL, mTest, mOp, mVar, mC, mChain, mAnd, mOr, mNot, mIf, mAndV, mOrV, mNotV, mNeg, mCons, mNil, mTup, mLst, newL, mCall, mFn, arity, g1, g2, gLen, gInt, gAbs, gMax2, gMin2, gIx, seqOf, lsqOf, lstOf, Res.bind, ofO, gAdd_ok, gSub_ok, gEq_int, gNe_int, gLt_int, gLe_int, gGt_int, gGe_int, gEq_bl, gNe_bl, gEq_str, gNe_str, mIsi, mIsiT, tyD, kitL, kitTab, atI_c0, atI_c1, atI_c2, atI_c3, atI_c4, sForR1, int1, int2, mMeth, mMake, mFld, sFldM, gIs, gIsNot, isNon_t, sRaise, gList, newLO, ha]) (rs.map rowD).length 0 [] (by omega) (by rw [List.length_map]; simp; omega)
  rw [List.drop_zero, fm_rows, fm_vals, List.nil_append] at eg
  have dl := distU_len (valsR rs)
  have sl : (sortU (valsR rs)).length = (distU (valsR rs)).length := (List.mergeSort_perm _ _).length_eq
  have e : mSortSet false (mFld "Table" "_rows" (mVar 0)) [1, 2, 3] (bTup 3 (bCons (bName 1) (bCons (bName 2) (bCons (bName 3) bNil)))) (mTest (mOp gIsNot (mVar 3) (mC .non))) (mVar 3) [some (.hdl n), none, none, none] O = .ok (.lst ((sortU (valsR rs)).map .int)) O := by
    have e0 : mFld "Table" "_rows" (mVar 0) [some (.hdl n), none, none, none] O = .ok (.hdl (n + 1)) O := by simp [runF, sSeq, sIf, sNext, sDrop, sRet, sRetN, sAsg, ofRes, ofB, bName, bNil, bCons, bTup, bLst, bSubL, mTest, mOp, mVar, mC, mChain, mAnd, mOr, mNot, mIf, mAndV, mOrV, mNotV, mNeg, mCons, mNil, mTup, mLst, newL, mCall, mFn, arity, g1, g2, gLen, gInt, gAbs, gMax2, gMin2, gIx, seqOf, lsqOf, lstOf, Res.bind, ofO, gAdd_ok, gSub_ok, gEq_int, gNe_int, gLt_int, gLe_int, gGt_int, gGe_int, gEq_bl, gNe_bl, gEq_str, gNe_str, mIsi, mIsiT, tyD, kitL, kitTab, atI_c0, atI_c1, atI_c2, atI_c3, atI_c4, sForR1, int1, int2, mMeth, mMake, mFld, sFldM, gIs, gIsNot, isNon_t, sRaise, gList, newLO, t.eo, tr2]
    unfold mSortSet
    rw [e0]
    have el : lsqOf O (.hdl (n + 1)) = some (rs.map rowD) := by simp [lsqOf, lstOf, t.er]
    simp only [Res.bind]
    rw [el]
    simp only []
    rw [eg]
    simp only [scEnd, intsOf_map]
    rw [if_pos (by omega)]
    simp [newL]
    omega
  generalize (sortU (valsR rs)).map D.int = z at *
  simp only [f_table_moments, b_table_moments]
  generalize mSortSet false _ [1, 2, 3] _ _ (mVar 3) = sS at e ⊢
  simp [runF, sSeq, sIf, sNext, sDrop, sRet, sRetN, sAsg, ofRes, ofB, bName, bNil, bCons, bTup, bLst, bSubL, mTest, mOp, mVar, mC, mChain, mAnd, mOr, mNot, mIf, mAndV, mOrV, mNotV, mNeg, mCons, mNil, mTup, mLst, newL, mCall, mFn, arity, g1, g2, gLen, gInt, gAbs, gMax2, gMin2, gIx, seqOf, lsqOf, lstOf, Res.bind, ofO, gAdd_ok, gSub_ok, gEq_int, gNe_int, gLt_int, gLe_int, gGt_int, gGe_int, gEq_bl, gNe_bl, gEq_str, gNe_str, mIsi, mIsiT, tyD, kitL, kitTab, atI_c0, atI_c1, atI_c2, atI_c3, atI_c4, sForR1, int1, int2, mMeth, mMake, mFld, sFldM, gIs, gIsNot, isNon_t, sRaise, gList, newLO, e]
def lastR (rs : List Row) : Int := (sortU (valsR rs)).foldl (fun a b => if b > a then b else a) 0
theorem max_ok {us : List Int} {d : D} (h : lsqOf O d = some ((0 :: us).map .int)) : gMaxL O d = some (.int (us.foldl (fun a b => if b > a then b else a) 0), O) := by
  unfold gMaxL
  simp only [h, intsOf_map]
  rfl
theorem last_ok (t : TabAt n rs O) (k : RowsOK rs) : f_table_last [.hdl n] O = .ok (.int (lastR rs)) O := by
  have l := k.l
  have vl := valsR_len (rs := rs)
  have dl := distU_len (valsR rs)
  have sl : (sortU (valsR rs)).length = (distU (valsR rs)).length := (List.mergeSort_perm _ _).length_eq
  have e := moments_ok t k
  have ea : gAdd false O (.lst [.int 0]) (.lst ((sortU (valsR rs)).map .int)) = some (.lst ((0 :: sortU (valsR rs)).map .int), O) := by
    simp [gAdd, lsqOf, lstOf, newLO]
    omega
  have em := max_ok (O := O) (us := sortU (valsR rs)) (d := .lst ((0 :: sortU (valsR rs)).map .int)) rfl
  unfold lastR
  generalize (sortU (valsR rs)).foldl (fun a b => if b > a then b else a) 0 = mx at *
  generalize (0 :: sortU (valsR rs)).map D.int = z0 at *
  generalize (sortU (valsR rs)).map D.int = z at *
  simp [f_table_last, b_table_last, runF, sSeq, sIf, sNext, sDrop, sRet, sRetN, sAsg, ofRes, ofB, bName, bNil, bCons, bTup, bLst, bSubL, mTest, mOp, mVar, mC, mChain, mAnd, mOr, mNot, mIf, mAndV, mOrV, mNotV, mNeg, mCons, mNil, mTup, mLst, newL, mCall, mFn, arity, g1, g2, gLen, gInt, gAbs, gMax2, gMin2, gIx, seqOf, lsqOf, lstOf, Res.bind, ofO, gAdd_ok, gSub_ok, gEq_int, gNe_int, gLt_int, gLe_int, gGt_int, gGe_int, gEq_bl, gNe_bl, gEq_str, gNe_str, mIsi, mIsiT, tyD, kitL, kitTab, atI_c0, atI_c1, atI_c2, atI_c3, atI_c4, sForR1, int1, int2, mMeth, mMake, mFld, sFldM, gIs, gIsNot, isNon_t, sRaise, gList, newLO, t.eo, lt_moments, e, ea, em]
theorem minute_ok (t : TabAt n rs O) (k : RowsOK rs) {r : Row} (hr : r ∈ rs) : f_law_minute [.hdl n, .str r.2.1] O = .ok (optD r.2.2) O := by
  have v := val_nm (g := minD) k.nd hr
  have em := t.em
  generalize dicS (fun r : Row => r.2.1) minD rs = z at *
  have e : f_table_minute [.hdl n, .str r.2.1] O = .ok (optD r.2.2) O := by
    simp [f_table_minute, b_table_minute, mDIn, mDGet, dctOf, keyD, runF, sSeq, sIf, sNext, sDrop, sRet, sRetN, sAsg, ofRes, ofB, bName, bNil, bCons, bTup, bLst, bSubL, mTest, mOp, mVar, mC, mChain, mAnd, mOr, mNot, mIf, mAndV, mOrV, mNotV, mNeg, mCons, mNil, mTup, mLst, newL, mCall, mFn, arity, g1, g2, gLen, gInt, gAbs, gMax2, gMin2, gIx, seqOf, lsqOf, lstOf, Res.bind, ofO, gAdd_ok, gSub_ok, gEq_int, gNe_int, gLt_int, gLe_int, gGt_int, gGe_int, gEq_bl, gNe_bl, gEq_str, gNe_str, mIsi, mIsiT, tyD, kitL, kitTab, atI_c0, atI_c1, atI_c2, atI_c3, atI_c4, sForR1, int1, int2, mMeth, mMake, mFld, sFldM, gIs, gIsNot, isNon_t, sRaise, gList, newLO, t.eo, tm2, em, v]
  simp [f_law_minute, b_law_minute, sTry, runF, sSeq, sIf, sNext, sDrop, sRet, sRetN, sAsg, ofRes, ofB, bName, bNil, bCons, bTup, bLst, bSubL, mTest, mOp, mVar, mC, mChain, mAnd, mOr, mNot, mIf, mAndV, mOrV, mNotV, mNeg, mCons, mNil, mTup, mLst, newL, mCall, mFn, arity, g1, g2, gLen, gInt, gAbs, gMax2, gMin2, gIx, seqOf, lsqOf, lstOf, Res.bind, ofO, gAdd_ok, gSub_ok, gEq_int, gNe_int, gLt_int, gLe_int, gGt_int, gGe_int, gEq_bl, gNe_bl, gEq_str, gNe_str, mIsi, mIsiT, tyD, kitL, kitTab, atI_c0, atI_c1, atI_c2, atI_c3, atI_c4, sForR1, int1, int2, mMeth, mMake, mFld, sFldM, gIs, gIsNot, isNon_t, sRaise, gList, newLO, t.eo, lt_minute, e]
theorem minute_no (t : TabAt n rs O) (hx : x ∉ rs.map (·.2.1)) : f_law_minute [.hdl n, .str x] O = .ok (.str "unknown") O := by
  have v := val_no (g := minD) hx
  have em := t.em
  generalize dicS (fun r : Row => r.2.1) minD rs = z at *
  have e : f_table_minute [.hdl n, .str x] O = .exc ⟨"UnknownName", none⟩ O := by
    simp [f_table_minute, b_table_minute, mDIn, mDGet, dctOf, keyD, runF, sSeq, sIf, sNext, sDrop, sRet, sRetN, sAsg, ofRes, ofB, bName, bNil, bCons, bTup, bLst, bSubL, mTest, mOp, mVar, mC, mChain, mAnd, mOr, mNot, mIf, mAndV, mOrV, mNotV, mNeg, mCons, mNil, mTup, mLst, newL, mCall, mFn, arity, g1, g2, gLen, gInt, gAbs, gMax2, gMin2, gIx, seqOf, lsqOf, lstOf, Res.bind, ofO, gAdd_ok, gSub_ok, gEq_int, gNe_int, gLt_int, gLe_int, gGt_int, gGe_int, gEq_bl, gNe_bl, gEq_str, gNe_str, mIsi, mIsiT, tyD, kitL, kitTab, atI_c0, atI_c1, atI_c2, atI_c3, atI_c4, sForR1, int1, int2, mMeth, mMake, mFld, sFldM, gIs, gIsNot, isNon_t, sRaise, gList, newLO, t.eo, tm2, em, v]
  have sb : sub_law_minute_309 "UnknownName" = some true := rfl
  simp [f_law_minute, b_law_minute, sTry, runF, sSeq, sIf, sNext, sDrop, sRet, sRetN, sAsg, ofRes, ofB, bName, bNil, bCons, bTup, bLst, bSubL, mTest, mOp, mVar, mC, mChain, mAnd, mOr, mNot, mIf, mAndV, mOrV, mNotV, mNeg, mCons, mNil, mTup, mLst, newL, mCall, mFn, arity, g1, g2, gLen, gInt, gAbs, gMax2, gMin2, gIx, seqOf, lsqOf, lstOf, Res.bind, ofO, gAdd_ok, gSub_ok, gEq_int, gNe_int, gLt_int, gLe_int, gGt_int, gGe_int, gEq_bl, gNe_bl, gEq_str, gNe_str, mIsi, mIsiT, tyD, kitL, kitTab, atI_c0, atI_c1, atI_c2, atI_c3, atI_c4, sForR1, int1, int2, mMeth, mMake, mFld, sFldM, gIs, gIsNot, isNon_t, sRaise, gList, newLO, t.eo, lt_minute, e, sb]
end
end DK.k18
end
section
set_option Elab.async false
set_option linter.all false
set_option autoImplicit false
set_option maxRecDepth 100000
set_option maxHeartbeats 4000000
/-! K18D: minutes, lines, what is there by a minute, sameness, in plain Lean. -/
namespace DK.k18
open PySem L2 DK DK.W
/-! ### the dict of minutes -/
theorem dc_pure {nx : Nat → Store → Option (Option D)} {turn : D → Store → List (Key × D) → Option (Store × List (Key × D))} {ds : List D} {O : Store} (A : Nat → List (Key × D)) (hn : ∀ i, nx i O = some ds[i]?)
    (ht : ∀ i d, ds[i]? = some d → turn d O (A i) = some (O, A (i + 1))) : ∀ (k i : Nat), ds.length = i + k → dcG nx turn k i O (A i) = some (O, A ds.length)
  | 0, i, h => by
    unfold dcG
    rw [hn, List.getElem?_eq_none (by omega), show ds.length = i by omega]
  | k + 1, i, h => by
    have hi : i < ds.length := by omega
    unfold dcG
    rw [hn, List.getElem?_eq_getElem hi]
    show (match turn ds[i] O (A i) with | some p => dcG nx turn k (i + 1) p.1 p.2 | none => none) = _
    rw [ht i _ (List.getElem?_eq_getElem hi)]
    exact dc_pure A hn ht k (i + 1) (by omega)
abbrev minsR (rs : List Row) : List (Key × D) := dicS (fun r : Row => r.2.1) (fun r => optD r.2.2) (thereR rs)
theorem there_take {rs : List Row} {i : Nat} {r : Row} (h : rs[i]? = some r) : thereR (rs.take (i + 1)) = thereR (rs.take i) ++ (if r.2.2.isSome = true then [r] else []) := by
  unfold thereR
  rw [take_get h, List.filter_append, List.filter_cons]
  all_goals rfl
theorem there_nm {rs : List Row} {i : Nat} {r : Row} (nd : (rs.map (·.2.1)).Nodup) (h : rs[i]? = some r) : r.2.1 ∉ (thereR (rs.take i)).map (·.2.1) := fun z => by
  have nd2 : ((rs.take (i + 1)).map (·.2.1)).Nodup := nd.sublist ((List.take_prefix _ _).sublist.map _)
  rw [take_get h, List.map_append, List.nodup_append] at nd2
  obtain ⟨y, hy, e⟩ := List.mem_map.mp z
  exact nd2.2.2 _ (List.mem_map.mpr ⟨y, (List.mem_filter.mp hy).1, e⟩) _ (by simp) rfl
section
variable {n : Nat} {rs : List Row} {O : Store} {x : Str}
theorem minutes_ok (t : TabAt n rs O) (k : RowsOK rs) : f_table_minutes [.hdl n] O = .ok (.hdl O.length) (O ++ [.dct (minsR rs)]) := by
  have l := k.l
  have eg := dc_pure (nx := fun i O => (lsqOf O (.hdl (n + 1))).map (·[i]?)) (turn := dcTurn [1, 2, 3] (bTup 3 (bCons (bName 1) (bCons (bName 2) (bCons (bName 3) bNil)))) (mTest (mOp gIsNot (mVar 3) (mC .non))) (mVar 2) (mVar 3) [some (.hdl n), none, none, none]) (ds := rs.map rowD) (O := O)
    (fun i => minsR (rs.take i)) (fun i => by simp [lsqOf, lstOf, t.er]) (fun i d hd => by
      rw [List.getElem?_map] at hd
      obtain ⟨r, hr, rfl⟩ := Option.map_eq_some_iff.mp hd
      have hi := (List.getElem?_eq_some_iff.mp hr).1
      have tk := there_take hr
      have no := there_nm k.nd hr
      have pt := put_dicS (n := fun r : Row => r.2.1) (g := fun r => optD r.2.2) (x := r) (xs := thereR (rs.take i)) no
      have al : (minsR (rs.take i)).length ≤ 900000 := by
        show (List.map _ _).length ≤ _
        rw [List.length_map]
        have h1 := thereR_len (rs := rs.take i)
        rw [List.length_take] at h1
        omega
      show dcTurn _ _ _ _ _ _ _ _ (minsR (rs.take i)) = some (O, minsR (rs.take (i + 1)))
      unfold minsR at al ⊢
      rw [tk]
      obtain ⟨kd, x, v⟩ := r
      cases v with
      | none =>
        simp only [Option.isSome_none, Bool.false_eq_true, if_false, List.append_nil]
        generalize dicS (fun r : Row => r.2.1) (fun r => optD r.2.2) (thereR (rs.take i)) = da at *
        simp [dcTurn, wipeL, optD, isNon, runF, sSeq, sIf, sNext, sDrop, sRet, sRetN, sAsg, ofRes, ofB, bName, bNil, bCons, bTup, bLst, bSubL, mTest, mOp, mVar, mC, mChain, mAnd, mOr, mNot, mIf, mAndV, mOrV, mNotV, mNeg, mCons, mNil, mTup, mLst, newL, mCall, mFn, arity, g1, g2, gLen, gInt, gAbs, gMax2, gMin2, gIx, seqOf, lsqOf, lstOf, Res.bind, ofO, gAdd_ok, gSub_ok, gEq_int, gNe_int, gLt_int, gLe_int, gGt_int, gGe_int, gEq_bl, gNe_bl, gEq_str, gNe_str, mIsi, mIsiT, tyD, kitL, kitTab, atI_c0, atI_c1, atI_c2, atI_c3, atI_c4, sForR1, int1, int2, mMeth, mMake, mFld, sFldM, gIs, gIsNot, isNon_t, sRaise, gList, newLO]
      | some j =>
        simp only [Option.isSome_some, if_true]
        generalize dicS (fun r : Row => r.2.1) (fun r => optD r.2.2) (thereR (rs.take i) ++ [(kd, x, some j)]) = db at *
        generalize dicS (fun r : Row => r.2.1) (fun r => optD r.2.2) (thereR (rs.take i)) = da at *
        simp only [optD] at pt
        simp [dcTurn, wipeL, optD, isNon, keyD, runF, sSeq, sIf, sNext, sDrop, sRet, sRetN, sAsg, ofRes, ofB, bName, bNil, bCons, bTup, bLst, bSubL, mTest, mOp, mVar, mC, mChain, mAnd, mOr, mNot, mIf, mAndV, mOrV, mNotV, mNeg, mCons, mNil, mTup, mLst, newL, mCall, mFn, arity, g1, g2, gLen, gInt, gAbs, gMax2, gMin2, gIx, seqOf, lsqOf, lstOf, Res.bind, ofO, gAdd_ok, gSub_ok, gEq_int, gNe_int, gLt_int, gLe_int, gGt_int, gGe_int, gEq_bl, gNe_bl, gEq_str, gNe_str, mIsi, mIsiT, tyD, kitL, kitTab, atI_c0, atI_c1, atI_c2, atI_c3, atI_c4, sForR1, int1, int2, mMeth, mMake, mFld, sFldM, gIs, gIsNot, isNon_t, sRaise, gList, newLO, al, pt]) (rs.map rowD).length 0 (by omega)
  have e1 : rs.take (rs.map rowD).length = rs := by rw [List.length_map, List.take_length]
  rw [e1] at eg
  replace eg : dcG _ _ (rs.map rowD).length 0 O [] = _ := eg
  have e : mDcL (mFld "Table" "_rows" (mVar 0)) [1, 2, 3] (bTup 3 (bCons (bName 1) (bCons (bName 2) (bCons (bName 3) bNil)))) (mTest (mOp gIsNot (mVar 3) (mC .non))) (mVar 2) (mVar 3) [some (.hdl n), none, none, none] O = .ok (.hdl O.length) (O ++ [.dct (minsR rs)]) := by
    have e0 : mFld "Table" "_rows" (mVar 0) [some (.hdl n), none, none, none] O = .ok (.hdl (n + 1)) O := by simp [runF, sSeq, sIf, sNext, sDrop, sRet, sRetN, sAsg, ofRes, ofB, bName, bNil, bCons, bTup, bLst, bSubL, mTest, mOp, mVar, mC, mChain, mAnd, mOr, mNot, mIf, mAndV, mOrV, mNotV, mNeg, mCons, mNil, mTup, mLst, newL, mCall, mFn, arity, g1, g2, gLen, gInt, gAbs, gMax2, gMin2, gIx, seqOf, lsqOf, lstOf, Res.bind, ofO, gAdd_ok, gSub_ok, gEq_int, gNe_int, gLt_int, gLe_int, gGt_int, gGe_int, gEq_bl, gNe_bl, gEq_str, gNe_str, mIsi, mIsiT, tyD, kitL, kitTab, atI_c0, atI_c1, atI_c2, atI_c3, atI_c4, sForR1, int1, int2, mMeth, mMake, mFld, sFldM, gIs, gIsNot, isNon_t, sRaise, gList, newLO, t.eo, tr2]
    unfold mDcL
    rw [e0]
    have el : lsqOf O (.hdl (n + 1)) = some (rs.map rowD) := by simp [lsqOf, lstOf, t.er]
    simp only [Res.bind]
    rw [el]
    simp only []
    rw [eg]
    rfl
  simp only [f_table_minutes, b_table_minutes]
  generalize mDcL _ _ _ _ _ _ = sS at e ⊢
  simp [runF, sSeq, sIf, sNext, sDrop, sRet, sRetN, sAsg, ofRes, ofB, bName, bNil, bCons, bTup, bLst, bSubL, mTest, mOp, mVar, mC, mChain, mAnd, mOr, mNot, mIf, mAndV, mOrV, mNotV, mNeg, mCons, mNil, mTup, mLst, newL, mCall, mFn, arity, g1, g2, gLen, gInt, gAbs, gMax2, gMin2, gIx, seqOf, lsqOf, lstOf, Res.bind, ofO, gAdd_ok, gSub_ok, gEq_int, gNe_int, gLt_int, gLe_int, gGt_int, gGe_int, gEq_bl, gNe_bl, gEq_str, gNe_str, mIsi, mIsiT, tyD, kitL, kitTab, atI_c0, atI_c1, atI_c2, atI_c3, atI_c4, sForR1, int1, int2, mMeth, mMake, mFld, sFldM, gIs, gIsNot, isNon_t, sRaise, gList, newLO, e]
end
/-! ### texts -/
theorem strOk_app {a b : Str} (h1 : PyData.strOk a = true) (h2 : PyData.strOk b = true) : PyData.strOk (a ++ b) = true := by
  show (a.cps ++ b.cps).all _ = true
  rw [Array.all_append]
  exact Bool.and_eq_true_iff.mpr ⟨h1, h2⟩
theorem strs_len (a b : Str) : (a ++ b).length = a.length + b.length := by
  show (a.cps ++ b.cps).size = _
  rw [Array.size_append]
  rfl
theorem add_str {O : Store} {h : Bool} {a b : Str} (hl : a.length + b.length ≤ 1000000) : gAdd h O (.str a) (.str b) = some (.str (a ++ b), O) := by
  show (if a.length + b.length ≤ 1000000 then some (D.str (a ++ b), O) else none) = _
  rw [if_pos hl]
def txI (i : Int) : Str := Str.ofString (toString i)
theorem tx_len {i : Int} (h0 : 0 ≤ i) (h1 : i ≤ 10 ^ 12) : (txI i).length ≤ 13 := by
  obtain ⟨m, rfl⟩ : ∃ m : Nat, i = m := ⟨i.toNat, by omega⟩
  have e := PySem.W.KIN.signs_num m
  have l : (txI (m : Int)).cps.toList.length = (Nat.toDigits 10 m).length := by
    show (Str.ofString (toString ((m : Nat) : Int))).cps.toList.length = _
    rw [e, List.length_map]
  have d := PyProof.Rows.digits10_le (k := 13) (n := m) (by omega) (by omega)
  rw [Array.length_toList] at l
  show (txI (m : Int)).cps.size ≤ 13
  omega
theorem tx_ok {i : Int} (h0 : 0 ≤ i) : PyData.strOk (txI i) = true := by
  obtain ⟨m, rfl⟩ : ∃ m : Nat, i = m := ⟨i.toNat, by omega⟩
  have e := PySem.W.KIN.signs_num m
  show (Str.ofString (toString ((m : Nat) : Int))).cps.all _ = true
  rw [← Array.all_toList, e, List.all_map, List.all_eq_true]
  intro c _
  refine decide_eq_true ?_
  have v := c.valid
  show c.val.toNat < 0x110000
  unfold UInt32.isValidChar Nat.isValidChar at v
  omega
theorem str_i {O : Store} {i : Int} (h0 : 0 ≤ i) (h1 : i ≤ 10 ^ 12) : gStr O (.int i) = some (.str (txI i), O) := by
  have hb : i.natAbs.log2 < 1920 := by
    by_cases c : i.natAbs = 0
    · rw [c]
      decide
    · rw [Nat.log2_lt c]
      have h2 : i.natAbs ≤ 10 ^ 12 := by omega
      exact Nat.lt_of_le_of_lt h2 (by decide)
  show (if i.natAbs.log2 < 1920 then some (D.str (txI i), O) else none) = _
  rw [if_pos hb]
def txV : Option Int → Str
  | none => "never"
  | some i => txI i
def lineT (r : Row) : Str := (((r.1 ++ " ") ++ r.2.1) ++ " ") ++ txV r.2.2
theorem kind_len {x : Str} (h : x ∈ KINDS) : x.length ≤ 7 ∧ PyData.strOk x = true := by
  have : ∀ x ∈ KINDS, x.length ≤ 7 ∧ PyData.strOk x = true := by decide +kernel
  exact this x h
theorem name_len {x : Str} (h : x ∈ NAMES) : x.length ≤ 12 ∧ PyData.strOk x = true := by
  have : ∀ x ∈ NAMES, x.length ≤ 12 ∧ PyData.strOk x = true := by decide +kernel
  exact this x h
theorem txV_len {v : Option Int} (h : ∀ i, v = some i → 0 ≤ i ∧ i ≤ 10 ^ 12) : (txV v).length ≤ 13 ∧ PyData.strOk (txV v) = true := by
  cases v with
  | none => exact ⟨by decide, by decide +kernel⟩
  | some i => exact ⟨tx_len (h i rfl).1 (h i rfl).2, tx_ok (h i rfl).1⟩
theorem lineT_ok {rs : List Row} (k : RowsOK rs) {r : Row} (hr : r ∈ rs) : PyData.strOk (lineT r) = true :=
  strOk_app (strOk_app (strOk_app (strOk_app (kind_len (k.k r hr)).2 (by decide +kernel)) (name_len (k.n r hr)).2) (by decide +kernel)) (txV_len (k.b r hr)).2
theorem line_adds {rs : List Row} (k : RowsOK rs) {r : Row} (hr : r ∈ rs) (O : Store) : gAdd false O (.str r.1) (.str " ") = some (.str (r.1 ++ " "), O) ∧ gAdd false O (.str (r.1 ++ " ")) (.str r.2.1) = some (.str (r.1 ++ " " ++ r.2.1), O) ∧
    gAdd false O (.str (r.1 ++ " " ++ r.2.1)) (.str " ") = some (.str (r.1 ++ " " ++ r.2.1 ++ " "), O) ∧ gAdd false O (.str (r.1 ++ " " ++ r.2.1 ++ " ")) (.str (txV r.2.2)) = some (.str (lineT r), O) := by
  have h1 := (kind_len (k.k r hr)).1
  have h2 := (name_len (k.n r hr)).1
  have h3 := (txV_len (k.b r hr)).1
  have h4 : (" " : Str).length = 1 := rfl
  refine ⟨add_str ?_, add_str ?_, add_str ?_, add_str ?_⟩
  · rw [h4]; omega
  · rw [strs_len, h4]; omega
  · rw [strs_len, strs_len, h4]; omega
  · rw [strs_len, strs_len, strs_len, h4]; omega
section
variable {n : Nat} {rs : List Row} {O : Store} {x : Str}
theorem told_ok {v : Option Int} (h : ∀ i, v = some i → 0 ≤ i ∧ i ≤ 10 ^ 12) : f_told [optD v] O = .ok (.str (txV v)) O := by
  cases v with
  | none => simp [f_told, b_told, isNon, optD, txV, runF, sSeq, sIf, sNext, sDrop, sRet, sRetN, sAsg, ofRes, ofB, bName, bNil, bCons, bTup, bLst, bSubL, mTest, mOp, mVar, mC, mChain, mAnd, mOr, mNot, mIf, mAndV, mOrV, mNotV, mNeg, mCons, mNil, mTup, mLst, newL, mCall, mFn, arity, g1, g2, gLen, gInt, gAbs, gMax2, gMin2, gIx, seqOf, lsqOf, lstOf, Res.bind, ofO, gAdd_ok, gSub_ok, gEq_int, gNe_int, gLt_int, gLe_int, gGt_int, gGe_int, gEq_bl, gNe_bl, gEq_str, gNe_str, mIsi, mIsiT, tyD, kitL, kitTab, atI_c0, atI_c1, atI_c2, atI_c3, atI_c4, sForR1, int1, int2, mMeth, mMake, mFld, sFldM, gIs, gIsNot, isNon_t, sRaise, gList, newLO]
  | some i =>
    have e := str_i (O := O) (h i rfl).1 (h i rfl).2
    simp [f_told, b_told, isNon, optD, txV, runF, sSeq, sIf, sNext, sDrop, sRet, sRetN, sAsg, ofRes, ofB, bName, bNil, bCons, bTup, bLst, bSubL, mTest, mOp, mVar, mC, mChain, mAnd, mOr, mNot, mIf, mAndV, mOrV, mNotV, mNeg, mCons, mNil, mTup, mLst, newL, mCall, mFn, arity, g1, g2, gLen, gInt, gAbs, gMax2, gMin2, gIx, seqOf, lsqOf, lstOf, Res.bind, ofO, gAdd_ok, gSub_ok, gEq_int, gNe_int, gLt_int, gLe_int, gGt_int, gGe_int, gEq_bl, gNe_bl, gEq_str, gNe_str, mIsi, mIsiT, tyD, kitL, kitTab, atI_c0, atI_c1, atI_c2, atI_c3, atI_c4, sForR1, int1, int2, mMeth, mMake, mFld, sFldM, gIs, gIsNot, isNon_t, sRaise, gList, newLO, e]
theorem lines_told (t : TabAt n rs O) (k : RowsOK rs) : f_table_lines [.hdl n] O = .ok (.lst ((rs.map lineT).map .str)) O := by
  have l := k.l
  have e := lc_rows (tt := mYes) (el := (mOp (gAdd false) (mOp (gAdd false) (mOp (gAdd false) (mOp (gAdd false) (mVar 1) (mC (.str " "))) (mVar 2)) (mC (.str " "))) (mFn (arity 1 f_told) [] (mCons (mVar 3) mNil)))) (vs := [1, 2, 3]) (b := (bTup 3 (bCons (bName 1) (bCons (bName 2) (bCons (bName 3) bNil))))) (src := mFld "Table" "_rows" (mVar 0)) (L := [some (.hdl n), none, none, none]) (O := O) (O1 := O) (d := .hdl (n + 1)) (rs := rs) (fun r => some (.str (lineT r)))
    (by simp [runF, sSeq, sIf, sNext, sDrop, sRet, sRetN, sAsg, ofRes, ofB, bName, bNil, bCons, bTup, bLst, bSubL, mTest, mOp, mVar, mC, mChain, mAnd, mOr, mNot, mIf, mAndV, mOrV, mNotV, mNeg, mCons, mNil, mTup, mLst, newL, mCall, mFn, arity, g1, g2, gLen, gInt, gAbs, gMax2, gMin2, gIx, seqOf, lsqOf, lstOf, Res.bind, ofO, gAdd_ok, gSub_ok, gEq_int, gNe_int, gLt_int, gLe_int, gGt_int, gGe_int, gEq_bl, gNe_bl, gEq_str, gNe_str, mIsi, mIsiT, tyD, kitL, kitTab, atI_c0, atI_c1, atI_c2, atI_c3, atI_c4, sForR1, int1, int2, mMeth, mMake, mFld, sFldM, gIs, gIsNot, isNon_t, sRaise, gList, newLO, t.eo, tr2]) (by simp [lsqOf, lstOf, t.er]) (by omega) fun r hr => by
      obtain ⟨a1, a2, a3, a4⟩ := line_adds k hr O
      have et := told_ok (O := O) (k.b r hr)
      obtain ⟨kd, x, v⟩ := r
      refine ⟨[some (.hdl n), some (.str kd), some (.str x), some (optD v)], by simp [wipeL, runF, sSeq, sIf, sNext, sDrop, sRet, sRetN, sAsg, ofRes, ofB, bName, bNil, bCons, bTup, bLst, bSubL, mTest, mOp, mVar, mC, mChain, mAnd, mOr, mNot, mIf, mAndV, mOrV, mNotV, mNeg, mCons, mNil, mTup, mLst, newL, mCall, mFn, arity, g1, g2, gLen, gInt, gAbs, gMax2, gMin2, gIx, seqOf, lsqOf, lstOf, Res.bind, ofO, gAdd_ok, gSub_ok, gEq_int, gNe_int, gLt_int, gLe_int, gGt_int, gGe_int, gEq_bl, gNe_bl, gEq_str, gNe_str, mIsi, mIsiT, tyD, kitL, kitTab, atI_c0, atI_c1, atI_c2, atI_c3, atI_c4, sForR1, int1, int2, mMeth, mMake, mFld, sFldM, gIs, gIsNot, isNon_t, sRaise, gList, newLO], .inl ⟨.str (lineT (kd, x, v)), rfl, ?_, rfl⟩⟩
      simp only at a1 a2 a3 a4 et
      generalize lineT (kd, x, v) = lt at *
      generalize txV v = tx at *
      generalize optD v = od at *
      simp [runF, sSeq, sIf, sNext, sDrop, sRet, sRetN, sAsg, ofRes, ofB, bName, bNil, bCons, bTup, bLst, bSubL, mTest, mOp, mVar, mC, mChain, mAnd, mOr, mNot, mIf, mAndV, mOrV, mNotV, mNeg, mCons, mNil, mTup, mLst, newL, mCall, mFn, arity, g1, g2, gLen, gInt, gAbs, gMax2, gMin2, gIx, seqOf, lsqOf, lstOf, Res.bind, ofO, gAdd_ok, gSub_ok, gEq_int, gNe_int, gLt_int, gLe_int, gGt_int, gGe_int, gEq_bl, gNe_bl, gEq_str, gNe_str, mIsi, mIsiT, tyD, kitL, kitTab, atI_c0, atI_c1, atI_c2, atI_c3, atI_c4, sForR1, int1, int2, mMeth, mMake, mFld, sFldM, gIs, gIsNot, isNon_t, sRaise, gList, newLO, a1, a2, a3, a4, et]
  have fm : (rs.filterMap fun r => some (D.str (lineT r))) = (rs.map lineT).map .str := by
    rw [List.map_map]
    induction rs with
    | nil => rfl
    | cons r rs ih => simp
  rw [fm] at e
  generalize (rs.map lineT).map D.str = z at *
  simp only [f_table_lines, b_table_lines]
  generalize mLcL false _ [1, 2, 3] _ _ _ = sL at e ⊢
  simp [runF, sSeq, sIf, sNext, sDrop, sRet, sRetN, sAsg, ofRes, ofB, bName, bNil, bCons, bTup, bLst, bSubL, mTest, mOp, mVar, mC, mChain, mAnd, mOr, mNot, mIf, mAndV, mOrV, mNotV, mNeg, mCons, mNil, mTup, mLst, newL, mCall, mFn, arity, g1, g2, gLen, gInt, gAbs, gMax2, gMin2, gIx, seqOf, lsqOf, lstOf, Res.bind, ofO, gAdd_ok, gSub_ok, gEq_int, gNe_int, gLt_int, gLe_int, gGt_int, gGe_int, gEq_bl, gNe_bl, gEq_str, gNe_str, mIsi, mIsiT, tyD, kitL, kitTab, atI_c0, atI_c1, atI_c2, atI_c3, atI_c4, sForR1, int1, int2, mMeth, mMake, mFld, sFldM, gIs, gIsNot, isNon_t, sRaise, gList, newLO, e]
end
/-! ### sameness -/
theorem gNe_opt {O : Store} (a b : Option Int) : gNe O (optD a) (optD b) = some (.bl (decide (a ≠ b)), O) := by
  cases a with
  | none =>
    cases b with
    | none => rfl
    | some j => simp [gNe, eqD, flatOf, optD, scal, deep, SeqAt.shaped, PyData.eqv] <;> rfl
  | some i =>
    cases b with
    | none => simp [gNe, eqD, flatOf, optD, scal, deep, SeqAt.shaped, PyData.eqv] <;> rfl
    | some j => simp [optD, runF, sSeq, sIf, sNext, sDrop, sRet, sRetN, sAsg, ofRes, ofB, bName, bNil, bCons, bTup, bLst, bSubL, mTest, mOp, mVar, mC, mChain, mAnd, mOr, mNot, mIf, mAndV, mOrV, mNotV, mNeg, mCons, mNil, mTup, mLst, newL, mCall, mFn, arity, g1, g2, gLen, gInt, gAbs, gMax2, gMin2, gIx, seqOf, lsqOf, lstOf, Res.bind, ofO, gAdd_ok, gSub_ok, gEq_int, gNe_int, gLt_int, gLe_int, gGt_int, gGe_int, gEq_bl, gNe_bl, gEq_str, gNe_str, mIsi, mIsiT, tyD, kitL, kitTab, atI_c0, atI_c1, atI_c2, atI_c3, atI_c4, sForR1, int1, int2, mMeth, mMake, mFld, sFldM, gIs, gIsNot, isNon_t, sRaise, gList, newLO]
theorem okR {rs : List Row} (k : RowsOK rs) : okV (.lst (rs.map rowD)) 29 = true := okV_lst fun d hd => by
  obtain ⟨r, hr, rfl⟩ := List.mem_map.mp hd
  refine okV_tup fun d hd => ?_
  have h1 := (kind_len (k.k r hr)).2
  have h2 := (name_len (k.n r hr)).2
  simp only [List.mem_cons, List.not_mem_nil, or_false] at hd
  rcases hd with rfl | rfl | rfl
  · exact h1
  · exact h2
  · cases r.2.2 <;> rfl
theorem eqv_opt (a b : Option Int) : PyData.eqv (pdD (optD a)) (pdD (optD b)) = decide (a = b) := by
  cases a with
  | none => cases b <;> simp [optD, pdD, PyData.eqv]
  | some i =>
    cases b with
    | none => simp [optD, pdD, PyData.eqv]
    | some j =>
      show (i == j) = decide (some i = some j)
      by_cases c : i = j
      · subst c
        simp
      · simp [c]
theorem eqv_rows {M M' : Str → Option Int} : ∀ ps : List (Str × Str), PyData.eqvAll (pdAll ((ps.map fun p => ((p.1, p.2, M p.2) : Row)).map rowD)) (pdAll ((ps.map fun p => ((p.1, p.2, M' p.2) : Row)).map rowD)) = ps.all fun p => decide (M p.2 = M' p.2)
  | [] => rfl
  | p :: ps => by
    have ih := eqv_rows (M := M) (M' := M') ps
    have e := eqv_opt (M p.2) (M' p.2)
    simp only [List.map_cons, pdAll, PyData.eqvAll, List.all_cons, ih]
    simp [pdD, pdAll, PyData.eqv, PyData.eqvAll, e]
theorem rowsW_pairs (w : Wd) : ∃ ps : List (Str × Str), (∀ M, rowsW w M = ps.map fun p => ((p.1, p.2, M p.2) : Row)) ∧ ps.map (·.2) = nmsW w := by
  refine ⟨(w.st.map (fun x => (("station" : Str), x)) ++ (w.ls.map (·.n)).map (fun x => (("line" : Str), x))) ++ (w.ps.map (·.n)).map (fun x => (("plant" : Str), x)), fun M => ?_, ?_⟩
  · unfold rowsW rowsK
    simp only [List.map_append, List.map_map]
    rfl
  · unfold nmsW
    simp only [List.map_append, List.map_map]
    have : ∀ xs : List Str, xs.map ((fun p : Str × Str => p.2) ∘ fun x => (("station" : Str), x)) = xs := fun xs => List.map_id _
    rw [this]
    rfl
def sameM (w : Wd) (M M' : Str → Option Int) : Bool := (nmsW w).all fun x => decide (M x = M' x)
theorem eqD_rows {w : Wd} {M M' : Str → Option Int} {O : Store} (k : RowsOK (rowsW w M)) (k' : RowsOK (rowsW w M')) : eqD O (.lst ((rowsW w M).map rowD)) (.lst ((rowsW w M').map rowD)) = some (sameM w M M') := by
  rw [eqD_pd (okR k) (okR k') (.inl rfl)]
  obtain ⟨ps, e, en⟩ := rowsW_pairs w
  have := eqv_rows (M := M) (M' := M') ps
  rw [← e M, ← e M'] at this
  show some (PyData.eqvAll _ _) = _
  rw [this]
  unfold sameM
  rw [← en, List.all_map]
  rfl
section
variable {n n' : Nat} {w : Wd} {M M' : Str → Option Int} {O : Store}
theorem eq_ok (t : TabAt n (rowsW w M) O) (t' : TabAt n' (rowsW w M') O) (k : RowsOK (rowsW w M)) (k' : RowsOK (rowsW w M')) : ∃ O', f_table_eq [.hdl n, .hdl n'] O = .ok (.bl (sameM w M M')) O' ∧ Fz O O' := by
  have f1 : Fz O (O ++ [.lst ((rowsW w M).map rowD)]) := fz_app
  have e1 := rows_ok t k
  have g1 : (O ++ [.lst ((rowsW w M).map rowD)])[O.length]? = some (.lst ((rowsW w M).map rowD)) := by rw [List.getElem?_append_right (Nat.le_refl _)]; simp
  obtain ⟨O1, hO1⟩ : ∃ O1, O ++ [Ob.lst ((rowsW w M).map rowD)] = O1 := ⟨_, rfl⟩
  rw [hO1] at f1 e1 g1
  have t1 := t'.fz f1
  have f2 : Fz O1 (O1 ++ [.lst ((rowsW w M').map rowD)]) := fz_app
  have e2 := rows_ok t1 k'
  have g2 : (O1 ++ [.lst ((rowsW w M').map rowD)])[O1.length]? = some (.lst ((rowsW w M').map rowD)) := by rw [List.getElem?_append_right (Nat.le_refl _)]; simp
  obtain ⟨O2, hO2⟩ : ∃ O2, O1 ++ [Ob.lst ((rowsW w M').map rowD)] = O2 := ⟨_, rfl⟩
  rw [hO2] at f2 e2 g2
  have g1' := f2.at g1
  have eq : gEq O2 (.hdl O.length) (.hdl O1.length) = some (.bl (sameM w M M'), O2) := gEq_of (by rw [eqD_hl g1', eqD_hr g2, eqD_rows k k'])
  refine ⟨O2, ?_, f1.trans f2⟩
  simp [f_table_eq, b_table_eq, mIsO, mAndV, runF, sSeq, sIf, sNext, sDrop, sRet, sRetN, sAsg, ofRes, ofB, bName, bNil, bCons, bTup, bLst, bSubL, mTest, mOp, mVar, mC, mChain, mAnd, mOr, mNot, mIf, mAndV, mOrV, mNotV, mNeg, mCons, mNil, mTup, mLst, newL, mCall, mFn, arity, g1, g2, gLen, gInt, gAbs, gMax2, gMin2, gIx, seqOf, lsqOf, lstOf, Res.bind, ofO, gAdd_ok, gSub_ok, gEq_int, gNe_int, gLt_int, gLe_int, gGt_int, gGe_int, gEq_bl, gNe_bl, gEq_str, gNe_str, mIsi, mIsiT, tyD, kitL, kitTab, atI_c0, atI_c1, atI_c2, atI_c3, atI_c4, sForR1, int1, int2, mMeth, mMake, mFld, sFldM, gIs, gIsNot, isNon_t, sRaise, gList, newLO, t.eo, t'.eo, t1.eo, lt_rows, e1, e2, eq]
end
end DK.k18
end
section
set_option Elab.async false
set_option linter.all false
set_option autoImplicit false
set_option maxRecDepth 100000
set_option maxHeartbeats 4000000
/-! K18E: what is there by a minute, in plain Lean. -/
namespace DK.k18
open PySem L2 DK DK.W
def atR (t : Int) (r : Row) : Bool := match r.2.2 with
  | none => false
  | some i => decide (i ≤ t)
def byK (rs : List Row) (kd : Str) (t : Int) : List Str := (rs.filter fun r => decide (r.1 = kd) && atR t r).map (·.2.1)
abbrev byO (rs : List Row) (t : Int) : Store := [.lst ((byK rs "station" t).map .str), .lst ((byK rs "line" t).map .str), .lst ((byK rs "plant" t).map .str)]
theorem byK_len {rs : List Row} {kd : Str} {t : Int} : (byK rs kd t).length ≤ rs.length := by
  unfold byK
  rw [List.length_map]
  exact List.length_filter_le _ _
theorem byK_snoc {rs : List Row} {r : Row} {kd : Str} {t : Int} : byK (rs ++ [r]) kd t = byK rs kd t ++ (if r.1 = kd ∧ atR t r = true then [r.2.1] else []) := by
  unfold byK
  rw [List.filter_append, List.map_append, List.filter_cons]
  by_cases c : r.1 = kd ∧ atR t r = true
  · rw [if_pos c, if_pos (by rw [decide_eq_true c.1, c.2]; rfl)]
    rfl
  · rw [if_neg c, if_neg]
    · rfl
    · intro z
      obtain ⟨z1, z2⟩ := Bool.and_eq_true_iff.mp z
      exact c ⟨of_decide_eq_true z1, z2⟩
theorem byO_no {rs : List Row} {r : Row} {t : Int} (h : atR t r = false) : byO (rs ++ [r]) t = byO rs t := by
  unfold byO
  simp only [byK_snoc, h, Bool.false_eq_true, and_false, if_false, List.append_nil]
theorem ks1 : ¬ (("station" : Str) = "line") := by decide
theorem ks2 : ¬ (("station" : Str) = "plant") := by decide
theorem ks3 : ¬ (("line" : Str) = "station") := by decide
theorem ks4 : ¬ (("line" : Str) = "plant") := by decide
theorem ks5 : ¬ (("plant" : Str) = "station") := by decide
theorem ks6 : ¬ (("plant" : Str) = "line") := by decide
theorem byO_0 {O : Store} {rs : List Row} {x : Str} {v : Option Int} {t : Int} (h : atR t ("station", x, v) = true) : (O ++ byO rs t).set O.length (.lst ((byK rs "station" t).map .str ++ [.str x])) = O ++ byO (rs ++ [(("station", x, v) : Row)]) t := by
  rw [List.set_append_right _ _ (Nat.le_refl _), Nat.sub_self]
  unfold byO
  simp [byK_snoc, h, ks1, ks2]
theorem byO_1 {O : Store} {rs : List Row} {x : Str} {v : Option Int} {t : Int} (h : atR t ("line", x, v) = true) : (O ++ byO rs t).set (O.length + 1) (.lst ((byK rs "line" t).map .str ++ [.str x])) = O ++ byO (rs ++ [(("line", x, v) : Row)]) t := by
  rw [List.set_append_right _ _ (by omega), show O.length + 1 - O.length = 1 by omega]
  unfold byO
  simp [byK_snoc, h, ks3, ks4]
theorem byO_2 {O : Store} {rs : List Row} {x : Str} {v : Option Int} {t : Int} (h : atR t ("plant", x, v) = true) : (O ++ byO rs t).set (O.length + 2) (.lst ((byK rs "plant" t).map .str ++ [.str x])) = O ++ byO (rs ++ [(("plant", x, v) : Row)]) t := by
  rw [List.set_append_right _ _ (by omega), show O.length + 2 - O.length = 2 by omega]
  unfold byO
  simp [byK_snoc, h, ks5, ks6]
theorem byO_g0 {O : Store} {rs : List Row} {t : Int} : (O ++ byO rs t)[O.length]? = some (.lst ((byK rs "station" t).map .str)) := by rw [List.getElem?_append_right (Nat.le_refl _)]; simp
theorem byO_g1 {O : Store} {rs : List Row} {t : Int} : (O ++ byO rs t)[O.length + 1]? = some (.lst ((byK rs "line" t).map .str)) := by rw [List.getElem?_append_right (by omega)]; simp
theorem byO_g2 {O : Store} {rs : List Row} {t : Int} : (O ++ byO rs t)[O.length + 2]? = some (.lst ((byK rs "plant" t).map .str)) := by rw [List.getElem?_append_right (by omega)]; simp
abbrev triD (a : Nat) : D := .tup [.hdl a, .hdl (a + 1), .hdl (a + 2)]
theorem fi0 : List.findIdx? (fun z : Str => decide (z = "station")) ["station", "line", "plant"] = some 0 := by decide +kernel
theorem fi1 : List.findIdx? (fun z : Str => decide (z = "line")) ["station", "line", "plant"] = some 1 := by decide +kernel
theorem fi2 : List.findIdx? (fun z : Str => decide (z = "plant")) ["station", "line", "plant"] = some 2 := by decide +kernel
abbrev byB : SM := (sIf (mAnd (mTest (mOp gIsNot (mVar 5) (mC .non))) (mTest (mOp gLe (mVar 5) (mVar 1)))) (sDrop (mApp (mOp gIx (mVar 2) (mTIdx ["station", "line", "plant"] (mVar 3))) (mVar 4))) sNext)
abbrev dueB : SM := (sIf (mAnd (mTest (mOp gIsNot (mVar 6) (mC .non))) (mTest (mOp gLe (mVar 6) (mVar 2)))) (sDrop (mApp (mOp gIx (mVar 3) (mLIdx (mLst false (mCons (mC (.str "station")) (mCons (mC (.str "line")) (mCons (mC (.str "plant")) mNil)))) (mVar 4))) (mVar 5))) sNext)
abbrev g4 : BM := (bTup 3 (bCons (bName 4) (bCons (bName 5) (bCons (bName 6) bNil))))
section
variable {n : Nat} {rs : List Row} {O : Store} {t : Int} {r : Row} {y0 y1 y3 y4 y5 y6 : Option D}
theorem by_turn (hk : r.1 ∈ KINDS) (hl : rs.length ≤ 1000) :
    turnOf g3 byB (rowD r) [y0, some (.int t), some (triD O.length), y3, y4, y5] (O ++ byO rs t) = .next [y0, some (.int t), some (triD O.length), some (.str r.1), some (.str r.2.1), some (optD r.2.2)] (O ++ byO (rs ++ [r]) t) := by
  obtain ⟨kd, x, v⟩ := r
  have l0 := byK_len (rs := rs) (kd := "station") (t := t)
  have l1 := byK_len (rs := rs) (kd := "line") (t := t)
  have l2 := byK_len (rs := rs) (kd := "plant") (t := t)
  have q0 := byO_g0 (O := O) (rs := rs) (t := t)
  have q1 := byO_g1 (O := O) (rs := rs) (t := t)
  have q2 := byO_g2 (O := O) (rs := rs) (t := t)
  have m0 : ((byK rs "station" t).map D.str).length ≤ 1000000 := by rw [List.length_map]; omega
  have m1 : ((byK rs "line" t).map D.str).length ≤ 1000000 := by rw [List.length_map]; omega
  have m2 : ((byK rs "plant" t).map D.str).length ≤ 1000000 := by rw [List.length_map]; omega
  cases v with
  | none =>
    rw [byO_no (r := (kd, x, none)) rfl]
    generalize O ++ byO rs t = O1 at *
    simp [turnOf, optD, isNon, runF, sSeq, sIf, sNext, sDrop, sRet, sRetN, sAsg, ofRes, ofB, bName, bNil, bCons, bTup, bLst, bSubL, mTest, mOp, mVar, mC, mChain, mAnd, mOr, mNot, mIf, mAndV, mOrV, mNotV, mNeg, mCons, mNil, mTup, mLst, newL, mCall, mFn, arity, g1, g2, gLen, gInt, gAbs, gMax2, gMin2, gIx, seqOf, lsqOf, lstOf, Res.bind, ofO, gAdd_ok, gSub_ok, gEq_int, gNe_int, gLt_int, gLe_int, gGt_int, gGe_int, gEq_bl, gNe_bl, gEq_str, gNe_str, mIsi, mIsiT, tyD, kitL, kitTab, atI_c0, atI_c1, atI_c2, atI_c3, atI_c4, sForR1, int1, int2, mMeth, mMake, mFld, sFldM, gIs, gIsNot, isNon_t, sRaise, gList, newLO]
  | some i =>
    by_cases c : i ≤ t
    · have ha : ∀ kd, atR t (kd, x, some i) = true := fun _ => decide_eq_true c
      simp only [List.mem_cons, List.not_mem_nil, or_false] at hk
      rcases hk with rfl | rfl | rfl
      · have s0 := byO_0 (O := O) (rs := rs) (ha "station")
        generalize O ++ byO (rs ++ [(("station", x, some i) : Row)]) t = O2 at *
        generalize (byK rs "station" t).map D.str = z at *
        generalize O ++ byO rs t = O1 at *
        simp [turnOf, optD, isNon, mTIdx, mApp, runF, sSeq, sIf, sNext, sDrop, sRet, sRetN, sAsg, ofRes, ofB, bName, bNil, bCons, bTup, bLst, bSubL, mTest, mOp, mVar, mC, mChain, mAnd, mOr, mNot, mIf, mAndV, mOrV, mNotV, mNeg, mCons, mNil, mTup, mLst, newL, mCall, mFn, arity, g1, g2, gLen, gInt, gAbs, gMax2, gMin2, gIx, seqOf, lsqOf, lstOf, Res.bind, ofO, gAdd_ok, gSub_ok, gEq_int, gNe_int, gLt_int, gLe_int, gGt_int, gGe_int, gEq_bl, gNe_bl, gEq_str, gNe_str, mIsi, mIsiT, tyD, kitL, kitTab, atI_c0, atI_c1, atI_c2, atI_c3, atI_c4, sForR1, int1, int2, mMeth, mMake, mFld, sFldM, gIs, gIsNot, isNon_t, sRaise, gList, newLO, c, fi0, q0, m0, s0]
      · have s0 := byO_1 (O := O) (rs := rs) (ha "line")
        generalize O ++ byO (rs ++ [(("line", x, some i) : Row)]) t = O2 at *
        generalize (byK rs "line" t).map D.str = z at *
        generalize O ++ byO rs t = O1 at *
        simp [turnOf, optD, isNon, mTIdx, mApp, runF, sSeq, sIf, sNext, sDrop, sRet, sRetN, sAsg, ofRes, ofB, bName, bNil, bCons, bTup, bLst, bSubL, mTest, mOp, mVar, mC, mChain, mAnd, mOr, mNot, mIf, mAndV, mOrV, mNotV, mNeg, mCons, mNil, mTup, mLst, newL, mCall, mFn, arity, g1, g2, gLen, gInt, gAbs, gMax2, gMin2, gIx, seqOf, lsqOf, lstOf, Res.bind, ofO, gAdd_ok, gSub_ok, gEq_int, gNe_int, gLt_int, gLe_int, gGt_int, gGe_int, gEq_bl, gNe_bl, gEq_str, gNe_str, mIsi, mIsiT, tyD, kitL, kitTab, atI_c0, atI_c1, atI_c2, atI_c3, atI_c4, sForR1, int1, int2, mMeth, mMake, mFld, sFldM, gIs, gIsNot, isNon_t, sRaise, gList, newLO, c, fi1, q1, m1, s0]
      · have s0 := byO_2 (O := O) (rs := rs) (ha "plant")
        generalize O ++ byO (rs ++ [(("plant", x, some i) : Row)]) t = O2 at *
        generalize (byK rs "plant" t).map D.str = z at *
        generalize O ++ byO rs t = O1 at *
        simp [turnOf, optD, isNon, mTIdx, mApp, runF, sSeq, sIf, sNext, sDrop, sRet, sRetN, sAsg, ofRes, ofB, bName, bNil, bCons, bTup, bLst, bSubL, mTest, mOp, mVar, mC, mChain, mAnd, mOr, mNot, mIf, mAndV, mOrV, mNotV, mNeg, mCons, mNil, mTup, mLst, newL, mCall, mFn, arity, g1, g2, gLen, gInt, gAbs, gMax2, gMin2, gIx, seqOf, lsqOf, lstOf, Res.bind, ofO, gAdd_ok, gSub_ok, gEq_int, gNe_int, gLt_int, gLe_int, gGt_int, gGe_int, gEq_bl, gNe_bl, gEq_str, gNe_str, mIsi, mIsiT, tyD, kitL, kitTab, atI_c0, atI_c1, atI_c2, atI_c3, atI_c4, sForR1, int1, int2, mMeth, mMake, mFld, sFldM, gIs, gIsNot, isNon_t, sRaise, gList, newLO, c, fi2, q2, m2, s0]
    · rw [byO_no (r := (kd, x, some i)) (decide_eq_false c)]
      generalize O ++ byO rs t = O1 at *
      simp [turnOf, optD, isNon, runF, sSeq, sIf, sNext, sDrop, sRet, sRetN, sAsg, ofRes, ofB, bName, bNil, bCons, bTup, bLst, bSubL, mTest, mOp, mVar, mC, mChain, mAnd, mOr, mNot, mIf, mAndV, mOrV, mNotV, mNeg, mCons, mNil, mTup, mLst, newL, mCall, mFn, arity, g1, g2, gLen, gInt, gAbs, gMax2, gMin2, gIx, seqOf, lsqOf, lstOf, Res.bind, ofO, gAdd_ok, gSub_ok, gEq_int, gNe_int, gLt_int, gLe_int, gGt_int, gGe_int, gEq_bl, gNe_bl, gEq_str, gNe_str, mIsi, mIsiT, tyD, kitL, kitTab, atI_c0, atI_c1, atI_c2, atI_c3, atI_c4, sForR1, int1, int2, mMeth, mMake, mFld, sFldM, gIs, gIsNot, isNon_t, sRaise, gList, newLO, c]
theorem due_turn (hk : r.1 ∈ KINDS) (hl : rs.length ≤ 1000) :
    turnOf g4 dueB (rowD r) [y0, y1, some (.int t), some (triD O.length), y4, y5, y6] (O ++ byO rs t) = .next [y0, y1, some (.int t), some (triD O.length), some (.str r.1), some (.str r.2.1), some (optD r.2.2)] (O ++ byO (rs ++ [r]) t) := by
  obtain ⟨kd, x, v⟩ := r
  have l0 := byK_len (rs := rs) (kd := "station") (t := t)
  have l1 := byK_len (rs := rs) (kd := "line") (t := t)
  have l2 := byK_len (rs := rs) (kd := "plant") (t := t)
  have q0 := byO_g0 (O := O) (rs := rs) (t := t)
  have q1 := byO_g1 (O := O) (rs := rs) (t := t)
  have q2 := byO_g2 (O := O) (rs := rs) (t := t)
  have m0 : ((byK rs "station" t).map D.str).length ≤ 1000000 := by rw [List.length_map]; omega
  have m1 : ((byK rs "line" t).map D.str).length ≤ 1000000 := by rw [List.length_map]; omega
  have m2 : ((byK rs "plant" t).map D.str).length ≤ 1000000 := by rw [List.length_map]; omega
  cases v with
  | none =>
    rw [byO_no (r := (kd, x, none)) rfl]
    generalize O ++ byO rs t = O1 at *
    simp [turnOf, optD, isNon, runF, sSeq, sIf, sNext, sDrop, sRet, sRetN, sAsg, ofRes, ofB, bName, bNil, bCons, bTup, bLst, bSubL, mTest, mOp, mVar, mC, mChain, mAnd, mOr, mNot, mIf, mAndV, mOrV, mNotV, mNeg, mCons, mNil, mTup, mLst, newL, mCall, mFn, arity, g1, g2, gLen, gInt, gAbs, gMax2, gMin2, gIx, seqOf, lsqOf, lstOf, Res.bind, ofO, gAdd_ok, gSub_ok, gEq_int, gNe_int, gLt_int, gLe_int, gGt_int, gGe_int, gEq_bl, gNe_bl, gEq_str, gNe_str, mIsi, mIsiT, tyD, kitL, kitTab, atI_c0, atI_c1, atI_c2, atI_c3, atI_c4, sForR1, int1, int2, mMeth, mMake, mFld, sFldM, gIs, gIsNot, isNon_t, sRaise, gList, newLO]
  | some i =>
    by_cases c : i ≤ t
    · have ha : ∀ kd, atR t (kd, x, some i) = true := fun _ => decide_eq_true c
      simp only [List.mem_cons, List.not_mem_nil, or_false] at hk
      rcases hk with rfl | rfl | rfl
      · have s0 := byO_0 (O := O) (rs := rs) (ha "station")
        generalize O ++ byO (rs ++ [(("station", x, some i) : Row)]) t = O2 at *
        generalize (byK rs "station" t).map D.str = z at *
        generalize O ++ byO rs t = O1 at *
        simp [turnOf, optD, isNon, mLIdx, strsOf, mApp, runF, sSeq, sIf, sNext, sDrop, sRet, sRetN, sAsg, ofRes, ofB, bName, bNil, bCons, bTup, bLst, bSubL, mTest, mOp, mVar, mC, mChain, mAnd, mOr, mNot, mIf, mAndV, mOrV, mNotV, mNeg, mCons, mNil, mTup, mLst, newL, mCall, mFn, arity, g1, g2, gLen, gInt, gAbs, gMax2, gMin2, gIx, seqOf, lsqOf, lstOf, Res.bind, ofO, gAdd_ok, gSub_ok, gEq_int, gNe_int, gLt_int, gLe_int, gGt_int, gGe_int, gEq_bl, gNe_bl, gEq_str, gNe_str, mIsi, mIsiT, tyD, kitL, kitTab, atI_c0, atI_c1, atI_c2, atI_c3, atI_c4, sForR1, int1, int2, mMeth, mMake, mFld, sFldM, gIs, gIsNot, isNon_t, sRaise, gList, newLO, c, fi0, q0, m0, s0]
      · have s0 := byO_1 (O := O) (rs := rs) (ha "line")
        generalize O ++ byO (rs ++ [(("line", x, some i) : Row)]) t = O2 at *
        generalize (byK rs "line" t).map D.str = z at *
        generalize O ++ byO rs t = O1 at *
        simp [turnOf, optD, isNon, mLIdx, strsOf, mApp, runF, sSeq, sIf, sNext, sDrop, sRet, sRetN, sAsg, ofRes, ofB, bName, bNil, bCons, bTup, bLst, bSubL, mTest, mOp, mVar, mC, mChain, mAnd, mOr, mNot, mIf, mAndV, mOrV, mNotV, mNeg, mCons, mNil, mTup, mLst, newL, mCall, mFn, arity, g1, g2, gLen, gInt, gAbs, gMax2, gMin2, gIx, seqOf, lsqOf, lstOf, Res.bind, ofO, gAdd_ok, gSub_ok, gEq_int, gNe_int, gLt_int, gLe_int, gGt_int, gGe_int, gEq_bl, gNe_bl, gEq_str, gNe_str, mIsi, mIsiT, tyD, kitL, kitTab, atI_c0, atI_c1, atI_c2, atI_c3, atI_c4, sForR1, int1, int2, mMeth, mMake, mFld, sFldM, gIs, gIsNot, isNon_t, sRaise, gList, newLO, c, fi1, q1, m1, s0]
      · have s0 := byO_2 (O := O) (rs := rs) (ha "plant")
        generalize O ++ byO (rs ++ [(("plant", x, some i) : Row)]) t = O2 at *
        generalize (byK rs "plant" t).map D.str = z at *
        generalize O ++ byO rs t = O1 at *
        simp [turnOf, optD, isNon, mLIdx, strsOf, mApp, runF, sSeq, sIf, sNext, sDrop, sRet, sRetN, sAsg, ofRes, ofB, bName, bNil, bCons, bTup, bLst, bSubL, mTest, mOp, mVar, mC, mChain, mAnd, mOr, mNot, mIf, mAndV, mOrV, mNotV, mNeg, mCons, mNil, mTup, mLst, newL, mCall, mFn, arity, g1, g2, gLen, gInt, gAbs, gMax2, gMin2, gIx, seqOf, lsqOf, lstOf, Res.bind, ofO, gAdd_ok, gSub_ok, gEq_int, gNe_int, gLt_int, gLe_int, gGt_int, gGe_int, gEq_bl, gNe_bl, gEq_str, gNe_str, mIsi, mIsiT, tyD, kitL, kitTab, atI_c0, atI_c1, atI_c2, atI_c3, atI_c4, sForR1, int1, int2, mMeth, mMake, mFld, sFldM, gIs, gIsNot, isNon_t, sRaise, gList, newLO, c, fi2, q2, m2, s0]
    · rw [byO_no (r := (kd, x, some i)) (decide_eq_false c)]
      generalize O ++ byO rs t = O1 at *
      simp [turnOf, optD, isNon, runF, sSeq, sIf, sNext, sDrop, sRet, sRetN, sAsg, ofRes, ofB, bName, bNil, bCons, bTup, bLst, bSubL, mTest, mOp, mVar, mC, mChain, mAnd, mOr, mNot, mIf, mAndV, mOrV, mNotV, mNeg, mCons, mNil, mTup, mLst, newL, mCall, mFn, arity, g1, g2, gLen, gInt, gAbs, gMax2, gMin2, gIx, seqOf, lsqOf, lstOf, Res.bind, ofO, gAdd_ok, gSub_ok, gEq_int, gNe_int, gLt_int, gLe_int, gGt_int, gGe_int, gEq_bl, gNe_bl, gEq_str, gNe_str, mIsi, mIsiT, tyD, kitL, kitTab, atI_c0, atI_c1, atI_c2, atI_c3, atI_c4, sForR1, int1, int2, mMeth, mMake, mFld, sFldM, gIs, gIsNot, isNon_t, sRaise, gList, newLO, c]
theorem by_ok (h : TabAt n rs O) (k : RowsOK rs) : f_table_by [.hdl n, .int t] O = .ok (triD O.length) (O ++ byO rs t) := by
  have l := k.l
  obtain ⟨L', O', e, y3', y4', y5', rfl, rfl⟩ := loopH_keeps (turn := turnOf g3 byB) (n := n + 1) (xs := rs.map rowD)
    (I := fun i L O' => ∃ y3 y4 y5 : Option D, L = [some (.hdl n), some (.int t), some (triD O.length), y3, y4, y5] ∧ O' = O ++ byO (rs.take i) t)
    (fun j L O' ⟨_, _, _, _, hO⟩ => by rw [hO]; exact (fz_app (O := O)).at h.er) (rs.map rowD).length 0 [some (.hdl n), some (.int t), some (triD O.length), none, none, none] (O ++ byO [] t) (by omega) ⟨none, none, none, rfl, rfl⟩ fun j d L O' hd ⟨y3, y4, y5, hL, hO⟩ => by
      subst hL hO
      rw [List.getElem?_map] at hd
      obtain ⟨r, hr, rfl⟩ := Option.map_eq_some_iff.mp hd
      exact ⟨_, _, by_turn (k.k r (List.mem_of_getElem? hr)) (by rw [List.length_take]; omega), _, _, _, rfl, by rw [← take_get hr]⟩
  rw [List.length_map, List.take_length] at e
  have e0 : (O ++ byO [] t) = O ++ [.lst [], .lst [], .lst []] := rfl
  have f0 : Fz O (O ++ byO [] t) := fz_app
  have e1 : sForL (mFld "Table" "_rows" (mVar 0)) g3 byB [some (.hdl n), some (.int t), some (triD O.length), none, none, none] (O ++ byO [] t) = .next [some (.hdl n), some (.int t), some (triD O.length), y3', y4', y5'] (O ++ byO rs t) := by
    have em : mFld "Table" "_rows" (mVar 0) [some (.hdl n), some (.int t), some (triD O.length), none, none, none] (O ++ byO [] t) = .ok (.hdl (n + 1)) (O ++ byO [] t) := by
      have q := f0.at h.eo
      generalize O ++ byO [] t = O1 at *
      simp [runF, sSeq, sIf, sNext, sDrop, sRet, sRetN, sAsg, ofRes, ofB, bName, bNil, bCons, bTup, bLst, bSubL, mTest, mOp, mVar, mC, mChain, mAnd, mOr, mNot, mIf, mAndV, mOrV, mNotV, mNeg, mCons, mNil, mTup, mLst, newL, mCall, mFn, arity, g1, g2, gLen, gInt, gAbs, gMax2, gMin2, gIx, seqOf, lsqOf, lstOf, Res.bind, ofO, gAdd_ok, gSub_ok, gEq_int, gNe_int, gLt_int, gLe_int, gGt_int, gGe_int, gEq_bl, gNe_bl, gEq_str, gNe_str, mIsi, mIsiT, tyD, kitL, kitTab, atI_c0, atI_c1, atI_c2, atI_c3, atI_c4, sForR1, int1, int2, mMeth, mMake, mFld, sFldM, gIs, gIsNot, isNon_t, sRaise, gList, newLO, q, tr2]
    show ofRes _ (mFld "Table" "_rows" (mVar 0) _ _) (fun d O1 => match d with
      | .lst ds => loopD (turnOf g3 byB) ds _ O1
      | .rol ds => loopD (turnOf g3 byB) ds _ O1
      | .hdl n => (match O1[n]? with
        | some (.lst xs) => loopH (turnOf g3 byB) n xs.length 0 _ O1
        | _ => .bad)
      | _ => .bad) = _
    rw [em]
    show (match (O ++ byO [] t)[n + 1]? with
        | some (.lst xs) => loopH (turnOf g3 byB) (n + 1) xs.length 0 _ _
        | _ => .bad) = _
    rw [f0.at h.er]
    show loopH (turnOf g3 byB) (n + 1) (rs.map rowD).length 0 _ _ = _
    rw [List.length_map]
    exact e
  rw [e0] at e1
  simp only [f_table_by, b_table_by]
  generalize sForL _ _ _ = sL at e1 ⊢
  generalize O ++ byO rs t = O2 at *
  simp [runF, sSeq, sIf, sNext, sDrop, sRet, sRetN, sAsg, ofRes, ofB, bName, bNil, bCons, bTup, bLst, bSubL, mTest, mOp, mVar, mC, mChain, mAnd, mOr, mNot, mIf, mAndV, mOrV, mNotV, mNeg, mCons, mNil, mTup, mLst, newL, mCall, mFn, arity, g1, g2, gLen, gInt, gAbs, gMax2, gMin2, gIx, seqOf, lsqOf, lstOf, Res.bind, ofO, gAdd_ok, gSub_ok, gEq_int, gNe_int, gLt_int, gLe_int, gGt_int, gGe_int, gEq_bl, gNe_bl, gEq_str, gNe_str, mIsi, mIsiT, tyD, kitL, kitTab, atI_c0, atI_c1, atI_c2, atI_c3, atI_c4, sForR1, int1, int2, mMeth, mMake, mFld, sFldM, gIs, gIsNot, isNon_t, sRaise, gList, newLO, e1]
theorem due_loop (k : RowsOK rs) (h : y1 = some (.lst (rs.map rowD))) : ∃ y4' y5' y6', sForL (mVar 1) g4 dueB [y0, y1, some (.int t), some (triD O.length), none, none, none] (O ++ byO [] t) = .next [y0, y1, some (.int t), some (triD O.length), y4', y5', y6'] (O ++ byO rs t) := by
  have l := k.l
  obtain ⟨L', O', e, y4', y5', y6', rfl, rfl⟩ := forL_keeps (m := mVar 1) (b := g4) (body := dueB) (L := [y0, y1, some (.int t), some (triD O.length), none, none, none]) (O := O ++ byO [] t) (O1 := O ++ byO [] t) (ds := rs.map rowD)
    (I := fun i L O' => ∃ y4 y5 y6 : Option D, L = [y0, y1, some (.int t), some (triD O.length), y4, y5, y6] ∧ O' = O ++ byO (rs.take i) t)
    (by rw [h]; rfl) ⟨none, none, none, rfl, rfl⟩ fun j d L O' hd ⟨y4, y5, y6, hL, hO⟩ => by
      subst hL hO
      rw [List.getElem?_map] at hd
      obtain ⟨r, hr, rfl⟩ := Option.map_eq_some_iff.mp hd
      exact ⟨_, _, due_turn (k.k r (List.mem_of_getElem? hr)) (by rw [List.length_take]; omega), _, _, _, rfl, by rw [← take_get hr]⟩
  rw [List.length_map, List.take_length] at e
  exact ⟨y4', y5', y6', e⟩
theorem deep_tri {O : Store} {a : Nat} {A B C : List Str} (h0 : O[a]? = some (.lst (A.map .str))) (h1 : O[a + 1]? = some (.lst (B.map .str))) (h2 : O[a + 2]? = some (.lst (C.map .str))) : deep O 30 (triD a) = deep O 30 (.tup [.lst (A.map .str), .lst (B.map .str), .lst (C.map .str)]) := by
  have q : ∀ {i : Nat} {X : List Str}, O[i]? = some (.lst (X.map .str)) → deep O 29 (.hdl i) = deep O 29 (.lst (X.map .str)) := fun {i X} h => by
    show (match O[i]? with | some (.lst xs) => (xs.mapM (deep O 28)).map PyData.list | _ => none) = _
    rw [h]
    rfl
  show (List.mapM (deep O 29) [.hdl a, .hdl (a + 1), .hdl (a + 2)]).map PyData.tuple = (List.mapM (deep O 29) [.lst (A.map .str), .lst (B.map .str), .lst (C.map .str)]).map PyData.tuple
  simp only [mapM_cons, q h0, q h1, q h2]
theorem okStrs {xs : List Str} {m : Nat} (h : ∀ x ∈ xs, x ∈ NAMES) : okV (.lst (xs.map .str)) (m + 1) = true := okV_strs fun x hx => (name_len (h x hx)).2
theorem byK_in (k : RowsOK rs) {kd x : Str} (h : x ∈ byK rs kd t) : x ∈ NAMES := by
  obtain ⟨r, hr, rfl⟩ := List.mem_map.mp h
  exact k.n r (List.mem_filter.mp hr).1
theorem tri_eq {O : Store} {a b : Nat} (k : RowsOK rs) (a0 : O[a]? = some (.lst ((byK rs "station" t).map .str))) (a1 : O[a + 1]? = some (.lst ((byK rs "line" t).map .str))) (a2 : O[a + 2]? = some (.lst ((byK rs "plant" t).map .str)))
    (b0 : O[b]? = some (.lst ((byK rs "station" t).map .str))) (b1 : O[b + 1]? = some (.lst ((byK rs "line" t).map .str))) (b2 : O[b + 2]? = some (.lst ((byK rs "plant" t).map .str))) : gEq O (triD a) (triD b) = some (.bl true, O) := by
  refine gEq_of ?_
  have ok : okV (.tup [.lst ((byK rs "station" t).map .str), .lst ((byK rs "line" t).map .str), .lst ((byK rs "plant" t).map .str)]) 29 = true := okV_tup fun d hd => by
    simp only [List.mem_cons, List.not_mem_nil, or_false] at hd
    rcases hd with rfl | rfl | rfl <;> exact okStrs fun x hx => byK_in k hx
  have e := eqD_pd (O := O) ok ok (.inl rfl)
  rw [eqv_self ok] at e
  rw [← e]
  show (match deep O 30 (triD a), deep O 30 (triD b) with
    | some p, some q => if SeqAt.shaped p = true ∧ SeqAt.shaped q = true then some (PyData.eqv p q) else none
    | _, _ => none) = (match deep O 30 (.tup [.lst ((byK rs "station" t).map .str), .lst ((byK rs "line" t).map .str), .lst ((byK rs "plant" t).map .str)]), deep O 30 (.tup [.lst ((byK rs "station" t).map .str), .lst ((byK rs "line" t).map .str), .lst ((byK rs "plant" t).map .str)]) with
    | some p, some q => if SeqAt.shaped p = true ∧ SeqAt.shaped q = true then some (PyData.eqv p q) else none
    | _, _ => none)
  rw [deep_tri a0 a1 a2, deep_tri b0 b1 b2]
theorem by_right_ok (h : TabAt n rs O) (k : RowsOK rs) : ∃ O', f_law_by_right [.hdl n, .lst (rs.map rowD), .int t] O = .ok (.bl true) O' ∧ Fz O O' := by
  obtain ⟨y4, y5, y6, e1⟩ := due_loop (O := O) (t := t) (y0 := some (.hdl n)) k rfl
  have e0 : (O ++ byO [] t) = O ++ [.lst [], .lst [], .lst []] := rfl
  rw [e0] at e1
  have f1 : Fz O (O ++ byO rs t) := fz_app
  have e2 := by_ok (t := t) (h.fz f1) k
  have a0 := byO_g0 (O := O) (rs := rs) (t := t)
  have a1 := byO_g1 (O := O) (rs := rs) (t := t)
  have a2 := byO_g2 (O := O) (rs := rs) (t := t)
  have ho := f1.at h.eo
  generalize O ++ byO rs t = O1 at *
  have f2 : Fz O1 (O1 ++ byO rs t) := fz_app
  have e3 := tri_eq (O := O1 ++ byO rs t) (a := O1.length) (b := O.length) k byO_g0 byO_g1 byO_g2 (f2.at a0) (f2.at a1) (f2.at a2)
  refine ⟨O1 ++ byO rs t, ?_, f1.trans f2⟩
  generalize O1 ++ byO rs t = O2 at *
  simp only [f_law_by_right, b_law_by_right]
  generalize sForL _ _ _ = sL at e1 ⊢
  generalize rs.map rowD = z at *
  simp [runF, sSeq, sIf, sNext, sDrop, sRet, sRetN, sAsg, ofRes, ofB, bName, bNil, bCons, bTup, bLst, bSubL, mTest, mOp, mVar, mC, mChain, mAnd, mOr, mNot, mIf, mAndV, mOrV, mNotV, mNeg, mCons, mNil, mTup, mLst, newL, mCall, mFn, arity, g1, g2, gLen, gInt, gAbs, gMax2, gMin2, gIx, seqOf, lsqOf, lstOf, Res.bind, ofO, gAdd_ok, gSub_ok, gEq_int, gNe_int, gLt_int, gLe_int, gGt_int, gGe_int, gEq_bl, gNe_bl, gEq_str, gNe_str, mIsi, mIsiT, tyD, kitL, kitTab, atI_c0, atI_c1, atI_c2, atI_c3, atI_c4, sForR1, int1, int2, mMeth, mMake, mFld, sFldM, gIs, gIsNot, isNon_t, sRaise, gList, newLO, e1, ho, lt_by, e2, e3]
end
end DK.k18
end
section
set_option Elab.async false
set_option linter.all false
set_option autoImplicit false
set_option maxRecDepth 100000
set_option maxHeartbeats 4000000
/-! K18F: drawn minutes, and comprehensions, in plain Lean. -/
namespace DK.k18
open PySem L2 DK DK.W
/-! ### comprehensions over a list -/
theorem lc_gen {α : Type} {enc : α → D} {src : EM} {tt : TM} {el : EM} {i : Nat} {L : Loc} {O O1 : Store} {xs : List α} (p : α → Bool) (f : α → D) (hs : src L O = .ok (.lst (xs.map enc)) O1) (hl : xs.length ≤ 1000) (hi : i < L.length)
    (ht : ∀ x ∈ xs, tt (L.set i (some (enc x))) O1 = .ok (p x) O1) (he : ∀ x ∈ xs, p x = true → el (L.set i (some (enc x))) O1 = .ok (f x) O1) : mLcL false src [i] (bName i) tt el L O = .ok (.lst ((xs.filter p).map f)) O1 := by
  obtain ⟨O2, ys, e, ⟨rfl, rfl⟩, _⟩ := lcL_keeps (I := fun j O' acc => O' = O1 ∧ acc = ((xs.take j).filter p).map f) (src := src) (vs := [i]) (b := bName i) (tt := tt) (el := el) (L := L) (O := O) (O1 := O1) (ds := xs.map enc) hs ⟨rfl, rfl⟩ (by rw [List.length_map]; omega) fun j d O' acc hd _ ⟨hO, hacc⟩ => by
    subst hO hacc
    rw [List.getElem?_map] at hd
    obtain ⟨x, hx, rfl⟩ := Option.map_eq_some_iff.mp hd
    have mx := List.mem_of_getElem? hx
    have tk : ((xs.take (j + 1)).filter p).map f = ((xs.take j).filter p).map f ++ (if p x = true then [f x] else []) := by
      rw [take_get hx, List.filter_append, List.map_append, List.filter_cons]
      by_cases c : p x = true
      · rw [if_pos c, if_pos c]
        rfl
      · rw [if_neg c, if_neg c]
        rfl
    rw [tk]
    refine ⟨L.set i (some (enc x)), O', ((xs.take j).filter p).map f ++ (if p x = true then [f x] else []), by simp [bName, wipeL], ?_, rfl, rfl⟩
    have t := ht x mx
    by_cases c : p x = true
    · rw [if_pos c]
      rw [c] at t
      exact .inl ⟨f x, O', t, he x mx c, rfl⟩
    · rw [if_neg c]
      rw [Bool.eq_false_iff.mpr c] at t
      exact .inr ⟨t, by simp⟩
  rw [List.length_map, List.take_length] at e
  exact e
theorem lc_map {α : Type} {enc : α → D} {src : EM} {el : EM} {i : Nat} {L : Loc} {O O1 : Store} {xs : List α} (f : α → D) (hs : src L O = .ok (.lst (xs.map enc)) O1) (hl : xs.length ≤ 1000) (hi : i < L.length)
    (he : ∀ x ∈ xs, el (L.set i (some (enc x))) O1 = .ok (f x) O1) : mLcL false src [i] (bName i) mYes el L O = .ok (.lst (xs.map f)) O1 := by
  have e := lc_gen (tt := mYes) (fun _ => true) f hs hl hi (fun _ _ => rfl) fun x hx _ => he x hx
  rw [List.filter_eq_self.mpr fun _ _ => rfl] at e
  exact e
/-! ### minutes -/
theorem put_keys {kvs : List (Key × D)} {k : Key} {d : D} : (putKD kvs k d).map (·.1) = kvs.map (·.1) ∨ (putKD kvs k d).map (·.1) = kvs.map (·.1) ++ [k] := by
  unfold putKD
  split
  · left
    rw [List.map_map]
    refine List.map_congr_left fun kv _ => ?_
    show (if kv.1 = k then (kv.1, d) else kv).1 = kv.1
    split <;> rfl
  · right
    rw [List.map_append]
    rfl
theorem Mins.put {kvs : List (Key × D)} {M : Str → Option Int} {ns : List Str} {nm : Str} {v : Option Int} (K : Mins kvs M ns) (h : nm ∈ ns) (hv : ∀ i, v = some i → 0 ≤ i ∧ i ≤ 10 ^ 12) (hl : kvs.length + 1 ≤ 1000) : Mins (putKD kvs (.inr nm) (optD v)) (fun x => if x = nm then v else M x) ns := by
  refine ⟨fun x => ?_, ?_, fun x i hx => ?_, Nat.le_trans put_len hl⟩
  · rw [val_put]
    by_cases c : x = nm
    · rw [if_pos (by rw [c]), if_pos c]
      rfl
    · rw [if_neg (fun z => c (Sum.inr.inj z)), if_neg c]
      exact K.v x
  · obtain ⟨ks, hk, hks⟩ := K.k
    rcases put_keys (kvs := kvs) (k := .inr nm) (d := optD v) with e | e
    · exact ⟨ks, e.trans hk, hks⟩
    · refine ⟨ks ++ [nm], by rw [e, hk, List.map_append]; rfl, fun x hx => ?_⟩
      rcases List.mem_append.mp hx with hx | hx
      · exact hks x hx
      · rw [List.mem_singleton.mp hx]
        exact h
  · have hx : (if x = nm then v else M x) = some i := hx
    by_cases c : x = nm
    · rw [if_pos c] at hx
      exact hv i hx
    · rw [if_neg c] at hx
      exact K.b x i hx
abbrev mnB : SM := (sSeq (sAsg (mFn (arity 2 f_law_take) [] (mCons (mVar 0) (mCons (mC (.int 8)) mNil))) (bName 4))
    (sIf (mTest (mOp gGt (mVar 4) (mC (.int 1)))) (sDPutM (mVar 2) (mVar 3) (mOp gIx (mLst false (mCons (mC .non) (mCons (mC (.int 0)) (mCons (mC (.int 1)) (mCons (mC (.int 5)) (mCons (mC (.int 5)) (mCons (mOp (gAdd false) (mC (.int 12)) (mFn (arity 2 f_law_take) [] (mCons (mVar 0) (mCons (mC (.int 90)) mNil)))) (mCons (mOp gPow (mC (.int 10)) (mC (.int 12))) (mCons (mC (.int 40)) mNil))))))))) (mVar 4))) (sIf (mTest (mOp gEq (mVar 4) (mC (.int 1)))) (sDPutM (mVar 2) (mVar 3) (mC .non)) sNext)))
abbrev pickL (u : Int) : List D := [.non, .int 0, .int 1, .int 5, .int 5, .int (12 + u), .int 1000000000000, .int 40]
theorem pick_val {u v : Int} (h0 : 0 ≤ u) (h1 : u < 90) (v0 : 1 < v) (v1 : v < 8) : ∃ j, atI (pickL u) v = some (.int j) ∧ 0 ≤ j ∧ j ≤ 10 ^ 12 := by
  rcases (by omega : v = 2 ∨ v = 3 ∨ v = 4 ∨ v = 5 ∨ v = 6 ∨ v = 7) with rfl | rfl | rfl | rfl | rfl | rfl
  · exact ⟨1, rfl, by decide, by decide⟩
  · exact ⟨5, rfl, by decide, by decide⟩
  · exact ⟨5, rfl, by decide, by decide⟩
  · exact ⟨12 + u, rfl, by omega, by omega⟩
  · exact ⟨1000000000000, rfl, by decide, by decide⟩
  · exact ⟨40, rfl, by decide, by decide⟩
/-- all but the draws' state and the object at d stands as before -/
def Fd (d : Nat) (O O' : Store) : Prop := O'.length = O.length ∧ ∀ i, 0 < i → i ≠ d → i < O.length → O'[i]? = O[i]?
theorem Fd.trans {d : Nat} {O O1 O2 : Store} (a : Fd d O O1) (b : Fd d O1 O2) : Fd d O O2 := ⟨b.1.trans a.1, fun i h0 h1 h => (b.2 i h0 h1 (by rw [a.1]; exact h)).trans (a.2 i h0 h1 h)⟩
theorem fd_fr {d : Nat} {O O' : Store} (f : Fr O O') (h : O'.length = O.length) : Fd d O O' := ⟨h, fun i h0 _ hl => f.2 i h0 hl⟩
theorem fd_set {d : Nat} {O : Store} {x : Ob} : Fd d O (O.set d x) := ⟨List.length_set .., fun i _ h1 _ => List.getElem?_set_ne (fun z => h1 z.symm)⟩
section
variable {b d : Nat} {O : Store} {ns : List Str}
theorem mn_turn {kvs : List (Key × D)} {M : Str → Option Int} {nm : Str} {y1 y3 y4 : Option D} (K : Mins kvs M ns) (hn : nm ∈ ns) (hl : kvs.length + 1 ≤ 1000) (t : Take b 0 O) (hb : b ≤ 2 ^ 20) (hd : O[d]? = some (.dct kvs)) (d0 : 0 < d) :
    ∃ kvs' M' y3' y4' O', turnOf (bName 3) mnB (.str nm) [some (.hdl 0), y1, some (.hdl d), y3, y4] O = .next [some (.hdl 0), y1, some (.hdl d), y3', y4'] O' ∧ Mins kvs' M' ns ∧ kvs'.length ≤ kvs.length + 1 ∧ O'[d]? = some (.dct kvs') ∧ Take (b + 2) 0 O' ∧ Fd d O O' := by
  obtain ⟨v, O1, e1, v0, v1, t1, f1, l1⟩ := tk1 t (m := 8) (by decide) (by decide) (by omega)
  have h1 := f1.at d0 hd
  have kl : kvs.length ≤ 1000000 := by omega
  by_cases c1 : 1 < v
  · obtain ⟨u, O2, e2, u0, u1, t2, f2, l2⟩ := tk1 t1 (m := 90) (by decide) (by decide) (by omega)
    obtain ⟨j, hj, j0, j1⟩ := pick_val u0 u1 c1 v1
    have h2 := f2.at d0 h1
    have pw : ∀ O, gPow O (.int 10) (.int 12) = some (.int 1000000000000, O) := fun _ => rfl
    refine ⟨_, _, some (.str nm), some (.int v), O2.set d (.dct (putKD kvs (.inr nm) (optD (some j)))), ?_, K.put hn (v := some j) (fun i hi => by cases hi; exact ⟨j0, j1⟩) hl, put_len, set_at h2, (tmono (by omega) t2).set (by omega), ((fd_fr f1 l1).trans (fd_fr f2 l2)).trans fd_set⟩
    show turnOf (bName 3) mnB _ _ _ = .next _ (O2.set d (.dct (putKD kvs (.inr nm) (.int j))))
    simp [turnOf, mnB, sDPutM, dctOf, keyD, hdlN, runF, sSeq, sIf, sNext, sDrop, sRet, sRetN, sAsg, ofRes, ofB, bName, bNil, bCons, bTup, bLst, bSubL, mTest, mOp, mVar, mC, mChain, mAnd, mOr, mNot, mIf, mAndV, mOrV, mNotV, mNeg, mCons, mNil, mTup, mLst, newL, mCall, mFn, arity, g1, g2, gLen, gInt, gAbs, gMax2, gMin2, gIx, seqOf, lsqOf, lstOf, Res.bind, ofO, gAdd_ok, gSub_ok, gEq_int, gNe_int, gLt_int, gLe_int, gGt_int, gGe_int, gEq_bl, gNe_bl, gEq_str, gNe_str, mIsi, mIsiT, tyD, kitL, kitTab, atI_c0, atI_c1, atI_c2, atI_c3, atI_c4, sForR1, int1, int2, mMeth, mMake, mFld, sFldM, gIs, gIsNot, isNon_t, sRaise, gList, newLO, x_take, e1, e2, c1, hj, pw, h2, kl]
  · by_cases c2 : v = 1
    · refine ⟨_, _, some (.str nm), some (.int v), O1.set d (.dct (putKD kvs (.inr nm) (optD none))), ?_, K.put hn (v := none) (fun i hi => by cases hi) hl, put_len, set_at h1, (tmono (by omega) t1).set (by omega), (fd_fr f1 l1).trans fd_set⟩
      show turnOf (bName 3) mnB _ _ _ = .next _ (O1.set d (.dct (putKD kvs (.inr nm) .non)))
      simp [turnOf, mnB, sDPutM, dctOf, keyD, hdlN, runF, sSeq, sIf, sNext, sDrop, sRet, sRetN, sAsg, ofRes, ofB, bName, bNil, bCons, bTup, bLst, bSubL, mTest, mOp, mVar, mC, mChain, mAnd, mOr, mNot, mIf, mAndV, mOrV, mNotV, mNeg, mCons, mNil, mTup, mLst, newL, mCall, mFn, arity, g1, g2, gLen, gInt, gAbs, gMax2, gMin2, gIx, seqOf, lsqOf, lstOf, Res.bind, ofO, gAdd_ok, gSub_ok, gEq_int, gNe_int, gLt_int, gLe_int, gGt_int, gGe_int, gEq_bl, gNe_bl, gEq_str, gNe_str, mIsi, mIsiT, tyD, kitL, kitTab, atI_c0, atI_c1, atI_c2, atI_c3, atI_c4, sForR1, int1, int2, mMeth, mMake, mFld, sFldM, gIs, gIsNot, isNon_t, sRaise, gList, newLO, x_take, e1, c1, c2, h1, kl]
    · refine ⟨kvs, M, some (.str nm), some (.int v), O1, ?_, K, by omega, h1, tmono (by omega) t1, fd_fr f1 l1⟩
      simp [turnOf, mnB, runF, sSeq, sIf, sNext, sDrop, sRet, sRetN, sAsg, ofRes, ofB, bName, bNil, bCons, bTup, bLst, bSubL, mTest, mOp, mVar, mC, mChain, mAnd, mOr, mNot, mIf, mAndV, mOrV, mNotV, mNeg, mCons, mNil, mTup, mLst, newL, mCall, mFn, arity, g1, g2, gLen, gInt, gAbs, gMax2, gMin2, gIx, seqOf, lsqOf, lstOf, Res.bind, ofO, gAdd_ok, gSub_ok, gEq_int, gNe_int, gLt_int, gLe_int, gGt_int, gGe_int, gEq_bl, gNe_bl, gEq_str, gNe_str, mIsi, mIsiT, tyD, kitL, kitTab, atI_c0, atI_c1, atI_c2, atI_c3, atI_c4, sForR1, int1, int2, mMeth, mMake, mFld, sFldM, gIs, gIsNot, isNon_t, sRaise, gList, newLO, x_take, e1, c1, c2]
theorem mins_nil : Mins [] (fun _ => none) ns := ⟨fun _ => rfl, ⟨[], rfl, fun x h => (nomatch h)⟩, fun x i h => (nomatch h), by simp⟩
theorem mn_ok (t : Take b 0 O) (hb : b ≤ 2 ^ 19) (hl : ns.length ≤ 100) :
    ∃ kvs M O', f_law_minutes [.hdl 0, .lst (ns.map .str)] O = .ok (.hdl O.length) O' ∧ Mins kvs M ns ∧ kvs.length ≤ ns.length ∧ O'[O.length]? = some (.dct kvs) ∧ Take (b + 200) 0 O' ∧ Fr O O' ∧ O'.length = O.length + 1 := by
  have p0 := t.len
  have g0 : (O ++ [Ob.dct []])[O.length]? = some (.dct []) := by rw [List.getElem?_append_right (Nat.le_refl _)]; simp
  obtain ⟨L', O', e, kvs, M, y3, y4, hL, K, kl, hd, t', f⟩ := forL_keeps (m := mVar 1) (b := bName 3) (body := mnB) (L := [some (.hdl 0), some (.lst (ns.map .str)), some (.hdl O.length), none, none]) (O := O ++ [.dct []]) (O1 := O ++ [.dct []]) (ds := ns.map .str)
    (I := fun i L O' => ∃ (kvs : List (Key × D)) (M : Str → Option Int) (y3 y4 : Option D), L = [some (.hdl 0), some (.lst (ns.map .str)), some (.hdl O.length), y3, y4] ∧ Mins kvs M ns ∧ kvs.length ≤ i ∧ O'[O.length]? = some (.dct kvs) ∧ Take (b + 2 * i) 0 O' ∧ Fd O.length (O ++ [.dct []]) O')
    rfl ⟨[], fun _ => none, none, none, rfl, mins_nil, by simp, g0, t.fz fz_app, ⟨rfl, fun _ _ _ _ => rfl⟩⟩ fun i y L O' hy ⟨kvs, M, y3, y4, hL, K, kl, hd, t', f⟩ => by
      subst hL
      rw [List.getElem?_map] at hy
      obtain ⟨nm, hnm, rfl⟩ := Option.map_eq_some_iff.mp hy
      have hi := (List.getElem?_eq_some_iff.mp hnm).1
      obtain ⟨kvs', M', y3', y4', O2, e, K', kl', hd', t2, f2⟩ := mn_turn (y1 := some (.lst (ns.map .str))) (y3 := y3) (y4 := y4) K (List.mem_of_getElem? hnm) (by omega) t' (by omega) hd p0
      exact ⟨_, O2, e, kvs', M', y3', y4', rfl, K', by omega, hd', tmono (by omega) t2, f.trans f2⟩
  subst hL
  rw [List.length_map] at kl t'
  refine ⟨kvs, M, O', ?_, K, kl, hd, tmono (by omega) t', ⟨by rw [f.1, List.length_append]; omega, fun i h0 hi => ?_⟩, by rw [f.1, List.length_append]; rfl⟩
  · simp only [f_law_minutes, b_law_minutes]
    generalize sForL _ _ _ = sL at e ⊢
    generalize ns.map D.str = z at *
    simp [mDNew, runF, sSeq, sIf, sNext, sDrop, sRet, sRetN, sAsg, ofRes, ofB, bName, bNil, bCons, bTup, bLst, bSubL, mTest, mOp, mVar, mC, mChain, mAnd, mOr, mNot, mIf, mAndV, mOrV, mNotV, mNeg, mCons, mNil, mTup, mLst, newL, mCall, mFn, arity, g1, g2, gLen, gInt, gAbs, gMax2, gMin2, gIx, seqOf, lsqOf, lstOf, Res.bind, ofO, gAdd_ok, gSub_ok, gEq_int, gNe_int, gLt_int, gLe_int, gGt_int, gGe_int, gEq_bl, gNe_bl, gEq_str, gNe_str, mIsi, mIsiT, tyD, kitL, kitTab, atI_c0, atI_c1, atI_c2, atI_c3, atI_c4, sForR1, int1, int2, mMeth, mMake, mFld, sFldM, gIs, gIsNot, isNon_t, sRaise, gList, newLO, e]
  · rw [f.2 i h0 (by omega) (by rw [List.length_append]; omega), List.getElem?_append_left hi]
end
/-! ### the moments -/
theorem eqV_int {a b : Int} : eqV (.int a) (.int b) = decide (a = b) := by
  show (a == b) = decide (a = b)
  by_cases z : a = b
  · rw [z]
    simp
  · simp [z]
theorem inV_ints {v : Int} : ∀ {xs : List Int}, inV (.int v) (xs.map V.int) = decide (v ∈ xs)
  | [] => by simp [inV]
  | x :: xs => by
    have ih := inV_ints (v := v) (xs := xs)
    unfold inV at ih ⊢
    rw [List.map_cons, List.any_cons, ih, eqV_int]
    by_cases h : v = x
    · subst h
      simp
    · have e2 : ¬ x = v := fun z => h z.symm
      simp [h, e2]
theorem flats_ints : ∀ {xs : List Int}, (xs.map D.int).mapM flatOf = some (xs.map V.int)
  | [] => by simp
  | x :: xs => by
    rw [List.map_cons, mapM_cons, flats_ints]
    rfl
theorem notin_ints {O : Store} {d : D} {xs : List Int} {v : Int} (h : seqOf O d = some (xs.map D.int)) : gNotIn O (.int v) d = some (.bl (!decide (v ∈ xs)), O) := by
  have e : inD O (.int v) d = some (decide (v ∈ xs)) := by
    show (match seqOf O d, flatOf (.int v) with
      | some ds, some v => match ds.mapM flatOf with
        | some vs => some (inV v vs)
        | none => none
      | _, _ => none) = _
    rw [h]
    show (match (xs.map D.int).mapM flatOf with
        | some vs => some (inV (.int v) vs)
        | none => none) = _
    rw [flats_ints]
    show some (inV (.int v) (xs.map V.int)) = _
    rw [inV_ints]
  unfold gNotIn
  rw [e]
theorem foldU_sub : ∀ {ns us : List Int}, (ns.foldl addU us).Sublist (us ++ ns)
  | [], us => by simp
  | k :: ns, us => by
    rw [List.foldl_cons]
    have h := foldU_sub (ns := ns) (us := addU us k)
    refine h.trans ?_
    have : (addU us k).Sublist (us ++ [k]) := by
      unfold addU
      split
      · exact List.sublist_append_left _ _
      · exact List.Sublist.refl _
    rw [show us ++ k :: ns = (us ++ [k]) ++ ns by simp]
    exact this.append_right ns
theorem dist_sort (ns : List Int) : distU (sortI ns) = sortU ns := by
  have hs : (sortI ns).Pairwise (fun a b => a ≤ b) := ((List.pairwise_mergeSort (le := fun a b : Int => decide (a ≤ b)) (fun a b c h1 h2 => decide_eq_true (Int.le_trans (of_decide_eq_true h1) (of_decide_eq_true h2))) (fun a b => by
      rcases Int.le_total a b with h | h
      · simp [h]
      · simp [h]) ns).imp fun h => of_decide_eq_true h)
  have sub : (distU (sortI ns)).Sublist (sortI ns) := by
    have := foldU_sub (ns := sortI ns) (us := [])
    rw [List.nil_append] at this
    exact this
  have h1 := hs.sublist sub
  have h2 : (distU (sortI ns)).Pairwise (fun a b => a ≠ b) := distU_nodup _
  have h3 : (distU (sortI ns)).Pairwise (fun a b => a < b) := (h1.and h2).imp fun ⟨a, b⟩ => by omega
  exact sortU_is h3 fun k => distU_mem.trans (List.mergeSort_perm _ _).mem_iff
end DK.k18
end
section
set_option Elab.async false
set_option linter.all false
set_option autoImplicit false
set_option maxRecDepth 100000
set_option maxHeartbeats 4000000
/-! K18G: the law's statements up to what is there by a minute, in plain Lean. -/
namespace DK.k18
open PySem L2 DK DK.W
structure Scn (w : Wd) (M : Str → Option Int) (kvs : List (Key × D)) (h s l p v d n : Nat) (O : Store) : Prop where
  la : LandAt h s l p v w O
  dm : O[d]? = some (.dct kvs)
  tb : TabAt n (rowsW w M) O
  d0 : 0 < d
  n0 : 0 < n
theorem Scn.fr {w : Wd} {M : Str → Option Int} {kvs : List (Key × D)} {h s l p v d n : Nat} {O O' : Store} (c : Scn w M kvs h s l p v d n O) (f : Fr O O') : Scn w M kvs h s l p v d n O' := ⟨c.la.fr f, f.at c.d0 c.dm, c.tb.fr f c.n0, c.d0, c.n0⟩
abbrev Lx (sc : D) (w : Wd) (h d hd n : Nat) (y8 y9 y10 y11 y12 y13 y14 y15 : Option D) : Loc := [some sc, some (.hdl 0), some (encW w), some (.hdl h), some (.lst ((nmsW w).map .str)), some (.hdl d), some (.hdl hd), some (.hdl n), y8, y9, y10, y11, y12, y13, y14, y15, none, none, none, none]
def S3 : SM := (sAsg (mOp (gAdd false) (mOp (gAdd false) (mOp gIx (mVar 2) (mC (.int 0))) (mLcL false (mOp gIx (mVar 2) (mC (.int 1))) [16] (bName 16) mYes (mOp gIx (mVar 16) (mC (.int 0))))) (mLcL false (mOp gIx (mVar 2) (mC (.int 2))) [17] (bName 17) mYes (mOp gIx (mVar 17) (mC (.int 0))))) (bName 4))
def S8 : SM := (sAsg (mLcL false (mOp gIx (mVar 2) (mC (.int 0))) [18] (bName 18) mYes (mTup (mCons (mC (.str "station")) (mCons (mVar 18) (mCons (mDGet1 (mVar 5) (mVar 18)) mNil))))) (bName 8))
def S9 : SM := (sAsg (mOp (gAdd false) (mVar 8) (mLcL false (mOp gIx (mVar 2) (mC (.int 1))) [16] (bName 16) mYes (mTup (mCons (mC (.str "line")) (mCons (mOp gIx (mVar 16) (mC (.int 0))) (mCons (mDGet1 (mVar 5) (mOp gIx (mVar 16) (mC (.int 0)))) mNil)))))) (bName 8))
def S10 : SM := (sAsg (mOp (gAdd false) (mVar 8) (mLcL false (mOp gIx (mVar 2) (mC (.int 2))) [17] (bName 17) mYes (mTup (mCons (mC (.str "plant")) (mCons (mOp gIx (mVar 17) (mC (.int 0))) (mCons (mDGet1 (mVar 5) (mOp gIx (mVar 17) (mC (.int 0)))) mNil)))))) (bName 8))
def S11 : SM := (sIf (mOr (mTest (mOp gNe (mMeth "Table" "rows" (arity 1 f_table_rows) [] (mVar 7) mNil) (mVar 8))) (mTest (mOp gNe (mMeth "Table" "never" (arity 1 f_table_never) [] (mVar 7) mNil) (mCall (g1 (gSorted false)) (mCons (mLcL false (mVar 8) [19] (bName 19) (mTest (mOp gIs (mOp gIx (mVar 19) (mC (.int 2))) (mC .non))) (mOp gIx (mVar 19) (mC (.int 1)))) mNil))))) (sRet (mC (.bl false))) sNext)
def S12 : SM := (sAsg (mLcL false (mVar 8) [19] (bName 19) (mTest (mOp gIsNot (mOp gIx (mVar 19) (mC (.int 2))) (mC .non))) (mVar 19)) (bName 9))
def S13 : SM := (sAsg (mLst true mNil) (bName 10))
def S14 : SM := (sForL (mCall (g1 (gSorted false)) (mCons (mLcL false (mVar 9) [19] (bName 19) mYes (mOp gIx (mVar 19) (mC (.int 2)))) mNil)) (bName 11) (sIf (mTest (mOp gNotIn (mVar 11) (mVar 10))) (sDrop (mApp (mVar 10) (mVar 11))) sNext))
def S15 : SM := (sIf (mOr (mTest (mOp gNe (mMeth "Table" "moments" (arity 1 f_table_moments) [] (mVar 7) mNil) (mVar 10))) (mTest (mOp gNe (mMeth "Table" "last" (arity 1 f_table_last) [] (mVar 7) mNil) (mCall (g1 gMaxL) (mCons (mOp (gAdd false) (mLst false (mCons (mC (.int 0)) mNil)) (mVar 10)) mNil))))) (sRet (mC (.bl false))) sNext)
def S16 : SM := (sIf (mOr (mTest (mOp gNe (mCall (g1 (gSorted false)) (mCons (mMeth "Table" "minutes" (arity 1 f_table_minutes) [] (mVar 7) mNil) mNil)) (mCall (g1 (gSorted false)) (mCons (mLcL false (mVar 9) [19] (bName 19) mYes (mOp gIx (mVar 19) (mC (.int 1)))) mNil)))) (mTest (mOp gGt (mCall (g1 gLen) (mCons (mLcL false (mVar 9) [19] (bName 19) (mTest (mOp gNe (mDGet (mMeth "Table" "minutes" (arity 1 f_table_minutes) [] (mVar 7) mNil) (mOp gIx (mVar 19) (mC (.int 1)))) (mOp gIx (mVar 19) (mC (.int 2))))) (mVar 19)) mNil)) (mC (.int 0))))) (sRet (mC (.bl false))) sNext)
def S17 : SM := (sIf (mTest (mOp gNe (mMeth "Table" "lines" (arity 1 f_table_lines) [] (mVar 7) mNil) (mLcL false (mVar 8) [19] (bName 19) mYes (mOp (gAdd false) (mOp (gAdd false) (mOp (gAdd false) (mOp (gAdd false) (mOp gIx (mVar 19) (mC (.int 0))) (mC (.str " "))) (mOp gIx (mVar 19) (mC (.int 1)))) (mC (.str " "))) (mIf (mTest (mOp gIs (mOp gIx (mVar 19) (mC (.int 2))) (mC .non))) (mC (.str "never")) (mCall (g1 gStr) (mCons (mOp gIx (mVar 19) (mC (.int 2))) mNil))))))) (sRet (mC (.bl false))) sNext)
def S18 : SM := (sForL (mOp (gAdd false) (mLst false (mCons (mC (.int 0)) (mCons (mC (.int 4)) (mCons (mC (.int 5)) (mCons (mOp gPow (mC (.int 10)) (mC (.int 12))) mNil))))) (mVar 10)) (bName 12) (sIf (mNot (mTest (mFn (arity 3 f_law_by_right) [] (mCons (mVar 7) (mCons (mVar 8) (mCons (mVar 12) mNil)))))) (sRet (mC (.bl false))) sNext))
def S19 : SM := (sIf (mOr (mTest (mOp gGt (mCall (g1 gLen) (mCons (mLcL false (mVar 8) [19] (bName 19) (mTest (mOp gNe (mFn (arity 2 f_law_minute) [] (mCons (mVar 7) (mCons (mOp gIx (mVar 19) (mC (.int 1))) mNil))) (mOp gIx (mVar 19) (mC (.int 2))))) (mVar 19)) mNil)) (mC (.int 0)))) (mTest (mOp gNe (mFn (arity 2 f_law_minute) [] (mCons (mVar 7) (mCons (mC (.str "zed")) mNil))) (mC (.str "unknown"))))) (sRet (mC (.bl false))) sNext)
abbrev rowsL (w : Wd) (M : Str → Option Int) : Option D := some (.lst ((rowsW w M).map rowD))
theorem rowsK_map {α : Type} {kd : Str} {M : Str → Option Int} {xs : List α} {n : α → Str} : (xs.map fun x => rowD (kd, n x, M (n x))) = (rowsK kd (xs.map n) M).map rowD := by
  unfold rowsK
  rw [List.map_map, List.map_map]
  rfl
section
variable {w : Wd} {M : Str → Option Int} {kvs : List (Key × D)} {h s l p v d n hd : Nat} {O : Store} {sc : D} {y8 y9 y10 y11 y12 y13 y14 y15 : Option D}
theorem wlen (k : WOK w) : w.st.length ≤ 19 ∧ w.ls.length ≤ 19 ∧ w.ps.length ≤ 19 := by
  have := nmsW_len k
  unfold nmsW at this
  rw [List.length_append, List.length_append, List.length_map, List.length_map] at this
  omega
theorem s3_ok (k : WOK w) {y5 y6 y7 : Option D} : S3 [some sc, some (.hdl 0), some (encW w), some (.hdl h), none, y5, y6, y7, none, none, none, none, none, none, none, none, none, none, none, none] O = .next [some sc, some (.hdl 0), some (encW w), some (.hdl h), some (.lst ((nmsW w).map .str)), y5, y6, y7, none, none, none, none, none, none, none, none, none, none, none, none] O := by
  obtain ⟨l1, l2, l3⟩ := wlen k
  have e1 := lc_map (enc := encL) (src := mOp gIx (mVar 2) (mC (.int 1))) (el := mOp gIx (mVar 16) (mC (.int 0))) (i := 16) (L := [some sc, some (.hdl 0), some (encW w), some (.hdl h), none, y5, y6, y7, none, none, none, none, none, none, none, none, none, none, none, none]) (O := O) (O1 := O) (xs := w.ls) (fun x => .str x.n)
    (by simp [runF, sSeq, sIf, sNext, sDrop, sRet, sRetN, sAsg, ofRes, ofB, bName, bNil, bCons, bTup, bLst, bSubL, mTest, mOp, mVar, mC, mChain, mAnd, mOr, mNot, mIf, mAndV, mOrV, mNotV, mNeg, mCons, mNil, mTup, mLst, newL, mCall, mFn, arity, g1, g2, gLen, gInt, gAbs, gMax2, gMin2, gIx, seqOf, lsqOf, lstOf, Res.bind, ofO, gAdd_ok, gSub_ok, gEq_int, gNe_int, gLt_int, gLe_int, gGt_int, gGe_int, gEq_bl, gNe_bl, gEq_str, gNe_str, mIsi, mIsiT, tyD, kitL, kitTab, atI_c0, atI_c1, atI_c2, atI_c3, atI_c4, sForR1, int1, int2, mMeth, mMake, mFld, sFldM, gIs, gIsNot, isNon_t, sRaise, gList, newLO]) (by omega) (by simp) fun x _ => by simp [runF, sSeq, sIf, sNext, sDrop, sRet, sRetN, sAsg, ofRes, ofB, bName, bNil, bCons, bTup, bLst, bSubL, mTest, mOp, mVar, mC, mChain, mAnd, mOr, mNot, mIf, mAndV, mOrV, mNotV, mNeg, mCons, mNil, mTup, mLst, newL, mCall, mFn, arity, g1, g2, gLen, gInt, gAbs, gMax2, gMin2, gIx, seqOf, lsqOf, lstOf, Res.bind, ofO, gAdd_ok, gSub_ok, gEq_int, gNe_int, gLt_int, gLe_int, gGt_int, gGe_int, gEq_bl, gNe_bl, gEq_str, gNe_str, mIsi, mIsiT, tyD, kitL, kitTab, atI_c0, atI_c1, atI_c2, atI_c3, atI_c4, sForR1, int1, int2, mMeth, mMake, mFld, sFldM, gIs, gIsNot, isNon_t, sRaise, gList, newLO]
  have e2 := lc_map (enc := encP) (src := mOp gIx (mVar 2) (mC (.int 2))) (el := mOp gIx (mVar 17) (mC (.int 0))) (i := 17) (L := [some sc, some (.hdl 0), some (encW w), some (.hdl h), none, y5, y6, y7, none, none, none, none, none, none, none, none, none, none, none, none]) (O := O) (O1 := O) (xs := w.ps) (fun x => .str x.n)
    (by simp [runF, sSeq, sIf, sNext, sDrop, sRet, sRetN, sAsg, ofRes, ofB, bName, bNil, bCons, bTup, bLst, bSubL, mTest, mOp, mVar, mC, mChain, mAnd, mOr, mNot, mIf, mAndV, mOrV, mNotV, mNeg, mCons, mNil, mTup, mLst, newL, mCall, mFn, arity, g1, g2, gLen, gInt, gAbs, gMax2, gMin2, gIx, seqOf, lsqOf, lstOf, Res.bind, ofO, gAdd_ok, gSub_ok, gEq_int, gNe_int, gLt_int, gLe_int, gGt_int, gGe_int, gEq_bl, gNe_bl, gEq_str, gNe_str, mIsi, mIsiT, tyD, kitL, kitTab, atI_c0, atI_c1, atI_c2, atI_c3, atI_c4, sForR1, int1, int2, mMeth, mMake, mFld, sFldM, gIs, gIsNot, isNon_t, sRaise, gList, newLO]) (by omega) (by simp) fun x _ => by simp [runF, sSeq, sIf, sNext, sDrop, sRet, sRetN, sAsg, ofRes, ofB, bName, bNil, bCons, bTup, bLst, bSubL, mTest, mOp, mVar, mC, mChain, mAnd, mOr, mNot, mIf, mAndV, mOrV, mNotV, mNeg, mCons, mNil, mTup, mLst, newL, mCall, mFn, arity, g1, g2, gLen, gInt, gAbs, gMax2, gMin2, gIx, seqOf, lsqOf, lstOf, Res.bind, ofO, gAdd_ok, gSub_ok, gEq_int, gNe_int, gLt_int, gLe_int, gGt_int, gGe_int, gEq_bl, gNe_bl, gEq_str, gNe_str, mIsi, mIsiT, tyD, kitL, kitTab, atI_c0, atI_c1, atI_c2, atI_c3, atI_c4, sForR1, int1, int2, mMeth, mMake, mFld, sFldM, gIs, gIsNot, isNon_t, sRaise, gList, newLO]
  have a1 : gAdd false O (.lst (w.st.map .str)) (.lst (w.ls.map fun x => D.str x.n)) = some (.lst (w.st.map .str ++ w.ls.map fun x => D.str x.n), O) := by
    simp [gAdd, lstOf, newLO]
    omega
  have a2 : gAdd false O (.lst (w.st.map .str ++ w.ls.map fun x => D.str x.n)) (.lst (w.ps.map fun x => D.str x.n)) = some (.lst ((nmsW w).map .str), O) := by
    have : (nmsW w).map D.str = (w.st.map .str ++ w.ls.map fun x => D.str x.n) ++ w.ps.map fun x => D.str x.n := by
      unfold nmsW
      rw [List.map_append, List.map_append, List.map_map, List.map_map]
      rfl
    rw [this]
    simp [gAdd, lstOf, newLO]
    omega
  simp only [S3]
  generalize mLcL false _ [16] _ _ _ = c1 at e1 ⊢
  generalize mLcL false _ [17] _ _ _ = c2 at e2 ⊢
  generalize (nmsW w).map D.str = z at *
  generalize (w.ls.map fun x => D.str x.n) = z1 at *
  generalize (w.ps.map fun x => D.str x.n) = z2 at *
  simp [runF, sSeq, sIf, sNext, sDrop, sRet, sRetN, sAsg, ofRes, ofB, bName, bNil, bCons, bTup, bLst, bSubL, mTest, mOp, mVar, mC, mChain, mAnd, mOr, mNot, mIf, mAndV, mOrV, mNotV, mNeg, mCons, mNil, mTup, mLst, newL, mCall, mFn, arity, g1, g2, gLen, gInt, gAbs, gMax2, gMin2, gIx, seqOf, lsqOf, lstOf, Res.bind, ofO, gAdd_ok, gSub_ok, gEq_int, gNe_int, gLt_int, gLe_int, gGt_int, gGe_int, gEq_bl, gNe_bl, gEq_str, gNe_str, mIsi, mIsiT, tyD, kitL, kitTab, atI_c0, atI_c1, atI_c2, atI_c3, atI_c4, sForR1, int1, int2, mMeth, mMake, mFld, sFldM, gIs, gIsNot, isNon_t, sRaise, gList, newLO, e1, e2, a1, a2]
theorem s8_ok (k : WOK w) (c : Scn w M kvs h s l p v d n O) (K : Mins kvs M (nmsW w)) : S8 (Lx sc w h d hd n none none none none none none none none) O = .next (Lx sc w h d hd n (some (.lst ((rowsK "station" w.st M).map rowD))) none none none none none none none) O := by
  obtain ⟨l1, l2, l3⟩ := wlen k
  have e1 := lc_map (enc := D.str) (src := mOp gIx (mVar 2) (mC (.int 0))) (el := (mTup (mCons (mC (.str "station")) (mCons (mVar 18) (mCons (mDGet1 (mVar 5) (mVar 18)) mNil))))) (i := 18) (L := Lx sc w h d hd n none none none none none none none none) (O := O) (O1 := O) (xs := w.st) (fun x => rowD ("station", x, M x))
    (by simp [runF, sSeq, sIf, sNext, sDrop, sRet, sRetN, sAsg, ofRes, ofB, bName, bNil, bCons, bTup, bLst, bSubL, mTest, mOp, mVar, mC, mChain, mAnd, mOr, mNot, mIf, mAndV, mOrV, mNotV, mNeg, mCons, mNil, mTup, mLst, newL, mCall, mFn, arity, g1, g2, gLen, gInt, gAbs, gMax2, gMin2, gIx, seqOf, lsqOf, lstOf, Res.bind, ofO, gAdd_ok, gSub_ok, gEq_int, gNe_int, gLt_int, gLe_int, gGt_int, gGe_int, gEq_bl, gNe_bl, gEq_str, gNe_str, mIsi, mIsiT, tyD, kitL, kitTab, atI_c0, atI_c1, atI_c2, atI_c3, atI_c4, sForR1, int1, int2, mMeth, mMake, mFld, sFldM, gIs, gIsNot, isNon_t, sRaise, gList, newLO]) (by omega) (by simp) fun x _ => by
      have kx := K.v x
      simp [mDGet1, dctOf, keyD, runF, sSeq, sIf, sNext, sDrop, sRet, sRetN, sAsg, ofRes, ofB, bName, bNil, bCons, bTup, bLst, bSubL, mTest, mOp, mVar, mC, mChain, mAnd, mOr, mNot, mIf, mAndV, mOrV, mNotV, mNeg, mCons, mNil, mTup, mLst, newL, mCall, mFn, arity, g1, g2, gLen, gInt, gAbs, gMax2, gMin2, gIx, seqOf, lsqOf, lstOf, Res.bind, ofO, gAdd_ok, gSub_ok, gEq_int, gNe_int, gLt_int, gLe_int, gGt_int, gGe_int, gEq_bl, gNe_bl, gEq_str, gNe_str, mIsi, mIsiT, tyD, kitL, kitTab, atI_c0, atI_c1, atI_c2, atI_c3, atI_c4, sForR1, int1, int2, mMeth, mMake, mFld, sFldM, gIs, gIsNot, isNon_t, sRaise, gList, newLO, c.dm, kx]
  have em := rowsK_map (kd := "station") (M := M) (xs := w.st) (n := fun x => x)
  rw [List.map_id'] at em
  rw [em] at e1
  simp only [S8]
  generalize mLcL false _ [18] _ _ _ = c1 at e1 ⊢
  generalize (rowsK "station" w.st M).map rowD = z at *
  generalize (nmsW w).map D.str = z0 at *
  simp [runF, sSeq, sIf, sNext, sDrop, sRet, sRetN, sAsg, ofRes, ofB, bName, bNil, bCons, bTup, bLst, bSubL, mTest, mOp, mVar, mC, mChain, mAnd, mOr, mNot, mIf, mAndV, mOrV, mNotV, mNeg, mCons, mNil, mTup, mLst, newL, mCall, mFn, arity, g1, g2, gLen, gInt, gAbs, gMax2, gMin2, gIx, seqOf, lsqOf, lstOf, Res.bind, ofO, gAdd_ok, gSub_ok, gEq_int, gNe_int, gLt_int, gLe_int, gGt_int, gGe_int, gEq_bl, gNe_bl, gEq_str, gNe_str, mIsi, mIsiT, tyD, kitL, kitTab, atI_c0, atI_c1, atI_c2, atI_c3, atI_c4, sForR1, int1, int2, mMeth, mMake, mFld, sFldM, gIs, gIsNot, isNon_t, sRaise, gList, newLO, e1]
theorem s9_ok (k : WOK w) (c : Scn w M kvs h s l p v d n O) (K : Mins kvs M (nmsW w)) : S9 (Lx sc w h d hd n (some (.lst ((rowsK "station" w.st M).map rowD))) none none none none none none none) O = .next (Lx sc w h d hd n (some (.lst ((rowsK "station" w.st M ++ rowsK "line" (w.ls.map (·.n)) M).map rowD))) none none none none none none none) O := by
  obtain ⟨l1, l2, l3⟩ := wlen k
  have e1 := lc_map (enc := encL) (src := mOp gIx (mVar 2) (mC (.int 1))) (el := (mTup (mCons (mC (.str "line")) (mCons (mOp gIx (mVar 16) (mC (.int 0))) (mCons (mDGet1 (mVar 5) (mOp gIx (mVar 16) (mC (.int 0)))) mNil))))) (i := 16) (L := Lx sc w h d hd n (some (.lst ((rowsK "station" w.st M).map rowD))) none none none none none none none) (O := O) (O1 := O) (xs := w.ls) (fun x => rowD ("line", x.n, M x.n))
    (by simp [runF, sSeq, sIf, sNext, sDrop, sRet, sRetN, sAsg, ofRes, ofB, bName, bNil, bCons, bTup, bLst, bSubL, mTest, mOp, mVar, mC, mChain, mAnd, mOr, mNot, mIf, mAndV, mOrV, mNotV, mNeg, mCons, mNil, mTup, mLst, newL, mCall, mFn, arity, g1, g2, gLen, gInt, gAbs, gMax2, gMin2, gIx, seqOf, lsqOf, lstOf, Res.bind, ofO, gAdd_ok, gSub_ok, gEq_int, gNe_int, gLt_int, gLe_int, gGt_int, gGe_int, gEq_bl, gNe_bl, gEq_str, gNe_str, mIsi, mIsiT, tyD, kitL, kitTab, atI_c0, atI_c1, atI_c2, atI_c3, atI_c4, sForR1, int1, int2, mMeth, mMake, mFld, sFldM, gIs, gIsNot, isNon_t, sRaise, gList, newLO]) (by omega) (by simp) fun x _ => by
      have kx := K.v x.n
      simp [mDGet1, dctOf, keyD, runF, sSeq, sIf, sNext, sDrop, sRet, sRetN, sAsg, ofRes, ofB, bName, bNil, bCons, bTup, bLst, bSubL, mTest, mOp, mVar, mC, mChain, mAnd, mOr, mNot, mIf, mAndV, mOrV, mNotV, mNeg, mCons, mNil, mTup, mLst, newL, mCall, mFn, arity, g1, g2, gLen, gInt, gAbs, gMax2, gMin2, gIx, seqOf, lsqOf, lstOf, Res.bind, ofO, gAdd_ok, gSub_ok, gEq_int, gNe_int, gLt_int, gLe_int, gGt_int, gGe_int, gEq_bl, gNe_bl, gEq_str, gNe_str, mIsi, mIsiT, tyD, kitL, kitTab, atI_c0, atI_c1, atI_c2, atI_c3, atI_c4, sForR1, int1, int2, mMeth, mMake, mFld, sFldM, gIs, gIsNot, isNon_t, sRaise, gList, newLO, c.dm, kx]
  rw [rowsK_map] at e1
  have r1 := rowsK_len (kd := "station") (xs := w.st) (M := M)
  have r2 := rowsK_len (kd := "line") (xs := w.ls.map (·.n)) (M := M)
  rw [List.length_map] at r2
  have a1 : gAdd false O (.lst ((rowsK "station" w.st M).map rowD)) (.lst ((rowsK "line" (w.ls.map (·.n)) M).map rowD)) = some (.lst ((rowsK "station" w.st M ++ rowsK "line" (w.ls.map (·.n)) M).map rowD), O) := by
    rw [List.map_append]
    simp [gAdd, lstOf, newLO, r1, r2]
    omega
  simp only [S9]
  generalize mLcL false _ [16] _ _ _ = c1 at e1 ⊢
  generalize (rowsK "station" w.st M ++ rowsK "line" (w.ls.map (·.n)) M).map rowD = z2 at *
  generalize (rowsK "station" w.st M).map rowD = z at *
  generalize (rowsK "line" (w.ls.map (·.n)) M).map rowD = z1 at *
  generalize (nmsW w).map D.str = z0 at *
  simp [runF, sSeq, sIf, sNext, sDrop, sRet, sRetN, sAsg, ofRes, ofB, bName, bNil, bCons, bTup, bLst, bSubL, mTest, mOp, mVar, mC, mChain, mAnd, mOr, mNot, mIf, mAndV, mOrV, mNotV, mNeg, mCons, mNil, mTup, mLst, newL, mCall, mFn, arity, g1, g2, gLen, gInt, gAbs, gMax2, gMin2, gIx, seqOf, lsqOf, lstOf, Res.bind, ofO, gAdd_ok, gSub_ok, gEq_int, gNe_int, gLt_int, gLe_int, gGt_int, gGe_int, gEq_bl, gNe_bl, gEq_str, gNe_str, mIsi, mIsiT, tyD, kitL, kitTab, atI_c0, atI_c1, atI_c2, atI_c3, atI_c4, sForR1, int1, int2, mMeth, mMake, mFld, sFldM, gIs, gIsNot, isNon_t, sRaise, gList, newLO, e1, a1]
theorem s10_ok (k : WOK w) (c : Scn w M kvs h s l p v d n O) (K : Mins kvs M (nmsW w)) : S10 (Lx sc w h d hd n (some (.lst ((rowsK "station" w.st M ++ rowsK "line" (w.ls.map (·.n)) M).map rowD))) none none none none none none none) O = .next (Lx sc w h d hd n (rowsL w M) none none none none none none none) O := by
  obtain ⟨l1, l2, l3⟩ := wlen k
  have e1 := lc_map (enc := encP) (src := mOp gIx (mVar 2) (mC (.int 2))) (el := (mTup (mCons (mC (.str "plant")) (mCons (mOp gIx (mVar 17) (mC (.int 0))) (mCons (mDGet1 (mVar 5) (mOp gIx (mVar 17) (mC (.int 0)))) mNil))))) (i := 17) (L := Lx sc w h d hd n (some (.lst ((rowsK "station" w.st M ++ rowsK "line" (w.ls.map (·.n)) M).map rowD))) none none none none none none none) (O := O) (O1 := O) (xs := w.ps) (fun x => rowD ("plant", x.n, M x.n))
    (by simp [runF, sSeq, sIf, sNext, sDrop, sRet, sRetN, sAsg, ofRes, ofB, bName, bNil, bCons, bTup, bLst, bSubL, mTest, mOp, mVar, mC, mChain, mAnd, mOr, mNot, mIf, mAndV, mOrV, mNotV, mNeg, mCons, mNil, mTup, mLst, newL, mCall, mFn, arity, g1, g2, gLen, gInt, gAbs, gMax2, gMin2, gIx, seqOf, lsqOf, lstOf, Res.bind, ofO, gAdd_ok, gSub_ok, gEq_int, gNe_int, gLt_int, gLe_int, gGt_int, gGe_int, gEq_bl, gNe_bl, gEq_str, gNe_str, mIsi, mIsiT, tyD, kitL, kitTab, atI_c0, atI_c1, atI_c2, atI_c3, atI_c4, sForR1, int1, int2, mMeth, mMake, mFld, sFldM, gIs, gIsNot, isNon_t, sRaise, gList, newLO]) (by omega) (by simp) fun x _ => by
      have kx := K.v x.n
      simp [mDGet1, dctOf, keyD, runF, sSeq, sIf, sNext, sDrop, sRet, sRetN, sAsg, ofRes, ofB, bName, bNil, bCons, bTup, bLst, bSubL, mTest, mOp, mVar, mC, mChain, mAnd, mOr, mNot, mIf, mAndV, mOrV, mNotV, mNeg, mCons, mNil, mTup, mLst, newL, mCall, mFn, arity, g1, g2, gLen, gInt, gAbs, gMax2, gMin2, gIx, seqOf, lsqOf, lstOf, Res.bind, ofO, gAdd_ok, gSub_ok, gEq_int, gNe_int, gLt_int, gLe_int, gGt_int, gGe_int, gEq_bl, gNe_bl, gEq_str, gNe_str, mIsi, mIsiT, tyD, kitL, kitTab, atI_c0, atI_c1, atI_c2, atI_c3, atI_c4, sForR1, int1, int2, mMeth, mMake, mFld, sFldM, gIs, gIsNot, isNon_t, sRaise, gList, newLO, c.dm, kx]
  rw [rowsK_map] at e1
  have r1 := rowsK_len (kd := "station") (xs := w.st) (M := M)
  have r2 := rowsK_len (kd := "line") (xs := w.ls.map (·.n)) (M := M)
  have r3 := rowsK_len (kd := "plant") (xs := w.ps.map (·.n)) (M := M)
  rw [List.length_map] at r2 r3
  have a1 : gAdd false O (.lst ((rowsK "station" w.st M ++ rowsK "line" (w.ls.map (·.n)) M).map rowD)) (.lst ((rowsK "plant" (w.ps.map (·.n)) M).map rowD)) = some (.lst ((rowsW w M).map rowD), O) := by
    unfold rowsW
    rw [List.map_append (l₂ := rowsK "plant" (w.ps.map (·.n)) M)]
    simp [gAdd, lstOf, newLO, r1, r2, r3]
    omega
  simp only [S10, rowsL]
  generalize mLcL false _ [17] _ _ _ = c1 at e1 ⊢
  generalize (rowsW w M).map rowD = z3 at *
  generalize (rowsK "station" w.st M ++ rowsK "line" (w.ls.map (·.n)) M).map rowD = z2 at *
  generalize (rowsK "plant" (w.ps.map (·.n)) M).map rowD = z1 at *
  generalize (nmsW w).map D.str = z0 at *
  simp [runF, sSeq, sIf, sNext, sDrop, sRet, sRetN, sAsg, ofRes, ofB, bName, bNil, bCons, bTup, bLst, bSubL, mTest, mOp, mVar, mC, mChain, mAnd, mOr, mNot, mIf, mAndV, mOrV, mNotV, mNeg, mCons, mNil, mTup, mLst, newL, mCall, mFn, arity, g1, g2, gLen, gInt, gAbs, gMax2, gMin2, gIx, seqOf, lsqOf, lstOf, Res.bind, ofO, gAdd_ok, gSub_ok, gEq_int, gNe_int, gLt_int, gLe_int, gGt_int, gGe_int, gEq_bl, gNe_bl, gEq_str, gNe_str, mIsi, mIsiT, tyD, kitL, kitTab, atI_c0, atI_c1, atI_c2, atI_c3, atI_c4, sForR1, int1, int2, mMeth, mMake, mFld, sFldM, gIs, gIsNot, isNon_t, sRaise, gList, newLO, e1, a1]
theorem never_in {rs : List Row} (k : RowsOK rs) {x : Str} (h : x ∈ neverR rs) : x ∈ NAMES := by
  obtain ⟨r, hr, rfl⟩ := List.mem_map.mp h
  exact k.n r (List.mem_filter.mp hr).1
theorem sort_in {xs : List Str} (h : ∀ x ∈ xs, x ∈ NAMES) : ∀ x ∈ sortS xs, x ∈ NAMES := fun x hx => h x ((List.mergeSort_perm _ _).mem_iff.mp hx)
theorem sortL {O : Store} {xs : List Str} (hl : xs.length < 64) : gSorted false O (.lst (xs.map .str)) = some (.lst ((sortS xs).map .str), O) := by
  rw [sorted_any (xs := xs) rfl rfl hl]
  have := sortS_len xs
  simp [newLO]
  omega
theorem s11_ok (c : Scn w M kvs h s l p v d n O) (R : RowsOK (rowsW w M)) : ∃ O', S11 (Lx sc w h d hd n (rowsL w M) none none none none none none none) O = .next (Lx sc w h d hd n (rowsL w M) none none none none none none none) O' ∧ Fz O O' := by
  have rl := R.l
  have e1 := rows_ok c.tb R
  have f1 : Fz O (O ++ [.lst ((rowsW w M).map rowD)]) := fz_app
  have gg : (O ++ [.lst ((rowsW w M).map rowD)])[O.length]? = some (.lst ((rowsW w M).map rowD)) := by rw [List.getElem?_append_right (Nat.le_refl _)]; simp
  obtain ⟨O1, hO1⟩ : ∃ O1, O ++ [Ob.lst ((rowsW w M).map rowD)] = O1 := ⟨_, rfl⟩
  rw [hO1] at e1 f1 gg
  have c1 := c.fr f1.fr
  have q1 : gNe O1 (.hdl O.length) (.lst ((rowsW w M).map rowD)) = some (.bl false, O1) := by
    rw [gNe_of (by rw [eqD_hl gg, eqD_pd (okR R) (okR R) (.inl rfl), eqv_self (okR R)])]
    rfl
  have e2 := never_ok c1.tb R
  have e3 := lc_gen (enc := rowD) (src := mVar 8) (tt := mTest (mOp gIs (mOp gIx (mVar 19) (mC (.int 2))) (mC .non))) (el := mOp gIx (mVar 19) (mC (.int 1))) (i := 19) (L := Lx sc w h d hd n (rowsL w M) none none none none none none none) (O := O1) (O1 := O1) (xs := rowsW w M) (fun r => r.2.2.isNone) (fun r => .str r.2.1)
    (by simp [runF, sSeq, sIf, sNext, sDrop, sRet, sRetN, sAsg, ofRes, ofB, bName, bNil, bCons, bTup, bLst, bSubL, mTest, mOp, mVar, mC, mChain, mAnd, mOr, mNot, mIf, mAndV, mOrV, mNotV, mNeg, mCons, mNil, mTup, mLst, newL, mCall, mFn, arity, g1, g2, gLen, gInt, gAbs, gMax2, gMin2, gIx, seqOf, lsqOf, lstOf, Res.bind, ofO, gAdd_ok, gSub_ok, gEq_int, gNe_int, gLt_int, gLe_int, gGt_int, gGe_int, gEq_bl, gNe_bl, gEq_str, gNe_str, mIsi, mIsiT, tyD, kitL, kitTab, atI_c0, atI_c1, atI_c2, atI_c3, atI_c4, sForR1, int1, int2, mMeth, mMake, mFld, sFldM, gIs, gIsNot, isNon_t, sRaise, gList, newLO]) (by omega) (by simp) (fun r _ => by
      cases hv : r.2.2 <;> simp [isNon, optD, hv, runF, sSeq, sIf, sNext, sDrop, sRet, sRetN, sAsg, ofRes, ofB, bName, bNil, bCons, bTup, bLst, bSubL, mTest, mOp, mVar, mC, mChain, mAnd, mOr, mNot, mIf, mAndV, mOrV, mNotV, mNeg, mCons, mNil, mTup, mLst, newL, mCall, mFn, arity, g1, g2, gLen, gInt, gAbs, gMax2, gMin2, gIx, seqOf, lsqOf, lstOf, Res.bind, ofO, gAdd_ok, gSub_ok, gEq_int, gNe_int, gLt_int, gLe_int, gGt_int, gGe_int, gEq_bl, gNe_bl, gEq_str, gNe_str, mIsi, mIsiT, tyD, kitL, kitTab, atI_c0, atI_c1, atI_c2, atI_c3, atI_c4, sForR1, int1, int2, mMeth, mMake, mFld, sFldM, gIs, gIsNot, isNon_t, sRaise, gList, newLO]) fun r _ _ => by simp [runF, sSeq, sIf, sNext, sDrop, sRet, sRetN, sAsg, ofRes, ofB, bName, bNil, bCons, bTup, bLst, bSubL, mTest, mOp, mVar, mC, mChain, mAnd, mOr, mNot, mIf, mAndV, mOrV, mNotV, mNeg, mCons, mNil, mTup, mLst, newL, mCall, mFn, arity, g1, g2, gLen, gInt, gAbs, gMax2, gMin2, gIx, seqOf, lsqOf, lstOf, Res.bind, ofO, gAdd_ok, gSub_ok, gEq_int, gNe_int, gLt_int, gLe_int, gGt_int, gGe_int, gEq_bl, gNe_bl, gEq_str, gNe_str, mIsi, mIsiT, tyD, kitL, kitTab, atI_c0, atI_c1, atI_c2, atI_c3, atI_c4, sForR1, int1, int2, mMeth, mMake, mFld, sFldM, gIs, gIsNot, isNon_t, sRaise, gList, newLO]
  have em : ((rowsW w M).filter (fun r => r.2.2.isNone)).map (fun r => D.str r.2.1) = (neverR (rowsW w M)).map .str := by
    unfold neverR
    rw [List.map_map]
    rfl
  rw [em] at e3
  have nl := neverR_len (rs := rowsW w M)
  have e4 := sortL (O := O1) (xs := neverR (rowsW w M)) (by omega)
  have ok : okV (.lst ((sortS (neverR (rowsW w M))).map .str)) 29 = true := okStrs (sort_in fun x hx => never_in R hx)
  have q2 : gNe O1 (.lst ((sortS (neverR (rowsW w M))).map .str)) (.lst ((sortS (neverR (rowsW w M))).map .str)) = some (.bl false, O1) := gNe_self ok rfl
  refine ⟨O1, ?_, f1⟩
  simp only [S11, rowsL] at e3 ⊢
  generalize mLcL false _ [19] _ _ _ = cL at e3 ⊢
  generalize (sortS (neverR (rowsW w M))).map D.str = z1 at *
  generalize (neverR (rowsW w M)).map D.str = z2 at *
  generalize (rowsW w M).map rowD = z3 at *
  generalize (nmsW w).map D.str = z0 at *
  simp [runF, sSeq, sIf, sNext, sDrop, sRet, sRetN, sAsg, ofRes, ofB, bName, bNil, bCons, bTup, bLst, bSubL, mTest, mOp, mVar, mC, mChain, mAnd, mOr, mNot, mIf, mAndV, mOrV, mNotV, mNeg, mCons, mNil, mTup, mLst, newL, mCall, mFn, arity, g1, g2, gLen, gInt, gAbs, gMax2, gMin2, gIx, seqOf, lsqOf, lstOf, Res.bind, ofO, gAdd_ok, gSub_ok, gEq_int, gNe_int, gLt_int, gLe_int, gGt_int, gGe_int, gEq_bl, gNe_bl, gEq_str, gNe_str, mIsi, mIsiT, tyD, kitL, kitTab, atI_c0, atI_c1, atI_c2, atI_c3, atI_c4, sForR1, int1, int2, mMeth, mMake, mFld, sFldM, gIs, gIsNot, isNon_t, sRaise, gList, newLO, c.tb.eo, c1.tb.eo, lt_rows, lt_never, e1, q1, e2, e3, e4, q2]
abbrev thL (w : Wd) (M : Str → Option Int) : Option D := some (.lst ((thereR (rowsW w M)).map rowD))
theorem s12_ok (R : RowsOK (rowsW w M)) : S12 (Lx sc w h d hd n (rowsL w M) none none none none none none none) O = .next (Lx sc w h d hd n (rowsL w M) (thL w M) none none none none none none) O := by
  have rl := R.l
  have e3 := lc_gen (enc := rowD) (src := mVar 8) (tt := mTest (mOp gIsNot (mOp gIx (mVar 19) (mC (.int 2))) (mC .non))) (el := mVar 19) (i := 19) (L := Lx sc w h d hd n (rowsL w M) none none none none none none none) (O := O) (O1 := O) (xs := rowsW w M) (fun r => r.2.2.isSome) rowD
    (by simp [runF, sSeq, sIf, sNext, sDrop, sRet, sRetN, sAsg, ofRes, ofB, bName, bNil, bCons, bTup, bLst, bSubL, mTest, mOp, mVar, mC, mChain, mAnd, mOr, mNot, mIf, mAndV, mOrV, mNotV, mNeg, mCons, mNil, mTup, mLst, newL, mCall, mFn, arity, g1, g2, gLen, gInt, gAbs, gMax2, gMin2, gIx, seqOf, lsqOf, lstOf, Res.bind, ofO, gAdd_ok, gSub_ok, gEq_int, gNe_int, gLt_int, gLe_int, gGt_int, gGe_int, gEq_bl, gNe_bl, gEq_str, gNe_str, mIsi, mIsiT, tyD, kitL, kitTab, atI_c0, atI_c1, atI_c2, atI_c3, atI_c4, sForR1, int1, int2, mMeth, mMake, mFld, sFldM, gIs, gIsNot, isNon_t, sRaise, gList, newLO]) (by omega) (by simp) (fun r _ => by
      cases hv : r.2.2 <;> simp [isNon, optD, hv, runF, sSeq, sIf, sNext, sDrop, sRet, sRetN, sAsg, ofRes, ofB, bName, bNil, bCons, bTup, bLst, bSubL, mTest, mOp, mVar, mC, mChain, mAnd, mOr, mNot, mIf, mAndV, mOrV, mNotV, mNeg, mCons, mNil, mTup, mLst, newL, mCall, mFn, arity, g1, g2, gLen, gInt, gAbs, gMax2, gMin2, gIx, seqOf, lsqOf, lstOf, Res.bind, ofO, gAdd_ok, gSub_ok, gEq_int, gNe_int, gLt_int, gLe_int, gGt_int, gGe_int, gEq_bl, gNe_bl, gEq_str, gNe_str, mIsi, mIsiT, tyD, kitL, kitTab, atI_c0, atI_c1, atI_c2, atI_c3, atI_c4, sForR1, int1, int2, mMeth, mMake, mFld, sFldM, gIs, gIsNot, isNon_t, sRaise, gList, newLO]) fun r _ _ => by simp [runF, sSeq, sIf, sNext, sDrop, sRet, sRetN, sAsg, ofRes, ofB, bName, bNil, bCons, bTup, bLst, bSubL, mTest, mOp, mVar, mC, mChain, mAnd, mOr, mNot, mIf, mAndV, mOrV, mNotV, mNeg, mCons, mNil, mTup, mLst, newL, mCall, mFn, arity, g1, g2, gLen, gInt, gAbs, gMax2, gMin2, gIx, seqOf, lsqOf, lstOf, Res.bind, ofO, gAdd_ok, gSub_ok, gEq_int, gNe_int, gLt_int, gLe_int, gGt_int, gGe_int, gEq_bl, gNe_bl, gEq_str, gNe_str, mIsi, mIsiT, tyD, kitL, kitTab, atI_c0, atI_c1, atI_c2, atI_c3, atI_c4, sForR1, int1, int2, mMeth, mMake, mFld, sFldM, gIs, gIsNot, isNon_t, sRaise, gList, newLO]
  replace e3 : _ = Res.ok (D.lst ((thereR (rowsW w M)).map rowD)) O := e3
  simp only [S12, rowsL, thL] at e3 ⊢
  generalize mLcL false _ [19] _ _ _ = cL at e3 ⊢
  generalize (thereR (rowsW w M)).map rowD = z2 at *
  generalize (rowsW w M).map rowD = z3 at *
  generalize (nmsW w).map D.str = z0 at *
  simp [runF, sSeq, sIf, sNext, sDrop, sRet, sRetN, sAsg, ofRes, ofB, bName, bNil, bCons, bTup, bLst, bSubL, mTest, mOp, mVar, mC, mChain, mAnd, mOr, mNot, mIf, mAndV, mOrV, mNotV, mNeg, mCons, mNil, mTup, mLst, newL, mCall, mFn, arity, g1, g2, gLen, gInt, gAbs, gMax2, gMin2, gIx, seqOf, lsqOf, lstOf, Res.bind, ofO, gAdd_ok, gSub_ok, gEq_int, gNe_int, gLt_int, gLe_int, gGt_int, gGe_int, gEq_bl, gNe_bl, gEq_str, gNe_str, mIsi, mIsiT, tyD, kitL, kitTab, atI_c0, atI_c1, atI_c2, atI_c3, atI_c4, sForR1, int1, int2, mMeth, mMake, mFld, sFldM, gIs, gIsNot, isNon_t, sRaise, gList, newLO, e3]
theorem s13_ok {y8 y9 : Option D} : S13 (Lx sc w h d hd n y8 y9 none none none none none none) O = .next (Lx sc w h d hd n y8 y9 (some (.hdl O.length)) none none none none none) (O ++ [.lst []]) := by
  simp only [S13]
  generalize (nmsW w).map D.str = z0 at *
  simp [runF, sSeq, sIf, sNext, sDrop, sRet, sRetN, sAsg, ofRes, ofB, bName, bNil, bCons, bTup, bLst, bSubL, mTest, mOp, mVar, mC, mChain, mAnd, mOr, mNot, mIf, mAndV, mOrV, mNotV, mNeg, mCons, mNil, mTup, mLst, newL, mCall, mFn, arity, g1, g2, gLen, gInt, gAbs, gMax2, gMin2, gIx, seqOf, lsqOf, lstOf, Res.bind, ofO, gAdd_ok, gSub_ok, gEq_int, gNe_int, gLt_int, gLe_int, gGt_int, gGe_int, gEq_bl, gNe_bl, gEq_str, gNe_str, mIsi, mIsiT, tyD, kitL, kitTab, atI_c0, atI_c1, atI_c2, atI_c3, atI_c4, sForR1, int1, int2, mMeth, mMake, mFld, sFldM, gIs, gIsNot, isNon_t, sRaise, gList, newLO]
theorem vals_there : ∀ rs : List Row, ((thereR rs).map fun r => optD r.2.2) = (valsR rs).map .int
  | [] => rfl
  | (k, x, v) :: rs => by
    have ih := vals_there rs
    unfold thereR valsR at ih ⊢
    cases v with
    | none => exact ih
    | some i =>
      show D.int i :: _ = D.int i :: _
      rw [ih]
      all_goals rfl
/-- the moments, gathered one by one -/
theorem s14_ok {m : Nat} (R : RowsOK (rowsW w M)) (hm : O[m]? = some (.lst [])) : ∃ y11, S14 (Lx sc w h d hd n (rowsL w M) (thL w M) (some (.hdl m)) none none none none none) O = .next (Lx sc w h d hd n (rowsL w M) (thL w M) (some (.hdl m)) y11 none none none none) (O.set m (.lst ((sortU (valsR (rowsW w M))).map .int))) := by
  have rl := R.l
  have tl := thereR_len (rs := rowsW w M)
  have vl := valsR_len (rs := rowsW w M)
  have e3 := lc_gen (enc := rowD) (src := mVar 9) (tt := mYes) (el := mOp gIx (mVar 19) (mC (.int 2))) (i := 19) (L := Lx sc w h d hd n (rowsL w M) (thL w M) (some (.hdl m)) none none none none none) (O := O) (O1 := O) (xs := thereR (rowsW w M)) (fun _ => true) (fun r => optD r.2.2)
    (by simp [runF, sSeq, sIf, sNext, sDrop, sRet, sRetN, sAsg, ofRes, ofB, bName, bNil, bCons, bTup, bLst, bSubL, mTest, mOp, mVar, mC, mChain, mAnd, mOr, mNot, mIf, mAndV, mOrV, mNotV, mNeg, mCons, mNil, mTup, mLst, newL, mCall, mFn, arity, g1, g2, gLen, gInt, gAbs, gMax2, gMin2, gIx, seqOf, lsqOf, lstOf, Res.bind, ofO, gAdd_ok, gSub_ok, gEq_int, gNe_int, gLt_int, gLe_int, gGt_int, gGe_int, gEq_bl, gNe_bl, gEq_str, gNe_str, mIsi, mIsiT, tyD, kitL, kitTab, atI_c0, atI_c1, atI_c2, atI_c3, atI_c4, sForR1, int1, int2, mMeth, mMake, mFld, sFldM, gIs, gIsNot, isNon_t, sRaise, gList, newLO]) (by omega) (by simp) (fun r _ => rfl) fun r _ _ => by simp [runF, sSeq, sIf, sNext, sDrop, sRet, sRetN, sAsg, ofRes, ofB, bName, bNil, bCons, bTup, bLst, bSubL, mTest, mOp, mVar, mC, mChain, mAnd, mOr, mNot, mIf, mAndV, mOrV, mNotV, mNeg, mCons, mNil, mTup, mLst, newL, mCall, mFn, arity, g1, g2, gLen, gInt, gAbs, gMax2, gMin2, gIx, seqOf, lsqOf, lstOf, Res.bind, ofO, gAdd_ok, gSub_ok, gEq_int, gNe_int, gLt_int, gLe_int, gGt_int, gGe_int, gEq_bl, gNe_bl, gEq_str, gNe_str, mIsi, mIsiT, tyD, kitL, kitTab, atI_c0, atI_c1, atI_c2, atI_c3, atI_c4, sForR1, int1, int2, mMeth, mMake, mFld, sFldM, gIs, gIsNot, isNon_t, sRaise, gList, newLO]
  rw [List.filter_eq_self.mpr fun _ _ => rfl, vals_there] at e3
  have e4 : gSorted false O (.lst ((valsR (rowsW w M)).map .int)) = some (.lst ((sortI (valsR (rowsW w M))).map .int), O) := by
    rw [sorted_ints (xs := valsR (rowsW w M)) rfl rfl (by omega)]
    have := sortI_len (valsR (rowsW w M))
    simp [newLO]
    omega
  obtain ⟨L', O', e, y11, rfl, rfl⟩ := forL_keeps (m := mCall (g1 (gSorted false)) (mCons (mLcL false (mVar 9) [19] (bName 19) mYes (mOp gIx (mVar 19) (mC (.int 2)))) mNil)) (b := bName 11) (body := (sIf (mTest (mOp gNotIn (mVar 11) (mVar 10))) (sDrop (mApp (mVar 10) (mVar 11))) sNext)) (L := Lx sc w h d hd n (rowsL w M) (thL w M) (some (.hdl m)) none none none none none) (O := O) (O1 := O) (ds := (sortI (valsR (rowsW w M))).map .int)
    (I := fun i L O' => ∃ y11 : Option D, L = Lx sc w h d hd n (rowsL w M) (thL w M) (some (.hdl m)) y11 none none none none ∧ O' = O.set m (.lst ((distU ((sortI (valsR (rowsW w M))).take i)).map .int)))
    (by
      generalize mLcL false _ [19] _ _ _ = cL at e3 ⊢
      simp only [rowsL, thL] at e3 ⊢
      generalize (sortI (valsR (rowsW w M))).map D.int = z1 at *
      generalize (valsR (rowsW w M)).map D.int = z2 at *
      generalize (thereR (rowsW w M)).map rowD = z4 at *
      generalize (rowsW w M).map rowD = z3 at *
      simp [runF, sSeq, sIf, sNext, sDrop, sRet, sRetN, sAsg, ofRes, ofB, bName, bNil, bCons, bTup, bLst, bSubL, mTest, mOp, mVar, mC, mChain, mAnd, mOr, mNot, mIf, mAndV, mOrV, mNotV, mNeg, mCons, mNil, mTup, mLst, newL, mCall, mFn, arity, g1, g2, gLen, gInt, gAbs, gMax2, gMin2, gIx, seqOf, lsqOf, lstOf, Res.bind, ofO, gAdd_ok, gSub_ok, gEq_int, gNe_int, gLt_int, gLe_int, gGt_int, gGe_int, gEq_bl, gNe_bl, gEq_str, gNe_str, mIsi, mIsiT, tyD, kitL, kitTab, atI_c0, atI_c1, atI_c2, atI_c3, atI_c4, sForR1, int1, int2, mMeth, mMake, mFld, sFldM, gIs, gIsNot, isNon_t, sRaise, gList, newLO, e3, e4]) ⟨none, rfl, by
        rw [show ((distU ((sortI (valsR (rowsW w M))).take 0)).map D.int) = [] from rfl]
        exact (List.ext_getElem? fun i => by
          by_cases c : i = m
          · subst c
            rw [set_at hm, hm]
          · rw [List.getElem?_set_ne (fun z => c z.symm)])⟩ fun i x L O' hx ⟨y11, hL, hO⟩ => by
      subst hL hO
      rw [List.getElem?_map] at hx
      obtain ⟨v, hv, rfl⟩ := Option.map_eq_some_iff.mp hx
      have dl := distU_len ((sortI (valsR (rowsW w M))).take i)
      rw [List.length_take] at dl
      have sl := sortI_len (valsR (rowsW w M))
      have tk : distU ((sortI (valsR (rowsW w M))).take (i + 1)) = addU (distU ((sortI (valsR (rowsW w M))).take i)) v := by rw [take_get hv, distU_snoc]
      rw [tk]
      have ul : ((distU ((sortI (valsR (rowsW w M))).take i)).map D.int).length ≤ 1000000 := by rw [List.length_map]; omega
      refine ⟨Lx sc w h d hd n (rowsL w M) (thL w M) (some (.hdl m)) (some (.int v)) none none none none, _, ?_, some (.int v), rfl, rfl⟩
      generalize distU ((sortI (valsR (rowsW w M))).take i) = us at *
      have q1 : (O.set m (.lst (us.map .int)))[m]? = some (.lst (us.map .int)) := set_at hm
      have q2 := notin_ints (O := O.set m (.lst (us.map .int))) (d := .hdl m) (xs := us) (v := v) (by simp [seqOf, q1])
      have q3 : ∀ x : Ob, (O.set m (.lst (us.map .int))).set m x = O.set m x := fun x => List.set_set ..
      simp only [rowsL, thL]
      generalize (thereR (rowsW w M)).map rowD = z4 at *
      generalize (rowsW w M).map rowD = z3 at *
      generalize (nmsW w).map D.str = z0 at *
      by_cases c : v ∈ us
      · rw [show addU us v = us from if_pos c]
        generalize O.set m (.lst (us.map .int)) = O1 at *
        rw [decide_eq_true c] at q2
        simp [turnOf, runF, sSeq, sIf, sNext, sDrop, sRet, sRetN, sAsg, ofRes, ofB, bName, bNil, bCons, bTup, bLst, bSubL, mTest, mOp, mVar, mC, mChain, mAnd, mOr, mNot, mIf, mAndV, mOrV, mNotV, mNeg, mCons, mNil, mTup, mLst, newL, mCall, mFn, arity, g1, g2, gLen, gInt, gAbs, gMax2, gMin2, gIx, seqOf, lsqOf, lstOf, Res.bind, ofO, gAdd_ok, gSub_ok, gEq_int, gNe_int, gLt_int, gLe_int, gGt_int, gGe_int, gEq_bl, gNe_bl, gEq_str, gNe_str, mIsi, mIsiT, tyD, kitL, kitTab, atI_c0, atI_c1, atI_c2, atI_c3, atI_c4, sForR1, int1, int2, mMeth, mMake, mFld, sFldM, gIs, gIsNot, isNon_t, sRaise, gList, newLO, q2]
      · rw [show addU us v = us ++ [v] from if_neg c, List.map_append]
        have q4 := q3 (.lst (us.map D.int ++ [v].map .int))
        rw [← q4]
        generalize O.set m (.lst (us.map .int)) = O1 at *
        rw [decide_eq_false c] at q2
        have q5 := q3 (.lst (us.map D.int ++ [.int v]))
        generalize us.map D.int = zu at *
        simp [turnOf, mApp, runF, sSeq, sIf, sNext, sDrop, sRet, sRetN, sAsg, ofRes, ofB, bName, bNil, bCons, bTup, bLst, bSubL, mTest, mOp, mVar, mC, mChain, mAnd, mOr, mNot, mIf, mAndV, mOrV, mNotV, mNeg, mCons, mNil, mTup, mLst, newL, mCall, mFn, arity, g1, g2, gLen, gInt, gAbs, gMax2, gMin2, gIx, seqOf, lsqOf, lstOf, Res.bind, ofO, gAdd_ok, gSub_ok, gEq_int, gNe_int, gLt_int, gLe_int, gGt_int, gGe_int, gEq_bl, gNe_bl, gEq_str, gNe_str, mIsi, mIsiT, tyD, kitL, kitTab, atI_c0, atI_c1, atI_c2, atI_c3, atI_c4, sForR1, int1, int2, mMeth, mMake, mFld, sFldM, gIs, gIsNot, isNon_t, sRaise, gList, newLO, q1, q2, ul]
  refine ⟨y11, ?_⟩
  rw [List.length_map, List.take_length, dist_sort] at e
  exact e
end
end DK.k18
end
section
set_option Elab.async false
set_option linter.all false
set_option autoImplicit false
set_option maxRecDepth 100000
set_option maxHeartbeats 4000000
/-! K18H: moments, minutes, lines and minutes of names, in plain Lean. -/
namespace DK.k18
open PySem L2 DK DK.W
theorem okInts {xs : List Int} {m : Nat} : okV (.lst (xs.map .int)) (m + 1) = true := okV_lst fun d hd => by
  obtain ⟨i, _, rfl⟩ := List.mem_map.mp hd
  rfl
abbrev monI (w : Wd) (M : Str → Option Int) : List Int := sortU (valsR (rowsW w M))
theorem monI_len {w : Wd} {M : Str → Option Int} (R : RowsOK (rowsW w M)) : (monI w M).length ≤ 19 := by
  have rl := R.l
  have vl := valsR_len (rs := rowsW w M)
  have dl := distU_len (valsR (rowsW w M))
  have sl : (monI w M).length = (distU (valsR (rowsW w M))).length := (List.mergeSort_perm _ _).length_eq
  omega
section
variable {w : Wd} {M : Str → Option Int} {kvs : List (Key × D)} {h s l p v d n hd m : Nat} {O : Store} {sc : D} {y8 y9 y10 y11 y12 y13 y14 y15 : Option D}
theorem s15_ok (c : Scn w M kvs h s l p v d n O) (R : RowsOK (rowsW w M)) (hm : O[m]? = some (.lst ((monI w M).map .int))) : S15 (Lx sc w h d hd n (rowsL w M) (thL w M) (some (.hdl m)) y11 none none none none) O = .next (Lx sc w h d hd n (rowsL w M) (thL w M) (some (.hdl m)) y11 none none none none) O := by
  have ml := monI_len R
  have e1 := moments_ok c.tb R
  have e2 := last_ok c.tb R
  have q1 : gNe O (.lst ((monI w M).map .int)) (.hdl m) = some (.bl false, O) := by
    rw [gNe_of (by rw [eqD_hr hm, eqD_pd okInts okInts (.inl rfl), eqv_self okInts])]
    rfl
  have a1 : gAdd false O (.lst [.int 0]) (.hdl m) = some (.lst ((0 :: monI w M).map .int), O) := by
    simp [gAdd, lstOf, hm, newLO]
    omega
  have e3 := max_ok (O := O) (us := monI w M) (d := .lst ((0 :: monI w M).map .int)) rfl
  replace e3 : gMaxL O (.lst ((0 :: monI w M).map .int)) = some (.int (lastR (rowsW w M)), O) := e3
  simp only [S15, rowsL, thL]
  generalize (0 :: monI w M).map D.int = z1 at *
  generalize (monI w M).map D.int = z2 at *
  generalize lastR (rowsW w M) = la at *
  generalize (thereR (rowsW w M)).map rowD = z4 at *
  generalize (rowsW w M).map rowD = z3 at *
  generalize (nmsW w).map D.str = z0 at *
  simp [runF, sSeq, sIf, sNext, sDrop, sRet, sRetN, sAsg, ofRes, ofB, bName, bNil, bCons, bTup, bLst, bSubL, mTest, mOp, mVar, mC, mChain, mAnd, mOr, mNot, mIf, mAndV, mOrV, mNotV, mNeg, mCons, mNil, mTup, mLst, newL, mCall, mFn, arity, g1, g2, gLen, gInt, gAbs, gMax2, gMin2, gIx, seqOf, lsqOf, lstOf, Res.bind, ofO, gAdd_ok, gSub_ok, gEq_int, gNe_int, gLt_int, gLe_int, gGt_int, gGe_int, gEq_bl, gNe_bl, gEq_str, gNe_str, mIsi, mIsiT, tyD, kitL, kitTab, atI_c0, atI_c1, atI_c2, atI_c3, atI_c4, sForR1, int1, int2, mMeth, mMake, mFld, sFldM, gIs, gIsNot, isNon_t, sRaise, gList, newLO, c.tb.eo, lt_moments, lt_last, e1, e2, e3, q1, a1]
theorem there_in {rs : List Row} {r : Row} (h : r ∈ thereR rs) : r ∈ rs := (List.mem_filter.mp h).1
theorem there_nd {rs : List Row} (k : RowsOK rs) : ((thereR rs).map (·.2.1)).Nodup := k.nd.sublist (List.filter_sublist.map _)
theorem s16_ok (c : Scn w M kvs h s l p v d n O) (R : RowsOK (rowsW w M)) : ∃ O', S16 (Lx sc w h d hd n (rowsL w M) (thL w M) y10 y11 none none none none) O = .next (Lx sc w h d hd n (rowsL w M) (thL w M) y10 y11 none none none none) O' ∧ Fz O O' := by
  have rl := R.l
  have tl := thereR_len (rs := rowsW w M)
  have tnd := there_nd R
  have e1 := minutes_ok c.tb R
  have f1 : Fz O (O ++ [.dct (minsR (rowsW w M))]) := fz_app
  have gg : (O ++ [Ob.dct (minsR (rowsW w M))])[O.length]? = some (.dct (minsR (rowsW w M))) := by rw [List.getElem?_append_right (Nat.le_refl _)]; simp
  obtain ⟨O1, hO1⟩ : ∃ O1, O ++ [Ob.dct (minsR (rowsW w M))] = O1 := ⟨_, rfl⟩
  rw [hO1] at e1 f1 gg
  have c1 := c.fr f1.fr
  obtain ⟨xs, hxs⟩ : ∃ xs, (thereR (rowsW w M)).map (·.2.1) = xs := ⟨_, rfl⟩
  have xl : xs.length ≤ 19 := by rw [← hxs, List.length_map]; omega
  have xn : ∀ x ∈ xs, x ∈ NAMES := fun x hx => by
    rw [← hxs] at hx
    obtain ⟨r, hr, rfl⟩ := List.mem_map.mp hx
    exact R.n r (there_in hr)
  have e2 : gSorted false O1 (.hdl O.length) = some (.lst ((sortS xs).map .str), O1) := by
    have sl := sortS_len xs
    unfold gSorted
    simp only [dctOf, gg, inrs_dic, hxs]
    rw [if_pos (by omega)]
    simp [newLO]
    omega
  have e3 := lc_gen (enc := rowD) (src := mVar 9) (tt := mYes) (el := mOp gIx (mVar 19) (mC (.int 1))) (i := 19) (L := Lx sc w h d hd n (rowsL w M) (thL w M) y10 y11 none none none none) (O := O1) (O1 := O1) (xs := thereR (rowsW w M)) (fun _ => true) (fun r => .str r.2.1)
    (by simp [runF, sSeq, sIf, sNext, sDrop, sRet, sRetN, sAsg, ofRes, ofB, bName, bNil, bCons, bTup, bLst, bSubL, mTest, mOp, mVar, mC, mChain, mAnd, mOr, mNot, mIf, mAndV, mOrV, mNotV, mNeg, mCons, mNil, mTup, mLst, newL, mCall, mFn, arity, g1, g2, gLen, gInt, gAbs, gMax2, gMin2, gIx, seqOf, lsqOf, lstOf, Res.bind, ofO, gAdd_ok, gSub_ok, gEq_int, gNe_int, gLt_int, gLe_int, gGt_int, gGe_int, gEq_bl, gNe_bl, gEq_str, gNe_str, mIsi, mIsiT, tyD, kitL, kitTab, atI_c0, atI_c1, atI_c2, atI_c3, atI_c4, sForR1, int1, int2, mMeth, mMake, mFld, sFldM, gIs, gIsNot, isNon_t, sRaise, gList, newLO]) (by omega) (by simp) (fun r _ => rfl) fun r _ _ => by simp [runF, sSeq, sIf, sNext, sDrop, sRet, sRetN, sAsg, ofRes, ofB, bName, bNil, bCons, bTup, bLst, bSubL, mTest, mOp, mVar, mC, mChain, mAnd, mOr, mNot, mIf, mAndV, mOrV, mNotV, mNeg, mCons, mNil, mTup, mLst, newL, mCall, mFn, arity, g1, g2, gLen, gInt, gAbs, gMax2, gMin2, gIx, seqOf, lsqOf, lstOf, Res.bind, ofO, gAdd_ok, gSub_ok, gEq_int, gNe_int, gLt_int, gLe_int, gGt_int, gGe_int, gEq_bl, gNe_bl, gEq_str, gNe_str, mIsi, mIsiT, tyD, kitL, kitTab, atI_c0, atI_c1, atI_c2, atI_c3, atI_c4, sForR1, int1, int2, mMeth, mMake, mFld, sFldM, gIs, gIsNot, isNon_t, sRaise, gList, newLO]
  have em : (thereR (rowsW w M)).map (fun r => D.str r.2.1) = xs.map .str := by
    rw [← hxs, List.map_map]
    rfl
  rw [List.filter_eq_self.mpr fun _ _ => rfl, em] at e3
  have e4 := sortL (O := O1) (xs := xs) (by omega)
  have ok : okV (.lst ((sortS xs).map .str)) 29 = true := okStrs (sort_in xn)
  have q2 : gNe O1 (.lst ((sortS xs).map .str)) (.lst ((sortS xs).map .str)) = some (.bl false, O1) := gNe_self ok rfl
  obtain ⟨O2, ys, e5, ⟨f2, rfl⟩, _⟩ := lcL_keeps (I := fun j O' acc => Fz O1 O' ∧ acc = []) (src := mVar 9) (vs := [19]) (b := bName 19) (tt := (mTest (mOp gNe (mDGet (mMeth "Table" "minutes" (arity 1 f_table_minutes) [] (mVar 7) mNil) (mOp gIx (mVar 19) (mC (.int 1)))) (mOp gIx (mVar 19) (mC (.int 2)))))) (el := mVar 19) (L := Lx sc w h d hd n (rowsL w M) (thL w M) y10 y11 none none none none) (O := O1) (O1 := O1) (ds := (thereR (rowsW w M)).map rowD)
    (by simp [runF, sSeq, sIf, sNext, sDrop, sRet, sRetN, sAsg, ofRes, ofB, bName, bNil, bCons, bTup, bLst, bSubL, mTest, mOp, mVar, mC, mChain, mAnd, mOr, mNot, mIf, mAndV, mOrV, mNotV, mNeg, mCons, mNil, mTup, mLst, newL, mCall, mFn, arity, g1, g2, gLen, gInt, gAbs, gMax2, gMin2, gIx, seqOf, lsqOf, lstOf, Res.bind, ofO, gAdd_ok, gSub_ok, gEq_int, gNe_int, gLt_int, gLe_int, gGt_int, gGe_int, gEq_bl, gNe_bl, gEq_str, gNe_str, mIsi, mIsiT, tyD, kitL, kitTab, atI_c0, atI_c1, atI_c2, atI_c3, atI_c4, sForR1, int1, int2, mMeth, mMake, mFld, sFldM, gIs, gIsNot, isNon_t, sRaise, gList, newLO]) ⟨.refl _, rfl⟩ (by rw [List.length_map]; omega) fun j x O' acc hx _ ⟨f, hacc⟩ => by
      subst hacc
      rw [List.getElem?_map] at hx
      obtain ⟨r, hr, rfl⟩ := Option.map_eq_some_iff.mp hx
      have mr := List.mem_of_getElem? hr
      have c2 := c1.fr f.fr
      have e6 := minutes_ok c2.tb R
      have f3 : Fz O' (O' ++ [.dct (minsR (rowsW w M))]) := fz_app
      have g3 : (O' ++ [Ob.dct (minsR (rowsW w M))])[O'.length]? = some (.dct (minsR (rowsW w M))) := by rw [List.getElem?_append_right (Nat.le_refl _)]; simp
      obtain ⟨O3, hO3⟩ : ∃ O3, O' ++ [Ob.dct (minsR (rowsW w M))] = O3 := ⟨_, rfl⟩
      rw [hO3] at e6 f3 g3
      have vv : valD (minsR (rowsW w M)) (.inr r.2.1) = some (optD r.2.2) := val_nm (n := fun r : Row => r.2.1) (g := fun r => optD r.2.2) tnd mr
      have qn := gNe_opt (O := O3) r.2.2 r.2.2
      rw [decide_eq_false (fun z => z rfl)] at qn
      refine ⟨(Lx sc w h d hd n (rowsL w M) (thL w M) y10 y11 none none none none).set 19 (some (rowD r)), O3, [], by simp [bName, wipeL], .inr ⟨?_, rfl⟩, f.trans f3, rfl⟩
      simp only [rowsL, thL]
      generalize (thereR (rowsW w M)).map rowD = z4 at *
      generalize (rowsW w M).map rowD = z3 at *
      generalize (nmsW w).map D.str = z0 at *
      generalize minsR (rowsW w M) = zm at *
      simp [mDGet, dctOf, keyD, runF, sSeq, sIf, sNext, sDrop, sRet, sRetN, sAsg, ofRes, ofB, bName, bNil, bCons, bTup, bLst, bSubL, mTest, mOp, mVar, mC, mChain, mAnd, mOr, mNot, mIf, mAndV, mOrV, mNotV, mNeg, mCons, mNil, mTup, mLst, newL, mCall, mFn, arity, g1, g2, gLen, gInt, gAbs, gMax2, gMin2, gIx, seqOf, lsqOf, lstOf, Res.bind, ofO, gAdd_ok, gSub_ok, gEq_int, gNe_int, gLt_int, gLe_int, gGt_int, gGe_int, gEq_bl, gNe_bl, gEq_str, gNe_str, mIsi, mIsiT, tyD, kitL, kitTab, atI_c0, atI_c1, atI_c2, atI_c3, atI_c4, sForR1, int1, int2, mMeth, mMake, mFld, sFldM, gIs, gIsNot, isNon_t, sRaise, gList, newLO, c2.tb.eo, lt_minutes, e6, g3, vv, qn]
  refine ⟨O2, ?_, f1.trans f2⟩
  simp only [S16, rowsL, thL] at e3 e5 ⊢
  generalize mLcL false _ [19] _ mYes _ = cL at e3 ⊢
  generalize mLcL false _ [19] _ _ (mVar 19) = cM at e5 ⊢
  generalize (sortS xs).map D.str = z1 at *
  generalize xs.map D.str = z2 at *
  generalize (thereR (rowsW w M)).map rowD = z4 at *
  generalize (rowsW w M).map rowD = z3 at *
  generalize (nmsW w).map D.str = z0 at *
  simp [runF, sSeq, sIf, sNext, sDrop, sRet, sRetN, sAsg, ofRes, ofB, bName, bNil, bCons, bTup, bLst, bSubL, mTest, mOp, mVar, mC, mChain, mAnd, mOr, mNot, mIf, mAndV, mOrV, mNotV, mNeg, mCons, mNil, mTup, mLst, newL, mCall, mFn, arity, g1, g2, gLen, gInt, gAbs, gMax2, gMin2, gIx, seqOf, lsqOf, lstOf, Res.bind, ofO, gAdd_ok, gSub_ok, gEq_int, gNe_int, gLt_int, gLe_int, gGt_int, gGe_int, gEq_bl, gNe_bl, gEq_str, gNe_str, mIsi, mIsiT, tyD, kitL, kitTab, atI_c0, atI_c1, atI_c2, atI_c3, atI_c4, sForR1, int1, int2, mMeth, mMake, mFld, sFldM, gIs, gIsNot, isNon_t, sRaise, gList, newLO, c.tb.eo, lt_minutes, e1, e2, e3, e4, e5, q2]
theorem s17_ok (c : Scn w M kvs h s l p v d n O) (R : RowsOK (rowsW w M)) : S17 (Lx sc w h d hd n (rowsL w M) y9 y10 y11 none none none none) O = .next (Lx sc w h d hd n (rowsL w M) y9 y10 y11 none none none none) O := by
  have rl := R.l
  have e1 := lines_told c.tb R
  have e3 := lc_gen (enc := rowD) (src := mVar 8) (tt := mYes) (el := (mOp (gAdd false) (mOp (gAdd false) (mOp (gAdd false) (mOp (gAdd false) (mOp gIx (mVar 19) (mC (.int 0))) (mC (.str " "))) (mOp gIx (mVar 19) (mC (.int 1)))) (mC (.str " "))) (mIf (mTest (mOp gIs (mOp gIx (mVar 19) (mC (.int 2))) (mC .non))) (mC (.str "never")) (mCall (g1 gStr) (mCons (mOp gIx (mVar 19) (mC (.int 2))) mNil))))) (i := 19) (L := Lx sc w h d hd n (rowsL w M) y9 y10 y11 none none none none) (O := O) (O1 := O) (xs := rowsW w M) (fun _ => true) (fun r => .str (lineT r))
    (by simp [runF, sSeq, sIf, sNext, sDrop, sRet, sRetN, sAsg, ofRes, ofB, bName, bNil, bCons, bTup, bLst, bSubL, mTest, mOp, mVar, mC, mChain, mAnd, mOr, mNot, mIf, mAndV, mOrV, mNotV, mNeg, mCons, mNil, mTup, mLst, newL, mCall, mFn, arity, g1, g2, gLen, gInt, gAbs, gMax2, gMin2, gIx, seqOf, lsqOf, lstOf, Res.bind, ofO, gAdd_ok, gSub_ok, gEq_int, gNe_int, gLt_int, gLe_int, gGt_int, gGe_int, gEq_bl, gNe_bl, gEq_str, gNe_str, mIsi, mIsiT, tyD, kitL, kitTab, atI_c0, atI_c1, atI_c2, atI_c3, atI_c4, sForR1, int1, int2, mMeth, mMake, mFld, sFldM, gIs, gIsNot, isNon_t, sRaise, gList, newLO]) (by omega) (by simp) (fun r _ => rfl) fun r hr _ => by
      obtain ⟨a1, a2, a3, a4⟩ := line_adds R hr O
      have bb := R.b r hr
      simp only [rowsL]
      generalize (rowsW w M).map rowD = z3 at *
      generalize (nmsW w).map D.str = z0 at *
      generalize lineT r = lt at *
      obtain ⟨kd, x, vv⟩ := r
      cases vv with
      | none =>
        simp only [txV] at a4
        simp [isNon, optD, runF, sSeq, sIf, sNext, sDrop, sRet, sRetN, sAsg, ofRes, ofB, bName, bNil, bCons, bTup, bLst, bSubL, mTest, mOp, mVar, mC, mChain, mAnd, mOr, mNot, mIf, mAndV, mOrV, mNotV, mNeg, mCons, mNil, mTup, mLst, newL, mCall, mFn, arity, g1, g2, gLen, gInt, gAbs, gMax2, gMin2, gIx, seqOf, lsqOf, lstOf, Res.bind, ofO, gAdd_ok, gSub_ok, gEq_int, gNe_int, gLt_int, gLe_int, gGt_int, gGe_int, gEq_bl, gNe_bl, gEq_str, gNe_str, mIsi, mIsiT, tyD, kitL, kitTab, atI_c0, atI_c1, atI_c2, atI_c3, atI_c4, sForR1, int1, int2, mMeth, mMake, mFld, sFldM, gIs, gIsNot, isNon_t, sRaise, gList, newLO, a1, a2, a3, a4]
      | some i =>
        have es := str_i (O := O) (bb i rfl).1 (bb i rfl).2
        simp only [txV] at a4
        simp [isNon, optD, runF, sSeq, sIf, sNext, sDrop, sRet, sRetN, sAsg, ofRes, ofB, bName, bNil, bCons, bTup, bLst, bSubL, mTest, mOp, mVar, mC, mChain, mAnd, mOr, mNot, mIf, mAndV, mOrV, mNotV, mNeg, mCons, mNil, mTup, mLst, newL, mCall, mFn, arity, g1, g2, gLen, gInt, gAbs, gMax2, gMin2, gIx, seqOf, lsqOf, lstOf, Res.bind, ofO, gAdd_ok, gSub_ok, gEq_int, gNe_int, gLt_int, gLe_int, gGt_int, gGe_int, gEq_bl, gNe_bl, gEq_str, gNe_str, mIsi, mIsiT, tyD, kitL, kitTab, atI_c0, atI_c1, atI_c2, atI_c3, atI_c4, sForR1, int1, int2, mMeth, mMake, mFld, sFldM, gIs, gIsNot, isNon_t, sRaise, gList, newLO, a1, a2, a3, a4, es]
  have em : (rowsW w M).map (fun r => D.str (lineT r)) = ((rowsW w M).map lineT).map .str := by
    rw [List.map_map]
    rfl
  rw [List.filter_eq_self.mpr fun _ _ => rfl, em] at e3
  have ok : okV (.lst (((rowsW w M).map lineT).map .str)) 29 = true := okV_strs fun x hx => by
    obtain ⟨r, hr, rfl⟩ := List.mem_map.mp hx
    exact lineT_ok R hr
  have q2 : gNe O (.lst (((rowsW w M).map lineT).map .str)) (.lst (((rowsW w M).map lineT).map .str)) = some (.bl false, O) := gNe_self ok rfl
  simp only [S17, rowsL] at e3 ⊢
  generalize mLcL false _ [19] _ _ _ = cL at e3 ⊢
  generalize ((rowsW w M).map lineT).map D.str = z1 at *
  generalize (rowsW w M).map rowD = z3 at *
  generalize (nmsW w).map D.str = z0 at *
  simp [runF, sSeq, sIf, sNext, sDrop, sRet, sRetN, sAsg, ofRes, ofB, bName, bNil, bCons, bTup, bLst, bSubL, mTest, mOp, mVar, mC, mChain, mAnd, mOr, mNot, mIf, mAndV, mOrV, mNotV, mNeg, mCons, mNil, mTup, mLst, newL, mCall, mFn, arity, g1, g2, gLen, gInt, gAbs, gMax2, gMin2, gIx, seqOf, lsqOf, lstOf, Res.bind, ofO, gAdd_ok, gSub_ok, gEq_int, gNe_int, gLt_int, gLe_int, gGt_int, gGe_int, gEq_bl, gNe_bl, gEq_str, gNe_str, mIsi, mIsiT, tyD, kitL, kitTab, atI_c0, atI_c1, atI_c2, atI_c3, atI_c4, sForR1, int1, int2, mMeth, mMake, mFld, sFldM, gIs, gIsNot, isNon_t, sRaise, gList, newLO, c.tb.eo, lt_lines, e1, e3, q2]
theorem s18_ok (c : Scn w M kvs h s l p v d n O) (R : RowsOK (rowsW w M)) (hm : O[m]? = some (.lst ((monI w M).map .int))) : ∃ y12 O', S18 (Lx sc w h d hd n (rowsL w M) y9 (some (.hdl m)) y11 none none none none) O = .next (Lx sc w h d hd n (rowsL w M) y9 (some (.hdl m)) y11 y12 none none none) O' ∧ Fz O O' := by
  have ml := monI_len R
  have pw : gPow O (.int 10) (.int 12) = some (.int 1000000000000, O) := rfl
  have a1 : gAdd false O (.lst [.int 0, .int 4, .int 5, .int 1000000000000]) (.hdl m) = some (.lst ((0 :: 4 :: 5 :: 1000000000000 :: monI w M).map .int), O) := by
    simp [gAdd, lstOf, hm, newLO]
    omega
  obtain ⟨L', O', e, y12, rfl, f⟩ := forL_keeps (m := (mOp (gAdd false) (mLst false (mCons (mC (.int 0)) (mCons (mC (.int 4)) (mCons (mC (.int 5)) (mCons (mOp gPow (mC (.int 10)) (mC (.int 12))) mNil))))) (mVar 10))) (b := bName 12) (body := (sIf (mNot (mTest (mFn (arity 3 f_law_by_right) [] (mCons (mVar 7) (mCons (mVar 8) (mCons (mVar 12) mNil)))))) (sRet (mC (.bl false))) sNext)) (L := Lx sc w h d hd n (rowsL w M) y9 (some (.hdl m)) y11 none none none none) (O := O) (O1 := O) (ds := (0 :: 4 :: 5 :: 1000000000000 :: monI w M).map .int)
    (I := fun i L O' => ∃ y12 : Option D, L = Lx sc w h d hd n (rowsL w M) y9 (some (.hdl m)) y11 y12 none none none ∧ Fz O O')
    (by
      generalize (0 :: 4 :: 5 :: 1000000000000 :: monI w M).map D.int = z1 at *
      simp [runF, sSeq, sIf, sNext, sDrop, sRet, sRetN, sAsg, ofRes, ofB, bName, bNil, bCons, bTup, bLst, bSubL, mTest, mOp, mVar, mC, mChain, mAnd, mOr, mNot, mIf, mAndV, mOrV, mNotV, mNeg, mCons, mNil, mTup, mLst, newL, mCall, mFn, arity, g1, g2, gLen, gInt, gAbs, gMax2, gMin2, gIx, seqOf, lsqOf, lstOf, Res.bind, ofO, gAdd_ok, gSub_ok, gEq_int, gNe_int, gLt_int, gLe_int, gGt_int, gGe_int, gEq_bl, gNe_bl, gEq_str, gNe_str, mIsi, mIsiT, tyD, kitL, kitTab, atI_c0, atI_c1, atI_c2, atI_c3, atI_c4, sForR1, int1, int2, mMeth, mMake, mFld, sFldM, gIs, gIsNot, isNon_t, sRaise, gList, newLO, pw, a1]) ⟨none, rfl, .refl _⟩ fun i x L O' hx ⟨y12, hL, f⟩ => by
      subst hL
      rw [List.getElem?_map] at hx
      obtain ⟨t, ht, rfl⟩ := Option.map_eq_some_iff.mp hx
      have c1 := c.fr f.fr
      obtain ⟨O2, e, f2⟩ := by_right_ok (t := t) c1.tb R
      refine ⟨Lx sc w h d hd n (rowsL w M) y9 (some (.hdl m)) y11 (some (.int t)) none none none, O2, ?_, some (.int t), rfl, f.trans f2⟩
      simp only [rowsL]
      generalize (rowsW w M).map rowD = z3 at *
      generalize (nmsW w).map D.str = z0 at *
      simp [turnOf, runF, sSeq, sIf, sNext, sDrop, sRet, sRetN, sAsg, ofRes, ofB, bName, bNil, bCons, bTup, bLst, bSubL, mTest, mOp, mVar, mC, mChain, mAnd, mOr, mNot, mIf, mAndV, mOrV, mNotV, mNeg, mCons, mNil, mTup, mLst, newL, mCall, mFn, arity, g1, g2, gLen, gInt, gAbs, gMax2, gMin2, gIx, seqOf, lsqOf, lstOf, Res.bind, ofO, gAdd_ok, gSub_ok, gEq_int, gNe_int, gLt_int, gLe_int, gGt_int, gGe_int, gEq_bl, gNe_bl, gEq_str, gNe_str, mIsi, mIsiT, tyD, kitL, kitTab, atI_c0, atI_c1, atI_c2, atI_c3, atI_c4, sForR1, int1, int2, mMeth, mMake, mFld, sFldM, gIs, gIsNot, isNon_t, sRaise, gList, newLO, e]
  exact ⟨y12, O', e, f⟩
theorem zed_no : ("zed" : Str) ∉ NAMES := by decide
theorem s19_ok (c : Scn w M kvs h s l p v d n O) (R : RowsOK (rowsW w M)) : S19 (Lx sc w h d hd n (rowsL w M) y9 y10 y11 y12 none none none) O = .next (Lx sc w h d hd n (rowsL w M) y9 y10 y11 y12 none none none) O := by
  have rl := R.l
  have e3 := lc_gen (enc := rowD) (src := mVar 8) (tt := (mTest (mOp gNe (mFn (arity 2 f_law_minute) [] (mCons (mVar 7) (mCons (mOp gIx (mVar 19) (mC (.int 1))) mNil))) (mOp gIx (mVar 19) (mC (.int 2)))))) (el := mVar 19) (i := 19) (L := Lx sc w h d hd n (rowsL w M) y9 y10 y11 y12 none none none) (O := O) (O1 := O) (xs := rowsW w M) (fun _ => false) rowD
    (by simp [runF, sSeq, sIf, sNext, sDrop, sRet, sRetN, sAsg, ofRes, ofB, bName, bNil, bCons, bTup, bLst, bSubL, mTest, mOp, mVar, mC, mChain, mAnd, mOr, mNot, mIf, mAndV, mOrV, mNotV, mNeg, mCons, mNil, mTup, mLst, newL, mCall, mFn, arity, g1, g2, gLen, gInt, gAbs, gMax2, gMin2, gIx, seqOf, lsqOf, lstOf, Res.bind, ofO, gAdd_ok, gSub_ok, gEq_int, gNe_int, gLt_int, gLe_int, gGt_int, gGe_int, gEq_bl, gNe_bl, gEq_str, gNe_str, mIsi, mIsiT, tyD, kitL, kitTab, atI_c0, atI_c1, atI_c2, atI_c3, atI_c4, sForR1, int1, int2, mMeth, mMake, mFld, sFldM, gIs, gIsNot, isNon_t, sRaise, gList, newLO]) (by omega) (by simp) (fun r hr => by
      have e := minute_ok c.tb R hr
      have qn := gNe_opt (O := O) r.2.2 r.2.2
      rw [decide_eq_false (fun z => z rfl)] at qn
      simp only [rowsL]
      generalize (rowsW w M).map rowD = z3 at *
      generalize (nmsW w).map D.str = z0 at *
      simp [runF, sSeq, sIf, sNext, sDrop, sRet, sRetN, sAsg, ofRes, ofB, bName, bNil, bCons, bTup, bLst, bSubL, mTest, mOp, mVar, mC, mChain, mAnd, mOr, mNot, mIf, mAndV, mOrV, mNotV, mNeg, mCons, mNil, mTup, mLst, newL, mCall, mFn, arity, g1, g2, gLen, gInt, gAbs, gMax2, gMin2, gIx, seqOf, lsqOf, lstOf, Res.bind, ofO, gAdd_ok, gSub_ok, gEq_int, gNe_int, gLt_int, gLe_int, gGt_int, gGe_int, gEq_bl, gNe_bl, gEq_str, gNe_str, mIsi, mIsiT, tyD, kitL, kitTab, atI_c0, atI_c1, atI_c2, atI_c3, atI_c4, sForR1, int1, int2, mMeth, mMake, mFld, sFldM, gIs, gIsNot, isNon_t, sRaise, gList, newLO, e, qn]) fun r _ hf => nomatch hf
  rw [List.filter_eq_nil_iff.mpr fun _ _ => Bool.false_ne_true] at e3
  have nz : ("zed" : Str) ∉ (rowsW w M).map (·.2.1) := fun z => by
    obtain ⟨r, hr, e⟩ := List.mem_map.mp z
    exact zed_no (e ▸ R.n r hr)
  have e4 := minute_no c.tb nz
  simp only [S19, rowsL] at e3 ⊢
  generalize mLcL false _ [19] _ _ _ = cL at e3 ⊢
  generalize (rowsW w M).map rowD = z3 at *
  generalize (nmsW w).map D.str = z0 at *
  simp [runF, sSeq, sIf, sNext, sDrop, sRet, sRetN, sAsg, ofRes, ofB, bName, bNil, bCons, bTup, bLst, bSubL, mTest, mOp, mVar, mC, mChain, mAnd, mOr, mNot, mIf, mAndV, mOrV, mNotV, mNeg, mCons, mNil, mTup, mLst, newL, mCall, mFn, arity, g1, g2, gLen, gInt, gAbs, gMax2, gMin2, gIx, seqOf, lsqOf, lstOf, Res.bind, ofO, gAdd_ok, gSub_ok, gEq_int, gNe_int, gLt_int, gLe_int, gGt_int, gGe_int, gEq_bl, gNe_bl, gEq_str, gNe_str, mIsi, mIsiT, tyD, kitL, kitTab, atI_c0, atI_c1, atI_c2, atI_c3, atI_c4, sForR1, int1, int2, mMeth, mMake, mFld, sFldM, gIs, gIsNot, isNon_t, sRaise, gList, newLO, e3, e4]
end
end DK.k18
end
section
set_option Elab.async false
set_option linter.all false
set_option autoImplicit false
set_option maxRecDepth 100000
set_option maxHeartbeats 4000000
/-! K18I: other tables, and refused ones, in plain Lean. -/
namespace DK.k18
open PySem L2 DK DK.W
def S20 : SM := (sAsg (mFn (arity 2 f_law_minutes) [] (mCons (mVar 1) (mCons (mVar 4) mNil))) (bName 13))
def S21 : SM := (sIf (mTest (mOp gNe (mCall (g1 gRepr) (mCons (mEqO "Table" (arity 2 f_table_eq) (mVar 7) (mMake "Table" (arity 3 f_table_init) [] (mCons (mVar 3) (mCons (mVar 13) mNil)))) mNil)) (mCall (g1 gRepr) (mCons (mOp gEq (mCall (g1 gLen) (mCons (mLcL false (mVar 4) [18] (bName 18) (mTest (mOp gNe (mDGet1 (mVar 5) (mVar 18)) (mDGet1 (mVar 13) (mVar 18)))) (mVar 18)) mNil)) (mC (.int 0))) mNil)))) (sRet (mC (.bl false))) sNext)
def S22 : SM := (sDrop (mApp (mMeth "Table" "rows" (arity 1 f_table_rows) [] (mVar 7) mNil) (mC (.int 5))))
def S23 : SM := (sDrop (mApp (mOp gIx (mMeth "Table" "by" (arity 2 f_table_by) [] (mVar 7) (mCons (mC (.int 9)) mNil)) (mC (.int 0))) (mC (.str "zed"))))
def S24 : SM := (sAsg (mCall (g1 gDictD) (mCons (mVar 5) mNil)) (bName 14))
def S25 : SM := (sAsg (mFn (arity 2 f_law_take) [] (mCons (mVar 1) (mCons (mC (.int 5)) mNil))) (bName 15))
def S26 : SM := (sDPutM (mVar 14) (mOp gIx (mLst false (mCons (mC (.str "zed")) (mCons (mC (.str "ash")) (mCons (mC (.str "ash")) (mCons (mC (.str "ash")) (mCons (mC (.str "ash")) mNil)))))) (mVar 15)) (mOp gIx (mLst false (mCons (mC (.int 5)) (mCons (mOp gSub (mC (.int 0)) (mC (.int 1))) (mCons (mC (.bl true)) (mCons (mC (.str "5")) (mCons (mOp (gAdd false) (mOp gPow (mC (.int 10)) (mC (.int 12))) (mC (.int 1))) mNil)))))) (mVar 15)))
def S27 : SM := (sRet (mAndV (mOp gIsB (mFn (arity 2 f_law_made) [] (mCons (mVar 3) (mCons (mVar 14) mNil))) (mC (.bl true))) (mAndV (mOp gEq (mMeth "Table" "rows" (arity 1 f_table_rows) [] (mVar 7) mNil) (mVar 8)) (mNotV (mEqO "Table" (arity 2 f_table_eq) (mVar 7) (mC (.int 5)))))))
theorem same_count {w : Wd} {M M' : Str → Option Int} : decide ((((nmsW w).filter fun x => decide (M x ≠ M' x)).length : Int) = 0) = sameM w M M' := by
  unfold sameM
  by_cases c : ∀ x ∈ nmsW w, M x = M' x
  · have e1 : (nmsW w).filter (fun x => decide (M x ≠ M' x)) = [] := List.filter_eq_nil_iff.mpr fun x hx => by
      rw [decide_eq_false (fun z => z (c x hx))]
      exact Bool.false_ne_true
    rw [e1]
    have e2 : ((nmsW w).all fun x => decide (M x = M' x)) = true := List.all_eq_true.mpr fun x hx => decide_eq_true (c x hx)
    rw [e2]
    rfl
  · have e2 : ((nmsW w).all fun x => decide (M x = M' x)) = false := by
      rw [← Bool.not_eq_true, List.all_eq_true]
      intro z
      exact c fun x hx => of_decide_eq_true (z x hx)
    rw [e2]
    refine decide_eq_false fun z => c fun x hx => ?_
    have e1 : (nmsW w).filter (fun x => decide (M x ≠ M' x)) = [] := List.length_eq_zero_iff.mp (by omega)
    have := List.filter_eq_nil_iff.mp e1 x hx
    by_cases q : M x = M' x
    · exact q
    · exact absurd (decide_eq_true q) this
section
variable {w : Wd} {M : Str → Option Int} {kvs : List (Key × D)} {h s l p v d n hd m b : Nat} {O : Store} {sc : D} {y8 y9 y10 y11 y12 y13 y14 y15 : Option D}
theorem s20_ok (k : WOK w) (t : Take b 0 O) (hb : b ≤ 2 ^ 19) : ∃ kvs2 M2 O', S20 (Lx sc w h d hd n y8 y9 y10 y11 y12 none none none) O = .next (Lx sc w h d hd n y8 y9 y10 y11 y12 (some (.hdl O.length)) none none) O' ∧ Mins kvs2 M2 (nmsW w) ∧ O'[O.length]? = some (.dct kvs2) ∧ Take (b + 200) 0 O' ∧ Fr O O' := by
  have nl := nmsW_len k
  obtain ⟨kvs2, M2, O', e, K2, _, hd2, t2, f, _⟩ := mn_ok (ns := nmsW w) t hb (by omega)
  refine ⟨kvs2, M2, O', ?_, K2, hd2, t2, f⟩
  simp only [S20]
  simp [runF, sSeq, sIf, sNext, sDrop, sRet, sRetN, sAsg, ofRes, ofB, bName, bNil, bCons, bTup, bLst, bSubL, mTest, mOp, mVar, mC, mChain, mAnd, mOr, mNot, mIf, mAndV, mOrV, mNotV, mNeg, mCons, mNil, mTup, mLst, newL, mCall, mFn, arity, g1, g2, gLen, gInt, gAbs, gMax2, gMin2, gIx, seqOf, lsqOf, lstOf, Res.bind, ofO, gAdd_ok, gSub_ok, gEq_int, gNe_int, gLt_int, gLe_int, gGt_int, gGe_int, gEq_bl, gNe_bl, gEq_str, gNe_str, mIsi, mIsiT, tyD, kitL, kitTab, atI_c0, atI_c1, atI_c2, atI_c3, atI_c4, sForR1, int1, int2, mMeth, mMake, mFld, sFldM, gIs, gIsNot, isNon_t, sRaise, gList, newLO, e]
theorem s21_ok {d2 : Nat} {kvs2 : List (Key × D)} {M2 : Str → Option Int} (k : WOK w) (c : Scn w M kvs h s l p v d n O) (R : RowsOK (rowsW w M)) (K : Mins kvs M (nmsW w)) (K2 : Mins kvs2 M2 (nmsW w)) (hd2 : O[d2]? = some (.dct kvs2)) (lt : h < d2 ∧ s < d2 ∧ l < d2 ∧ p < d2 ∧ v < d2) :
    ∃ O', S21 (Lx sc w h d hd n y8 y9 y10 y11 y12 (some (.hdl d2)) none none) O = .next (Lx sc w h d hd n y8 y9 y10 y11 y12 (some (.hdl d2)) none none) O' ∧ Fz O O' := by
  have nl := nmsW_len k
  have R2 : RowsOK (rowsW w M2) := rows_okW k K2.b
  have e1 := init_ok c.la k hd2 K2 lt
  have f1 : Fz O (O ++ [tabO O.length, .lst ((rowsW w M2).map rowD), .dct (dicS (fun r : Row => r.2.1) minD (rowsW w M2))]) := fz_app
  have t2 : TabAt O.length (rowsW w M2) (O ++ [tabO O.length, .lst ((rowsW w M2).map rowD), .dct (dicS (fun r : Row => r.2.1) minD (rowsW w M2))]) := ⟨by rw [List.getElem?_append_right (Nat.le_refl _)]; simp, by rw [List.getElem?_append_right (by omega)]; simp, by rw [List.getElem?_append_right (by omega)]; simp⟩
  obtain ⟨O1, hO1⟩ : ∃ O1, O ++ [tabO O.length, .lst ((rowsW w M2).map rowD), .dct (dicS (fun r : Row => r.2.1) minD (rowsW w M2))] = O1 := ⟨_, rfl⟩
  rw [hO1] at e1 f1 t2
  have c1 := c.fr f1.fr
  obtain ⟨O2, e2, f2⟩ := eq_ok c1.tb t2 R R2
  have c2 := c1.fr f2.fr
  have hd3 := (f1.trans f2).at hd2
  have e3 := lc_gen (enc := D.str) (src := mVar 4) (tt := (mTest (mOp gNe (mDGet1 (mVar 5) (mVar 18)) (mDGet1 (mVar 13) (mVar 18))))) (el := mVar 18) (i := 18) (L := Lx sc w h d hd n y8 y9 y10 y11 y12 (some (.hdl d2)) none none) (O := O2) (O1 := O2) (xs := nmsW w) (fun x => decide (M x ≠ M2 x)) D.str
    (by simp [runF, sSeq, sIf, sNext, sDrop, sRet, sRetN, sAsg, ofRes, ofB, bName, bNil, bCons, bTup, bLst, bSubL, mTest, mOp, mVar, mC, mChain, mAnd, mOr, mNot, mIf, mAndV, mOrV, mNotV, mNeg, mCons, mNil, mTup, mLst, newL, mCall, mFn, arity, g1, g2, gLen, gInt, gAbs, gMax2, gMin2, gIx, seqOf, lsqOf, lstOf, Res.bind, ofO, gAdd_ok, gSub_ok, gEq_int, gNe_int, gLt_int, gLe_int, gGt_int, gGe_int, gEq_bl, gNe_bl, gEq_str, gNe_str, mIsi, mIsiT, tyD, kitL, kitTab, atI_c0, atI_c1, atI_c2, atI_c3, atI_c4, sForR1, int1, int2, mMeth, mMake, mFld, sFldM, gIs, gIsNot, isNon_t, sRaise, gList, newLO]) (by omega) (by simp) (fun x _ => by
      have k1 := K.v x
      have k2 := K2.v x
      have qn := gNe_opt (O := O2) (M x) (M2 x)
      generalize (nmsW w).map D.str = z0 at *
      generalize M x = mx at *
      generalize M2 x = my at *
      simp only [← k1, ← k2] at qn
      simp [mDGet1, dctOf, keyD, runF, sSeq, sIf, sNext, sDrop, sRet, sRetN, sAsg, ofRes, ofB, bName, bNil, bCons, bTup, bLst, bSubL, mTest, mOp, mVar, mC, mChain, mAnd, mOr, mNot, mIf, mAndV, mOrV, mNotV, mNeg, mCons, mNil, mTup, mLst, newL, mCall, mFn, arity, g1, g2, gLen, gInt, gAbs, gMax2, gMin2, gIx, seqOf, lsqOf, lstOf, Res.bind, ofO, gAdd_ok, gSub_ok, gEq_int, gNe_int, gLt_int, gLe_int, gGt_int, gGe_int, gEq_bl, gNe_bl, gEq_str, gNe_str, mIsi, mIsiT, tyD, kitL, kitTab, atI_c0, atI_c1, atI_c2, atI_c3, atI_c4, sForR1, int1, int2, mMeth, mMake, mFld, sFldM, gIs, gIsNot, isNon_t, sRaise, gList, newLO, c2.dm, hd3, qn]) fun x _ _ => by simp [runF, sSeq, sIf, sNext, sDrop, sRet, sRetN, sAsg, ofRes, ofB, bName, bNil, bCons, bTup, bLst, bSubL, mTest, mOp, mVar, mC, mChain, mAnd, mOr, mNot, mIf, mAndV, mOrV, mNotV, mNeg, mCons, mNil, mTup, mLst, newL, mCall, mFn, arity, g1, g2, gLen, gInt, gAbs, gMax2, gMin2, gIx, seqOf, lsqOf, lstOf, Res.bind, ofO, gAdd_ok, gSub_ok, gEq_int, gNe_int, gLt_int, gLe_int, gGt_int, gGe_int, gEq_bl, gNe_bl, gEq_str, gNe_str, mIsi, mIsiT, tyD, kitL, kitTab, atI_c0, atI_c1, atI_c2, atI_c3, atI_c4, sForR1, int1, int2, mMeth, mMake, mFld, sFldM, gIs, gIsNot, isNon_t, sRaise, gList, newLO]
  have sc' := same_count (w := w) (M := M) (M' := M2)
  have cl : (((nmsW w).filter fun x => decide (M x ≠ M2 x)).map D.str).length = ((nmsW w).filter fun x => decide (M x ≠ M2 x)).length := List.length_map _
  refine ⟨O2, ?_, f1.trans f2⟩
  simp only [S21] at e3 ⊢
  generalize mLcL false _ [18] _ _ _ = cL at e3 ⊢
  rw [← cl] at sc'
  generalize ((nmsW w).filter fun x => decide (M x ≠ M2 x)).map D.str = z1 at *
  generalize (nmsW w).map D.str = z0 at *
  generalize sameM w M M2 = sb at *
  have sc2 : (z1 = []) = (sb = true) := by
    rw [← sc', decide_eq_true_iff]
    exact propext ⟨fun z => by rw [z]; rfl, fun z => List.length_eq_zero_iff.mp (by omega)⟩
  simp [mEqO, othOk, blR, gRepr, runF, sSeq, sIf, sNext, sDrop, sRet, sRetN, sAsg, ofRes, ofB, bName, bNil, bCons, bTup, bLst, bSubL, mTest, mOp, mVar, mC, mChain, mAnd, mOr, mNot, mIf, mAndV, mOrV, mNotV, mNeg, mCons, mNil, mTup, mLst, newL, mCall, mFn, arity, g1, g2, gLen, gInt, gAbs, gMax2, gMin2, gIx, seqOf, lsqOf, lstOf, Res.bind, ofO, gAdd_ok, gSub_ok, gEq_int, gNe_int, gLt_int, gLe_int, gGt_int, gGe_int, gEq_bl, gNe_bl, gEq_str, gNe_str, mIsi, mIsiT, tyD, kitL, kitTab, atI_c0, atI_c1, atI_c2, atI_c3, atI_c4, sForR1, int1, int2, mMeth, mMake, mFld, sFldM, gIs, gIsNot, isNon_t, sRaise, gList, newLO, e1, e2, e3, c1.tb.eo, t2.eo, sc2]
theorem s22_ok (c : Scn w M kvs h s l p v d n O) (R : RowsOK (rowsW w M)) : ∃ O', S22 (Lx sc w h d hd n y8 y9 y10 y11 y12 y13 none none) O = .next (Lx sc w h d hd n y8 y9 y10 y11 y12 y13 none none) O' ∧ Fz O O' := by
  have rl := R.l
  have e1 := rows_ok c.tb R
  have gg : (O ++ [.lst ((rowsW w M).map rowD)])[O.length]? = some (.lst ((rowsW w M).map rowD)) := by rw [List.getElem?_append_right (Nat.le_refl _)]; simp
  have ml : ((rowsW w M).map rowD).length ≤ 1000000 := by rw [List.length_map]; omega
  refine ⟨(O ++ [Ob.lst ((rowsW w M).map rowD)]).set O.length (Ob.lst ((rowsW w M).map rowD ++ [D.int 5])), ?_, fz_setNew fz_app (Nat.le_refl _)⟩
  simp only [S22]
  generalize (rowsW w M).map rowD = z3 at *
  generalize (nmsW w).map D.str = z0 at *
  generalize O ++ [Ob.lst z3] = O1 at *
  simp [mApp, runF, sSeq, sIf, sNext, sDrop, sRet, sRetN, sAsg, ofRes, ofB, bName, bNil, bCons, bTup, bLst, bSubL, mTest, mOp, mVar, mC, mChain, mAnd, mOr, mNot, mIf, mAndV, mOrV, mNotV, mNeg, mCons, mNil, mTup, mLst, newL, mCall, mFn, arity, g1, g2, gLen, gInt, gAbs, gMax2, gMin2, gIx, seqOf, lsqOf, lstOf, Res.bind, ofO, gAdd_ok, gSub_ok, gEq_int, gNe_int, gLt_int, gLe_int, gGt_int, gGe_int, gEq_bl, gNe_bl, gEq_str, gNe_str, mIsi, mIsiT, tyD, kitL, kitTab, atI_c0, atI_c1, atI_c2, atI_c3, atI_c4, sForR1, int1, int2, mMeth, mMake, mFld, sFldM, gIs, gIsNot, isNon_t, sRaise, gList, newLO, c.tb.eo, lt_rows, e1, gg, ml]
theorem s23_ok (c : Scn w M kvs h s l p v d n O) (R : RowsOK (rowsW w M)) : ∃ O', S23 (Lx sc w h d hd n y8 y9 y10 y11 y12 y13 none none) O = .next (Lx sc w h d hd n y8 y9 y10 y11 y12 y13 none none) O' ∧ Fz O O' := by
  have rl := R.l
  have e1 := by_ok (t := 9) c.tb R
  have gg := byO_g0 (O := O) (rs := rowsW w M) (t := 9)
  have bl := byK_len (rs := rowsW w M) (kd := "station") (t := 9)
  have ml : ((byK (rowsW w M) "station" 9).map D.str).length ≤ 1000000 := by rw [List.length_map]; omega
  refine ⟨(O ++ byO (rowsW w M) 9).set O.length (.lst ((byK (rowsW w M) "station" 9).map .str ++ [.str "zed"])), ?_, fz_setNew fz_app (Nat.le_refl _)⟩
  simp only [S23]
  generalize O ++ byO (rowsW w M) 9 = O1 at *
  generalize (byK (rowsW w M) "station" 9).map D.str = z3 at *
  generalize (nmsW w).map D.str = z0 at *
  simp [mApp, runF, sSeq, sIf, sNext, sDrop, sRet, sRetN, sAsg, ofRes, ofB, bName, bNil, bCons, bTup, bLst, bSubL, mTest, mOp, mVar, mC, mChain, mAnd, mOr, mNot, mIf, mAndV, mOrV, mNotV, mNeg, mCons, mNil, mTup, mLst, newL, mCall, mFn, arity, g1, g2, gLen, gInt, gAbs, gMax2, gMin2, gIx, seqOf, lsqOf, lstOf, Res.bind, ofO, gAdd_ok, gSub_ok, gEq_int, gNe_int, gLt_int, gLe_int, gGt_int, gGe_int, gEq_bl, gNe_bl, gEq_str, gNe_str, mIsi, mIsiT, tyD, kitL, kitTab, atI_c0, atI_c1, atI_c2, atI_c3, atI_c4, sForR1, int1, int2, mMeth, mMake, mFld, sFldM, gIs, gIsNot, isNon_t, sRaise, gList, newLO, c.tb.eo, lt_by, e1, gg, ml]
theorem s24_ok (c : Scn w M kvs h s l p v d n O) : S24 (Lx sc w h d hd n y8 y9 y10 y11 y12 y13 none none) O = .next (Lx sc w h d hd n y8 y9 y10 y11 y12 y13 (some (.hdl O.length)) none) (O ++ [.dct kvs]) := by
  simp only [S24]
  generalize (nmsW w).map D.str = z0 at *
  simp [gDictD, dctOf, runF, sSeq, sIf, sNext, sDrop, sRet, sRetN, sAsg, ofRes, ofB, bName, bNil, bCons, bTup, bLst, bSubL, mTest, mOp, mVar, mC, mChain, mAnd, mOr, mNot, mIf, mAndV, mOrV, mNotV, mNeg, mCons, mNil, mTup, mLst, newL, mCall, mFn, arity, g1, g2, gLen, gInt, gAbs, gMax2, gMin2, gIx, seqOf, lsqOf, lstOf, Res.bind, ofO, gAdd_ok, gSub_ok, gEq_int, gNe_int, gLt_int, gLe_int, gGt_int, gGe_int, gEq_bl, gNe_bl, gEq_str, gNe_str, mIsi, mIsiT, tyD, kitL, kitTab, atI_c0, atI_c1, atI_c2, atI_c3, atI_c4, sForR1, int1, int2, mMeth, mMake, mFld, sFldM, gIs, gIsNot, isNon_t, sRaise, gList, newLO, c.dm]
theorem s25_ok (t : Take b 0 O) (hb : b ≤ 2 ^ 20) : ∃ pk O', S25 (Lx sc w h d hd n y8 y9 y10 y11 y12 y13 y14 none) O = .next (Lx sc w h d hd n y8 y9 y10 y11 y12 y13 y14 (some (.int pk))) O' ∧ 0 ≤ pk ∧ pk < 5 ∧ Fr O O' := by
  obtain ⟨pk, O1, e1, v0, v1, t1, f1, l1⟩ := tk1 t (m := 5) (by decide) (by decide) (by omega)
  refine ⟨pk, O1, ?_, v0, v1, f1⟩
  simp only [S25]
  generalize (nmsW w).map D.str = z0 at *
  simp [runF, sSeq, sIf, sNext, sDrop, sRet, sRetN, sAsg, ofRes, ofB, bName, bNil, bCons, bTup, bLst, bSubL, mTest, mOp, mVar, mC, mChain, mAnd, mOr, mNot, mIf, mAndV, mOrV, mNotV, mNeg, mCons, mNil, mTup, mLst, newL, mCall, mFn, arity, g1, g2, gLen, gInt, gAbs, gMax2, gMin2, gIx, seqOf, lsqOf, lstOf, Res.bind, ofO, gAdd_ok, gSub_ok, gEq_int, gNe_int, gLt_int, gLe_int, gGt_int, gGe_int, gEq_bl, gNe_bl, gEq_str, gNe_str, mIsi, mIsiT, tyD, kitL, kitTab, atI_c0, atI_c1, atI_c2, atI_c3, atI_c4, sForR1, int1, int2, mMeth, mMake, mFld, sFldM, gIs, gIsNot, isNon_t, sRaise, gList, newLO, x_take, e1]
/-- what is put in, and where -/
def badK (pk : Int) : Str := if pk = 0 then "zed" else "ash"
def badV (pk : Int) : D := if pk = 0 then .int 5 else if pk = 1 then .int (-1) else if pk = 2 then .bl true else if pk = 3 then .str "5" else .int 1000000000001
theorem s26_ok {pk : Int} (h0 : 0 ≤ pk) (h1 : pk < 5) (hm : O[m]? = some (.dct kvs)) (hl : kvs.length ≤ 1000) : S26 (Lx sc w h d hd n y8 y9 y10 y11 y12 y13 (some (.hdl m)) (some (.int pk))) O = .next (Lx sc w h d hd n y8 y9 y10 y11 y12 y13 (some (.hdl m)) (some (.int pk))) (O.set m (.dct (putKD kvs (.inr (badK pk)) (badV pk)))) := by
  have pw : gPow O (.int 10) (.int 12) = some (.int 1000000000000, O) := rfl
  have kl : kvs.length ≤ 1000000 := by omega
  simp only [S26]
  generalize (nmsW w).map D.str = z0 at *
  rcases (by omega : pk = 0 ∨ pk = 1 ∨ pk = 2 ∨ pk = 3 ∨ pk = 4) with rfl | rfl | rfl | rfl | rfl <;> simp [sDPutM, dctOf, keyD, hdlN, badK, badV, runF, sSeq, sIf, sNext, sDrop, sRet, sRetN, sAsg, ofRes, ofB, bName, bNil, bCons, bTup, bLst, bSubL, mTest, mOp, mVar, mC, mChain, mAnd, mOr, mNot, mIf, mAndV, mOrV, mNotV, mNeg, mCons, mNil, mTup, mLst, newL, mCall, mFn, arity, g1, g2, gLen, gInt, gAbs, gMax2, gMin2, gIx, seqOf, lsqOf, lstOf, Res.bind, ofO, gAdd_ok, gSub_ok, gEq_int, gNe_int, gLt_int, gLe_int, gGt_int, gGe_int, gEq_bl, gNe_bl, gEq_str, gNe_str, mIsi, mIsiT, tyD, kitL, kitTab, atI_c0, atI_c1, atI_c2, atI_c3, atI_c4, sForR1, int1, int2, mMeth, mMake, mFld, sFldM, gIs, gIsNot, isNon_t, sRaise, gList, newLO, pw, hm, kl]
theorem num_no1 (O : Store) : f_is_number [.int (-1), .int 0, .int 1000000000000] O = .ok (.bl false) O := by simp [f_is_number, b_is_number, runF, sSeq, sIf, sNext, sDrop, sRet, sRetN, sAsg, ofRes, ofB, bName, bNil, bCons, bTup, bLst, bSubL, mTest, mOp, mVar, mC, mChain, mAnd, mOr, mNot, mIf, mAndV, mOrV, mNotV, mNeg, mCons, mNil, mTup, mLst, newL, mCall, mFn, arity, g1, g2, gLen, gInt, gAbs, gMax2, gMin2, gIx, seqOf, lsqOf, lstOf, Res.bind, ofO, gAdd_ok, gSub_ok, gEq_int, gNe_int, gLt_int, gLe_int, gGt_int, gGe_int, gEq_bl, gNe_bl, gEq_str, gNe_str, mIsi, mIsiT, tyD, kitL, kitTab, atI_c0, atI_c1, atI_c2, atI_c3, atI_c4, sForR1, int1, int2, mMeth, mMake, mFld, sFldM, gIs, gIsNot, isNon_t, sRaise, gList, newLO]
theorem num_no2 (O : Store) : f_is_number [.bl true, .int 0, .int 1000000000000] O = .ok (.bl false) O := by simp [f_is_number, b_is_number, runF, sSeq, sIf, sNext, sDrop, sRet, sRetN, sAsg, ofRes, ofB, bName, bNil, bCons, bTup, bLst, bSubL, mTest, mOp, mVar, mC, mChain, mAnd, mOr, mNot, mIf, mAndV, mOrV, mNotV, mNeg, mCons, mNil, mTup, mLst, newL, mCall, mFn, arity, g1, g2, gLen, gInt, gAbs, gMax2, gMin2, gIx, seqOf, lsqOf, lstOf, Res.bind, ofO, gAdd_ok, gSub_ok, gEq_int, gNe_int, gLt_int, gLe_int, gGt_int, gGe_int, gEq_bl, gNe_bl, gEq_str, gNe_str, mIsi, mIsiT, tyD, kitL, kitTab, atI_c0, atI_c1, atI_c2, atI_c3, atI_c4, sForR1, int1, int2, mMeth, mMake, mFld, sFldM, gIs, gIsNot, isNon_t, sRaise, gList, newLO]
theorem num_no3 (O : Store) : f_is_number [.str "5", .int 0, .int 1000000000000] O = .ok (.bl false) O := by simp [f_is_number, b_is_number, runF, sSeq, sIf, sNext, sDrop, sRet, sRetN, sAsg, ofRes, ofB, bName, bNil, bCons, bTup, bLst, bSubL, mTest, mOp, mVar, mC, mChain, mAnd, mOr, mNot, mIf, mAndV, mOrV, mNotV, mNeg, mCons, mNil, mTup, mLst, newL, mCall, mFn, arity, g1, g2, gLen, gInt, gAbs, gMax2, gMin2, gIx, seqOf, lsqOf, lstOf, Res.bind, ofO, gAdd_ok, gSub_ok, gEq_int, gNe_int, gLt_int, gLe_int, gGt_int, gGe_int, gEq_bl, gNe_bl, gEq_str, gNe_str, mIsi, mIsiT, tyD, kitL, kitTab, atI_c0, atI_c1, atI_c2, atI_c3, atI_c4, sForR1, int1, int2, mMeth, mMake, mFld, sFldM, gIs, gIsNot, isNon_t, sRaise, gList, newLO]
theorem num_no4 (O : Store) : f_is_number [.int 1000000000001, .int 0, .int 1000000000000] O = .ok (.bl false) O := by simp [f_is_number, b_is_number, runF, sSeq, sIf, sNext, sDrop, sRet, sRetN, sAsg, ofRes, ofB, bName, bNil, bCons, bTup, bLst, bSubL, mTest, mOp, mVar, mC, mChain, mAnd, mOr, mNot, mIf, mAndV, mOrV, mNotV, mNeg, mCons, mNil, mTup, mLst, newL, mCall, mFn, arity, g1, g2, gLen, gInt, gAbs, gMax2, gMin2, gIx, seqOf, lsqOf, lstOf, Res.bind, ofO, gAdd_ok, gSub_ok, gEq_int, gNe_int, gLt_int, gLe_int, gGt_int, gGe_int, gEq_bl, gNe_bl, gEq_str, gNe_str, mIsi, mIsiT, tyD, kitL, kitTab, atI_c0, atI_c1, atI_c2, atI_c3, atI_c4, sForR1, int1, int2, mMeth, mMake, mFld, sFldM, gIs, gIsNot, isNon_t, sRaise, gList, newLO]
theorem ash_first (k : WOK w) : ∃ rest, w.st = ("ash" : Str) :: rest := by
  obtain ⟨i, h1, _, hs⟩ := k.st
  rw [hs]
  cases i with
  | zero => omega
  | succ i => exact ⟨_, rfl⟩
theorem bad_init {pk : Int} (k : WOK w) (a : LandAt h s l p v w O) (K : Mins kvs M (nmsW w)) (h0 : 0 ≤ pk) (h1 : pk < 5) (hl : kvs.length + 1 ≤ 1000) (hm : O[m]? = some (.dct (putKD kvs (.inr (badK pk)) (badV pk)))) (lt : h < m ∧ s < m ∧ l < m ∧ p < m ∧ v < m) :
    ∃ O', f_table_init [.hdl O.length, .hdl h, .hdl m] (O ++ [.ins "Table" []]) = .exc ⟨"InvalidPaper", none⟩ O' ∧ Fz O O' := by
  obtain ⟨rest, hw⟩ := ash_first k
  have va : ∀ x : D, (valD (putKD kvs (.inr "ash") x) (.inr "ash")).getD .non = x := fun x => by
    rw [val_put, if_pos rfl]
    rfl
  rcases (by omega : pk = 0 ∨ pk = 1 ∨ pk = 2 ∨ pk = 3 ∨ pk = 4) with rfl | rfl | rfl | rfl | rfl
  · have hm : O[m]? = some (.dct (putKD kvs (.inr "zed") (.int 5))) := hm
    have zn : ("zed" : Str) ∉ nmsW w := fun z => by
      have R : RowsOK (rowsW w fun _ => none) := rows_okW k fun _ _ h => nomatch h
      rw [← rowsW_nm (M := fun _ => none)] at z
      obtain ⟨r, hr, e⟩ := List.mem_map.mp z
      exact zed_no (e ▸ R.n r hr)
    obtain ⟨ks, hk, hks⟩ := K.k
    have zk : ("zed" : Str) ∉ ks := fun z => zn (hks _ z)
    have hk2 : (putKD kvs (.inr "zed") (.int 5)).map (·.1) = (ks ++ [("zed" : Str)]).map Sum.inr := by
      have na : ¬ (kvs.any fun kv => decide (kv.1 = .inr "zed")) = true := fun z => by
        obtain ⟨kv, hkv, e⟩ := List.any_eq_true.mp z
        have : kv.1 ∈ kvs.map (·.1) := List.mem_map.mpr ⟨kv, hkv, rfl⟩
        rw [hk, of_decide_eq_true e] at this
        obtain ⟨x, hx, e2⟩ := List.mem_map.mp this
        cases e2
        exact zk hx
      unfold putKD
      rw [if_neg na, List.map_append, hk, List.map_append]
      rfl
    refine init_bad2 (M := M) a k hm (fun x hx => ?_) K.b lt hk2 (Nat.le_trans put_len hl) fun z => ?_
    · rw [val_put, if_neg (fun e => zn ((Sum.inr.inj e : x = "zed") ▸ hx))]
      exact K.v x
    · have : ("zed" : Str) ∈ strange w (ks ++ [("zed" : Str)]) := List.mem_filter.mpr ⟨by simp, decide_eq_true zn⟩
      rw [z] at this
      cases this
  · exact init_bad1 a k hw hm (va _) rfl num_no1
  · exact init_bad1 a k hw hm (va _) rfl num_no2
  · exact init_bad1 a k hw hm (va _) rfl num_no3
  · exact init_bad1 a k hw hm (va _) rfl num_no4
theorem s27_ok {pk : Int} (k : WOK w) (c : Scn w M kvs h s l p v d n O) (R : RowsOK (rowsW w M)) (K : Mins kvs M (nmsW w)) (h0 : 0 ≤ pk) (h1 : pk < 5) (hl : kvs.length + 1 ≤ 1000) (hm : O[m]? = some (.dct (putKD kvs (.inr (badK pk)) (badV pk)))) (lt : h < m ∧ s < m ∧ l < m ∧ p < m ∧ v < m) :
    ∃ O', S27 (Lx sc w h d hd n (rowsL w M) y9 y10 y11 y12 y13 (some (.hdl m)) y15) O = .ret (.bl true) O' := by
  obtain ⟨O1, e1, f1⟩ := bad_init k c.la K h0 h1 hl hm lt
  have c1 := c.fr f1.fr
  have sb : sub_law_made_298 "InvalidPaper" = some true := rfl
  have e2 : f_law_made [.hdl h, .hdl m] O = .ok (.bl true) O1 := by
    simp [f_law_made, b_law_made, sTryAs, runF, sSeq, sIf, sNext, sDrop, sRet, sRetN, sAsg, ofRes, ofB, bName, bNil, bCons, bTup, bLst, bSubL, mTest, mOp, mVar, mC, mChain, mAnd, mOr, mNot, mIf, mAndV, mOrV, mNotV, mNeg, mCons, mNil, mTup, mLst, newL, mCall, mFn, arity, g1, g2, gLen, gInt, gAbs, gMax2, gMin2, gIx, seqOf, lsqOf, lstOf, Res.bind, ofO, gAdd_ok, gSub_ok, gEq_int, gNe_int, gLt_int, gLe_int, gGt_int, gGe_int, gEq_bl, gNe_bl, gEq_str, gNe_str, mIsi, mIsiT, tyD, kitL, kitTab, atI_c0, atI_c1, atI_c2, atI_c3, atI_c4, sForR1, int1, int2, mMeth, mMake, mFld, sFldM, gIs, gIsNot, isNon_t, sRaise, gList, newLO, e1, sb]
  have e3 := rows_ok c1.tb R
  have f2 : Fz O1 (O1 ++ [.lst ((rowsW w M).map rowD)]) := fz_app
  have gg : (O1 ++ [.lst ((rowsW w M).map rowD)])[O1.length]? = some (.lst ((rowsW w M).map rowD)) := by rw [List.getElem?_append_right (Nat.le_refl _)]; simp
  obtain ⟨O2, hO2⟩ : ∃ O2, O1 ++ [Ob.lst ((rowsW w M).map rowD)] = O2 := ⟨_, rfl⟩
  rw [hO2] at e3 f2 gg
  have c2 := c1.fr f2.fr
  have q1 : gEq O2 (.hdl O1.length) (.lst ((rowsW w M).map rowD)) = some (.bl true, O2) := gEq_of (by rw [eqD_hl gg, eqD_pd (okR R) (okR R) (.inl rfl), eqv_self (okR R)])
  have e4 : f_table_eq [.hdl n, .int 5] O2 = .ok (.bl false) O2 := by
    simp [f_table_eq, b_table_eq, mIsO, mAndV, runF, sSeq, sIf, sNext, sDrop, sRet, sRetN, sAsg, ofRes, ofB, bName, bNil, bCons, bTup, bLst, bSubL, mTest, mOp, mVar, mC, mChain, mAnd, mOr, mNot, mIf, mAndV, mOrV, mNotV, mNeg, mCons, mNil, mTup, mLst, newL, mCall, mFn, arity, g1, g2, gLen, gInt, gAbs, gMax2, gMin2, gIx, seqOf, lsqOf, lstOf, Res.bind, ofO, gAdd_ok, gSub_ok, gEq_int, gNe_int, gLt_int, gLe_int, gGt_int, gGe_int, gEq_bl, gNe_bl, gEq_str, gNe_str, mIsi, mIsiT, tyD, kitL, kitTab, atI_c0, atI_c1, atI_c2, atI_c3, atI_c4, sForR1, int1, int2, mMeth, mMake, mFld, sFldM, gIs, gIsNot, isNon_t, sRaise, gList, newLO]
  refine ⟨O2, ?_⟩
  simp only [S27, rowsL]
  generalize (rowsW w M).map rowD = z3 at *
  generalize (nmsW w).map D.str = z0 at *
  simp [gIsB, mEqO, othOk, blR, mAndV, mNotV, runF, sSeq, sIf, sNext, sDrop, sRet, sRetN, sAsg, ofRes, ofB, bName, bNil, bCons, bTup, bLst, bSubL, mTest, mOp, mVar, mC, mChain, mAnd, mOr, mNot, mIf, mAndV, mOrV, mNotV, mNeg, mCons, mNil, mTup, mLst, newL, mCall, mFn, arity, g1, g2, gLen, gInt, gAbs, gMax2, gMin2, gIx, seqOf, lsqOf, lstOf, Res.bind, ofO, gAdd_ok, gSub_ok, gEq_int, gNe_int, gLt_int, gLe_int, gGt_int, gGe_int, gEq_bl, gNe_bl, gEq_str, gNe_str, mIsi, mIsiT, tyD, kitL, kitTab, atI_c0, atI_c1, atI_c2, atI_c3, atI_c4, sForR1, int1, int2, mMeth, mMake, mFld, sFldM, gIs, gIsNot, isNon_t, sRaise, gList, newLO, e2, e3, e4, q1, c1.tb.eo, c2.tb.eo, lt_rows]
end
end DK.k18
end
section
set_option Elab.async false
set_option linter.all false
set_option autoImplicit false
set_option maxRecDepth 100000
set_option maxHeartbeats 4000000
/-! K18Law: the law, in plain Lean. -/
namespace DK.k18
open PySem L2 DK DK.W
def S0 : SM := (sAsg (mLst true (mCons (mVar 0) (mCons (mC (.int 0)) (mCons (mC (.int 0)) mNil)))) (bName 1))
def S1 : SM := (sAsg (mFn (arity 1 f_law_world) [] (mCons (mVar 1) mNil)) (bName 2))
def S2 : SM := (sAsg (mFn (arity 1 f_law_build) [] (mCons (mVar 2) mNil)) (bName 3))
def S4 : SM := (sAsg (mFn (arity 2 f_law_minutes) [] (mCons (mVar 1) (mCons (mVar 4) mNil))) (bName 5))
def S5 : SM := (sAsg (mCall (g1 gDictD) (mCons (mVar 5) mNil)) (bName 6))
def S6 : SM := (sAsg (mMake "Table" (arity 3 f_table_init) [] (mCons (mVar 3) (mCons (mVar 6) mNil))) (bName 7))
def S7 : SM := (sDPutM (mVar 6) (mC (.str "ash")) (mC (.int 77)))
theorem b_law_is : b_law = sSeq S0 (sSeq S1 (sSeq S2 (sSeq S3 (sSeq S4 (sSeq S5 (sSeq S6 (sSeq S7 (sSeq S8 (sSeq S9 (sSeq S10 (sSeq S11 (sSeq S12 (sSeq S13 (sSeq S14 (sSeq S15 (sSeq S16 (sSeq S17 (sSeq S18 (sSeq S19 (sSeq S20 (sSeq S21 (sSeq S22 (sSeq S23 (sSeq S24 (sSeq S25 (sSeq S26 S27)))))))))))))))))))))))))) := rfl
abbrev L0 (sc : D) (y1 y2 y3 y4 y5 y6 y7 : Option D) : Loc := [some sc, y1, y2, y3, y4, y5, y6, y7, none, none, none, none, none, none, none, none, none, none, none, none]
theorem LandAt.setAt {w : Wd} {h s l p v m : Nat} {O : Store} {x : Ob} (a : LandAt h s l p v w O) (lt : h < m ∧ s < m ∧ l < m ∧ p < m ∧ v < m) : LandAt h s l p v w (O.set m x) :=
  ⟨by rw [List.getElem?_set_ne (by omega)]; exact a.eo, by rw [List.getElem?_set_ne (by omega)]; exact a.es, by rw [List.getElem?_set_ne (by omega)]; exact a.el, by rw [List.getElem?_set_ne (by omega)]; exact a.ep, by rw [List.getElem?_set_ne (by omega)]; exact a.ev, a.lp, a.sv, a.pos⟩
theorem seq_next {A B : SM} {L L' : Loc} {O O' : Store} (h : A L O = .next L' O') : sSeq A B L O = B L' O' := by
  unfold sSeq
  rw [h]
theorem law_holds (ns : List Int) (hns : ns.length ≤ 63) : ∃ O, f_law [.rol (ns.map .int)] [] = .ok (.bl true) O := by
  have e0 : S0 (L0 (.rol (ns.map .int)) none none none none none none none) [] = .next (L0 (.rol (ns.map .int)) (some (.hdl 0)) none none none none none none) [.lst [.rol (ns.map .int), .int 0, .int 0]] := by
    simp [S0, runF, sSeq, sIf, sNext, sDrop, sRet, sRetN, sAsg, ofRes, ofB, bName, bNil, bCons, bTup, bLst, bSubL, mTest, mOp, mVar, mC, mChain, mAnd, mOr, mNot, mIf, mAndV, mOrV, mNotV, mNeg, mCons, mNil, mTup, mLst, newL, mCall, mFn, arity, g1, g2, gLen, gInt, gAbs, gMax2, gMin2, gIx, seqOf, lsqOf, lstOf, Res.bind, ofO, gAdd_ok, gSub_ok, gEq_int, gNe_int, gLt_int, gLe_int, gGt_int, gGe_int, gEq_bl, gNe_bl, gEq_str, gNe_str, mIsi, mIsiT, tyD, kitL, kitTab, atI_c0, atI_c1, atI_c2, atI_c3, atI_c4, sForR1, int1, int2, mMeth, mMake, mFld, sFldM, gIs, gIsNot, isNon_t, sRaise, gList, newLO]
  have t0 : Take 0 0 [Ob.lst [.rol (ns.map D.int), .int 0, .int 0]] := ⟨ns, 0, 0, rfl, by omega, by omega, by omega, by omega⟩
  obtain ⟨w, O1, e1, k, t1, f1⟩ := world_ok t0 (by omega)
  obtain ⟨h, s, l, p, v, O2, e2, a2, f2, _⟩ := build_ok (O := O1) k t1.len
  rw [← x_world] at e1
  rw [← x_build] at e2
  have g1' : S1 (L0 (.rol (ns.map .int)) (some (.hdl 0)) none none none none none none) [.lst [.rol (ns.map .int), .int 0, .int 0]] = .next (L0 (.rol (ns.map .int)) (some (.hdl 0)) (some (encW w)) none none none none none) O1 := by
    simp [S1, runF, sSeq, sIf, sNext, sDrop, sRet, sRetN, sAsg, ofRes, ofB, bName, bNil, bCons, bTup, bLst, bSubL, mTest, mOp, mVar, mC, mChain, mAnd, mOr, mNot, mIf, mAndV, mOrV, mNotV, mNeg, mCons, mNil, mTup, mLst, newL, mCall, mFn, arity, g1, g2, gLen, gInt, gAbs, gMax2, gMin2, gIx, seqOf, lsqOf, lstOf, Res.bind, ofO, gAdd_ok, gSub_ok, gEq_int, gNe_int, gLt_int, gLe_int, gGt_int, gGe_int, gEq_bl, gNe_bl, gEq_str, gNe_str, mIsi, mIsiT, tyD, kitL, kitTab, atI_c0, atI_c1, atI_c2, atI_c3, atI_c4, sForR1, int1, int2, mMeth, mMake, mFld, sFldM, gIs, gIsNot, isNon_t, sRaise, gList, newLO, e1]
  have g2' : S2 (L0 (.rol (ns.map .int)) (some (.hdl 0)) (some (encW w)) none none none none none) O1 = .next (L0 (.rol (ns.map .int)) (some (.hdl 0)) (some (encW w)) (some (.hdl h)) none none none none) O2 := by
    simp [S2, runF, sSeq, sIf, sNext, sDrop, sRet, sRetN, sAsg, ofRes, ofB, bName, bNil, bCons, bTup, bLst, bSubL, mTest, mOp, mVar, mC, mChain, mAnd, mOr, mNot, mIf, mAndV, mOrV, mNotV, mNeg, mCons, mNil, mTup, mLst, newL, mCall, mFn, arity, g1, g2, gLen, gInt, gAbs, gMax2, gMin2, gIx, seqOf, lsqOf, lstOf, Res.bind, ofO, gAdd_ok, gSub_ok, gEq_int, gNe_int, gLt_int, gLe_int, gGt_int, gGe_int, gEq_bl, gNe_bl, gEq_str, gNe_str, mIsi, mIsiT, tyD, kitL, kitTab, atI_c0, atI_c1, atI_c2, atI_c3, atI_c4, sForR1, int1, int2, mMeth, mMake, mFld, sFldM, gIs, gIsNot, isNon_t, sRaise, gList, newLO, e2]
  have g3' := s3_ok (O := O2) (h := h) (sc := .rol (ns.map .int)) (y5 := none) (y6 := none) (y7 := none) k
  have nl := nmsW_len k
  have lt2 : h < O2.length ∧ s < O2.length ∧ l < O2.length ∧ p < O2.length ∧ v < O2.length := ⟨(List.getElem?_eq_some_iff.mp a2.eo).1, (List.getElem?_eq_some_iff.mp a2.es).1, (List.getElem?_eq_some_iff.mp a2.el).1, (List.getElem?_eq_some_iff.mp a2.ep).1, (List.getElem?_eq_some_iff.mp a2.ev).1⟩
  obtain ⟨kvs, M, O3, e4, K, kl, hd3, t3, f3, l3⟩ := mn_ok (ns := nmsW w) (t1.fz f2) (by omega) (by omega)
  have g4' : S4 (L0 (.rol (ns.map .int)) (some (.hdl 0)) (some (encW w)) (some (.hdl h)) (some (.lst ((nmsW w).map .str))) none none none) O2 = .next (L0 (.rol (ns.map .int)) (some (.hdl 0)) (some (encW w)) (some (.hdl h)) (some (.lst ((nmsW w).map .str))) (some (.hdl O2.length)) none none) O3 := by
    simp [S4, runF, sSeq, sIf, sNext, sDrop, sRet, sRetN, sAsg, ofRes, ofB, bName, bNil, bCons, bTup, bLst, bSubL, mTest, mOp, mVar, mC, mChain, mAnd, mOr, mNot, mIf, mAndV, mOrV, mNotV, mNeg, mCons, mNil, mTup, mLst, newL, mCall, mFn, arity, g1, g2, gLen, gInt, gAbs, gMax2, gMin2, gIx, seqOf, lsqOf, lstOf, Res.bind, ofO, gAdd_ok, gSub_ok, gEq_int, gNe_int, gLt_int, gLe_int, gGt_int, gGe_int, gEq_bl, gNe_bl, gEq_str, gNe_str, mIsi, mIsiT, tyD, kitL, kitTab, atI_c0, atI_c1, atI_c2, atI_c3, atI_c4, sForR1, int1, int2, mMeth, mMake, mFld, sFldM, gIs, gIsNot, isNon_t, sRaise, gList, newLO, e4]
  have a3 := a2.fr f3
  -- handed
  have g5' : S5 (L0 (.rol (ns.map .int)) (some (.hdl 0)) (some (encW w)) (some (.hdl h)) (some (.lst ((nmsW w).map .str))) (some (.hdl O2.length)) none none) O3 = .next (L0 (.rol (ns.map .int)) (some (.hdl 0)) (some (encW w)) (some (.hdl h)) (some (.lst ((nmsW w).map .str))) (some (.hdl O2.length)) (some (.hdl O3.length)) none) (O3 ++ [.dct kvs]) := by
    simp [S5, gDictD, dctOf, runF, sSeq, sIf, sNext, sDrop, sRet, sRetN, sAsg, ofRes, ofB, bName, bNil, bCons, bTup, bLst, bSubL, mTest, mOp, mVar, mC, mChain, mAnd, mOr, mNot, mIf, mAndV, mOrV, mNotV, mNeg, mCons, mNil, mTup, mLst, newL, mCall, mFn, arity, g1, g2, gLen, gInt, gAbs, gMax2, gMin2, gIx, seqOf, lsqOf, lstOf, Res.bind, ofO, gAdd_ok, gSub_ok, gEq_int, gNe_int, gLt_int, gLe_int, gGt_int, gGe_int, gEq_bl, gNe_bl, gEq_str, gNe_str, mIsi, mIsiT, tyD, kitL, kitTab, atI_c0, atI_c1, atI_c2, atI_c3, atI_c4, sForR1, int1, int2, mMeth, mMake, mFld, sFldM, gIs, gIsNot, isNon_t, sRaise, gList, newLO, hd3]
  have f4 : Fz O3 (O3 ++ [.dct kvs]) := fz_app
  have l4 : (O3 ++ [Ob.dct kvs]).length = O3.length + 1 := by rw [List.length_append]; rfl
  have hh4 : (O3 ++ [Ob.dct kvs])[O3.length]? = some (.dct kvs) := by rw [List.getElem?_append_right (Nat.le_refl _)]; simp
  obtain ⟨O4, hO4⟩ : ∃ O4, O3 ++ [Ob.dct kvs] = O4 := ⟨_, rfl⟩
  rw [hO4] at g5' f4 l4 hh4
  have a4 := a3.fr f4.fr
  have d4 := f4.at hd3
  have ltm : h < O3.length ∧ s < O3.length ∧ l < O3.length ∧ p < O3.length ∧ v < O3.length := by omega
  have R : RowsOK (rowsW w M) := rows_okW k K.b
  -- the table
  have e6 := init_ok a4 k hh4 K ltm
  have f5 : Fz O4 (O4 ++ [tabO O4.length, .lst ((rowsW w M).map rowD), .dct (dicS (fun r : Row => r.2.1) minD (rowsW w M))]) := fz_app
  have tb5 : TabAt O4.length (rowsW w M) (O4 ++ [tabO O4.length, .lst ((rowsW w M).map rowD), .dct (dicS (fun r : Row => r.2.1) minD (rowsW w M))]) := ⟨by rw [List.getElem?_append_right (Nat.le_refl _)]; simp, by rw [List.getElem?_append_right (by omega)]; simp, by rw [List.getElem?_append_right (by omega)]; simp⟩
  obtain ⟨O5, hO5⟩ : ∃ O5, O4 ++ [tabO O4.length, .lst ((rowsW w M).map rowD), .dct (dicS (fun r : Row => r.2.1) minD (rowsW w M))] = O5 := ⟨_, rfl⟩
  rw [hO5] at e6 f5 tb5
  have g6' : S6 (L0 (.rol (ns.map .int)) (some (.hdl 0)) (some (encW w)) (some (.hdl h)) (some (.lst ((nmsW w).map .str))) (some (.hdl O2.length)) (some (.hdl O3.length)) none) O4 = .next (Lx (.rol (ns.map .int)) w h O2.length O3.length O4.length none none none none none none none none) O5 := by
    simp [S6, runF, sSeq, sIf, sNext, sDrop, sRet, sRetN, sAsg, ofRes, ofB, bName, bNil, bCons, bTup, bLst, bSubL, mTest, mOp, mVar, mC, mChain, mAnd, mOr, mNot, mIf, mAndV, mOrV, mNotV, mNeg, mCons, mNil, mTup, mLst, newL, mCall, mFn, arity, g1, g2, gLen, gInt, gAbs, gMax2, gMin2, gIx, seqOf, lsqOf, lstOf, Res.bind, ofO, gAdd_ok, gSub_ok, gEq_int, gNe_int, gLt_int, gLe_int, gGt_int, gGe_int, gEq_bl, gNe_bl, gEq_str, gNe_str, mIsi, mIsiT, tyD, kitL, kitTab, atI_c0, atI_c1, atI_c2, atI_c3, atI_c4, sForR1, int1, int2, mMeth, mMake, mFld, sFldM, gIs, gIsNot, isNon_t, sRaise, gList, newLO, e6]
  have a5 := a4.fr f5.fr
  have d5 := f5.at d4
  have h5 := f5.at hh4
  have kl' : kvs.length ≤ 1000000 := by omega
  have g7' : S7 (Lx (.rol (ns.map .int)) w h O2.length O3.length O4.length none none none none none none none none) O5 = .next (Lx (.rol (ns.map .int)) w h O2.length O3.length O4.length none none none none none none none none) (O5.set O3.length (.dct (putKD kvs (.inr "ash") (.int 77)))) := by
    simp [S7, sDPutM, dctOf, keyD, hdlN, runF, sSeq, sIf, sNext, sDrop, sRet, sRetN, sAsg, ofRes, ofB, bName, bNil, bCons, bTup, bLst, bSubL, mTest, mOp, mVar, mC, mChain, mAnd, mOr, mNot, mIf, mAndV, mOrV, mNotV, mNeg, mCons, mNil, mTup, mLst, newL, mCall, mFn, arity, g1, g2, gLen, gInt, gAbs, gMax2, gMin2, gIx, seqOf, lsqOf, lstOf, Res.bind, ofO, gAdd_ok, gSub_ok, gEq_int, gNe_int, gLt_int, gLe_int, gGt_int, gGe_int, gEq_bl, gNe_bl, gEq_str, gNe_str, mIsi, mIsiT, tyD, kitL, kitTab, atI_c0, atI_c1, atI_c2, atI_c3, atI_c4, sForR1, int1, int2, mMeth, mMake, mFld, sFldM, gIs, gIsNot, isNon_t, sRaise, gList, newLO, h5, kl']
  have p0 : 0 < O2.length := by omega
  have c6 : Scn w M kvs h s l p v O2.length O4.length (O5.set O3.length (.dct (putKD kvs (.inr "ash") (.int 77)))) := ⟨LandAt.setAt a5 ltm, by rw [List.getElem?_set_ne (by omega)]; exact d5, ⟨by rw [List.getElem?_set_ne (by omega)]; exact tb5.eo, by rw [List.getElem?_set_ne (by omega)]; exact tb5.er, by rw [List.getElem?_set_ne (by omega)]; exact tb5.em⟩, p0, by omega⟩
  have t6 : Take 400 0 (O5.set O3.length (.dct (putKD kvs (.inr "ash") (.int 77)))) := (tmono (by omega) ((t3.fz f4).fz f5)).set (by omega)
  have l6 : (O5.set O3.length (.dct (putKD kvs (.inr "ash") (.int 77)))).length = O5.length := List.length_set ..
  have l45 := f5.1
  obtain ⟨O6, hO6⟩ : ∃ O6, O5.set O3.length (.dct (putKD kvs (.inr "ash") (.int 77))) = O6 := ⟨_, rfl⟩
  rw [hO6] at g7' c6 t6 l6
  have g8' := s8_ok (sc := .rol (ns.map .int)) (hd := O3.length) k c6 K
  have g9' := s9_ok (sc := .rol (ns.map .int)) (hd := O3.length) k c6 K
  have g10' := s10_ok (sc := .rol (ns.map .int)) (hd := O3.length) k c6 K
  obtain ⟨O11, g11', f11⟩ := s11_ok (sc := .rol (ns.map .int)) (hd := O3.length) c6 R
  have c11 := c6.fr f11.fr
  have g12' := s12_ok (O := O11) (sc := .rol (ns.map .int)) (h := h) (d := O2.length) (n := O4.length) (hd := O3.length) R
  have g13' := s13_ok (O := O11) (w := w) (sc := .rol (ns.map .int)) (h := h) (d := O2.length) (n := O4.length) (hd := O3.length) (y8 := rowsL w M) (y9 := thL w M)
  have f13 : Fz O11 (O11 ++ [.lst []]) := fz_app
  have m13 : (O11 ++ [Ob.lst []])[O11.length]? = some (.lst []) := by rw [List.getElem?_append_right (Nat.le_refl _)]; simp
  obtain ⟨O13, hO13⟩ : ∃ O13, O11 ++ [Ob.lst []] = O13 := ⟨_, rfl⟩
  rw [hO13] at g13' f13 m13
  obtain ⟨y11, g14'⟩ := s14_ok (sc := .rol (ns.map .int)) (h := h) (d := O2.length) (n := O4.length) (hd := O3.length) R m13
  have f14 : Fz O11 (O13.set O11.length (.lst ((sortU (valsR (rowsW w M))).map .int))) := fz_setNew f13 (Nat.le_refl _)
  have m14 : (O13.set O11.length (.lst ((sortU (valsR (rowsW w M))).map .int)))[O11.length]? = some (.lst ((monI w M).map .int)) := set_at m13
  obtain ⟨O14, hO14⟩ : ∃ O14, O13.set O11.length (.lst ((sortU (valsR (rowsW w M))).map .int)) = O14 := ⟨_, rfl⟩
  rw [hO14] at g14' f14 m14
  have c14 := c11.fr f14.fr
  have g15' := s15_ok (sc := .rol (ns.map .int)) (hd := O3.length) (y11 := y11) c14 R m14
  obtain ⟨O16, g16', f16⟩ := s16_ok (sc := .rol (ns.map .int)) (hd := O3.length) (y10 := some (.hdl O11.length)) (y11 := y11) c14 R
  have c16 := c14.fr f16.fr
  have m16 := f16.at m14
  have g17' := s17_ok (sc := .rol (ns.map .int)) (hd := O3.length) (y9 := thL w M) (y10 := some (.hdl O11.length)) (y11 := y11) c16 R
  obtain ⟨y12, O18, g18', f18⟩ := s18_ok (sc := .rol (ns.map .int)) (hd := O3.length) (y9 := thL w M) (y11 := y11) c16 R m16
  have c18 := c16.fr f18.fr
  have g19' := s19_ok (sc := .rol (ns.map .int)) (hd := O3.length) (y9 := thL w M) (y10 := some (.hdl O11.length)) (y11 := y11) (y12 := y12) c18 R
  have fall : Fz O6 O18 := ((f11.trans f14).trans f16).trans f18
  have t18 := t6.fz fall
  obtain ⟨kvs2, M2, O20, g20', K2, hd20, t20, f20⟩ := s20_ok (w := w) (h := h) (d := O2.length) (n := O4.length) (sc := .rol (ns.map .int)) (hd := O3.length) (y8 := rowsL w M) (y9 := thL w M) (y10 := some (.hdl O11.length)) (y11 := y11) (y12 := y12) k t18 (by omega)
  have c20 := c18.fr f20
  have l18 := fall.1
  have lt18 : h < O18.length ∧ s < O18.length ∧ l < O18.length ∧ p < O18.length ∧ v < O18.length := by omega
  obtain ⟨O21, g21', f21⟩ := s21_ok (sc := .rol (ns.map .int)) (hd := O3.length) (y8 := rowsL w M) (y9 := thL w M) (y10 := some (.hdl O11.length)) (y11 := y11) (y12 := y12) k c20 R K K2 hd20 lt18
  have c21 := c20.fr f21.fr
  obtain ⟨O22, g22', f22⟩ := s22_ok (sc := .rol (ns.map .int)) (hd := O3.length) (y8 := rowsL w M) (y9 := thL w M) (y10 := some (.hdl O11.length)) (y11 := y11) (y12 := y12) (y13 := some (.hdl O18.length)) c21 R
  have c22 := c21.fr f22.fr
  obtain ⟨O23, g23', f23⟩ := s23_ok (sc := .rol (ns.map .int)) (hd := O3.length) (y8 := rowsL w M) (y9 := thL w M) (y10 := some (.hdl O11.length)) (y11 := y11) (y12 := y12) (y13 := some (.hdl O18.length)) c22 R
  have c23 := c22.fr f23.fr
  have g24' := s24_ok (sc := .rol (ns.map .int)) (hd := O3.length) (y8 := rowsL w M) (y9 := thL w M) (y10 := some (.hdl O11.length)) (y11 := y11) (y12 := y12) (y13 := some (.hdl O18.length)) c23
  have f24 : Fz O23 (O23 ++ [.dct kvs]) := fz_app
  have m24 : (O23 ++ [Ob.dct kvs])[O23.length]? = some (.dct kvs) := by rw [List.getElem?_append_right (Nat.le_refl _)]; simp
  obtain ⟨O24, hO24⟩ : ∃ O24, O23 ++ [Ob.dct kvs] = O24 := ⟨_, rfl⟩
  rw [hO24] at g24' f24 m24
  have c24 := c23.fr f24.fr
  have t24 := (((t20.fz f21).fz f22).fz f23).fz f24
  have l20 := f20.1
  have l21 := f21.1
  have l22 := f22.1
  have l23 := f23.1
  have lt23 : h < O23.length ∧ s < O23.length ∧ l < O23.length ∧ p < O23.length ∧ v < O23.length := by omega
  have q23 : O2.length < O23.length ∧ O4.length + 2 < O23.length := by
    have := (List.getElem?_eq_some_iff.mp c6.tb.em).1
    omega
  obtain ⟨pk, O25, g25', pk0, pk1, f25⟩ := s25_ok (w := w) (h := h) (d := O2.length) (n := O4.length) (sc := .rol (ns.map .int)) (hd := O3.length) (y8 := rowsL w M) (y9 := thL w M) (y10 := some (.hdl O11.length)) (y11 := y11) (y12 := y12) (y13 := some (.hdl O18.length)) (y14 := some (.hdl O23.length)) t24 (by omega)
  have c25 := c24.fr f25
  have m25 := f25.at (by omega) m24
  have g26' := s26_ok (w := w) (h := h) (d := O2.length) (n := O4.length) (sc := .rol (ns.map .int)) (hd := O3.length) (y8 := rowsL w M) (y9 := thL w M) (y10 := some (.hdl O11.length)) (y11 := y11) (y12 := y12) (y13 := some (.hdl O18.length)) pk0 pk1 m25 K.l
  have m26 : (O25.set O23.length (.dct (putKD kvs (.inr (badK pk)) (badV pk))))[O23.length]? = some (.dct (putKD kvs (.inr (badK pk)) (badV pk))) := set_at m25
  have c26 : Scn w M kvs h s l p v O2.length O4.length (O25.set O23.length (.dct (putKD kvs (.inr (badK pk)) (badV pk)))) := ⟨LandAt.setAt c25.la lt23, by rw [List.getElem?_set_ne (by omega)]; exact c25.dm, ⟨by rw [List.getElem?_set_ne (by omega)]; exact c25.tb.eo, by rw [List.getElem?_set_ne (by omega)]; exact c25.tb.er, by rw [List.getElem?_set_ne (by omega)]; exact c25.tb.em⟩, c25.d0, c25.n0⟩
  obtain ⟨O27, g27'⟩ := s27_ok (sc := .rol (ns.map .int)) (hd := O3.length) (y9 := thL w M) (y10 := some (.hdl O11.length)) (y11 := y11) (y12 := y12) (y13 := some (.hdl O18.length)) (y15 := some (.int pk)) k c26 R K pk0 pk1 (by omega) m26 lt23
  have eb : b_law (L0 (.rol (ns.map .int)) none none none none none none none) [] = .ret (.bl true) O27 := by
    rw [b_law_is, seq_next e0, seq_next g1', seq_next g2', seq_next g3', seq_next g4', seq_next g5', seq_next g6', seq_next g7', seq_next g8', seq_next g9', seq_next g10', seq_next g11', seq_next g12', seq_next g13', seq_next g14', seq_next g15', seq_next g16', seq_next g17', seq_next g18', seq_next g19', seq_next g20', seq_next g21', seq_next g22', seq_next g23', seq_next g24', seq_next g25', seq_next g26', g27']
  refine ⟨O27, ?_⟩
  show runF 20 b_law [.rol (ns.map .int)] [] = _
  unfold runF
  rw [show ([D.rol (ns.map .int)].map some ++ List.replicate (20 - [D.rol (ns.map .int)].length) none : Loc) = L0 (.rol (ns.map .int)) none none none none none none none from rfl, eb]
end DK.k18
end
theorem PySem.Challenge.cw_darkrise_k18_what_a_table_tells_holds : PySem.Challenge.rw_darkrise_k18_what_a_table_tells.Holds := by
  exact DK.k18.core DK.k18.law_holds
