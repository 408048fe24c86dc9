import PyProof.Rows.All
import Wide.All
import OpenK.AllK
import Wide.FinOn
import HandS.ForMost
import HandS.ForExc
import HandS.IsInst
import HandS.Wide
import HandS.CallSlots
import HandS.ExcIs
import HandS.Small
import HandS.RaiseMore
import HandS.TupAny
import HandS.SortOrd
import HandS.Flow
import HandS.Deep
import HandS.Defaults
import HandS.Head0
import HandS.Head1
import HandS.Head2
import HandS.HeadEnd
import HandS.HeadHook1
import HandS.HeadHook2
import HandS.HeadHook3
import HandS.HeadHook4
import HandS.Text
import HandS.Iter
import HandS.Replace
import HandS.StrMore
import HandS.More
import HandS.Dict
import HandS.Conv
import HandS.SortInts
import HandS.DictTup
import HandS.Rev
import PyProof.ListRange
import HandS.OwnEq
import KE.DataFind
import HandS.TryMany
import KE.SortData
import KE.DataMinMax
import HandS.DictComp
import HandS.Strs
import HandS.SetBool
import HandS.Style
import KE.DataCmp
import KE.DataEq
import HandS.DeepEq
import HandS.SetKeys
import PyProof.NeKinds
import HandS.ListEq
import PyProof.ExcBaseAll.ValueError
import KE.KExcSuper
import HandS.ExcInit
import HandS.ExcField
import KE.IntTextLaws
import KE.KDictSum
import HandS.ExcValue
import HandS.ExcInitHot
import HandS.SuiteRaise
import HandS.RaiseFrom
import KE.KAsSuite
import PySem.Challenge.RW_darkrise_k41_pieces_sectors_and_ties
section
set_option Elab.async false
set_option linter.all false
set_option autoImplicit false
set_option maxRecDepth 100000
set_option maxHeartbeats 4000000
/-! DKCore: values D, stores of objects, results; readings that are told by functions (mirrors). -/
namespace DK
open PySem L2
/-- a value of the mirror: lst, tup stand as they are for good; hdl n is the n-th object of the store -/
inductive D where
  | non
  | bl (b : Bool)
  | int (i : Int)
  | str (s : Str)
  | lst (xs : List D)
  | rol (xs : List D)
  | tup (xs : List D)
  | hdl (n : Nat)
inductive Ob where
  | lst (xs : List D)
  | dct (kvs : List (Key × D))
  | ins (c : Str) (fs : List (Str × D))
  | dead
  | fdc (kvs : List (Key × D))
abbrev Store := List Ob
abbrev Loc := List (Option D)
structure Exn where
  cls : Str
  fs : Option (List (Str × D)) := none
inductive Res (α : Type) where
  | ok (a : α) (O : Store)
  | exc (x : Exn) (O : Store)
  | bad
def Res.bind {α β : Type} (x : Res α) (f : α → Store → Res β) : Res β := match x with
  | .ok a O => f a O
  | .exc e O => .exc e O
  | .bad => .bad
abbrev EM := Loc → Store → Res D
abbrev TM := Loc → Store → Res Bool
abbrev AM := Loc → Store → Res (List D)
abbrev FM := List D → Store → Res D
inductive SR where
  | next (L : Loc) (O : Store)
  | ret (d : D) (O : Store)
  | brk (L : Loc) (O : Store)
  | cnt (L : Loc) (O : Store)
  | exc (x : Exn) (L : Loc) (O : Store)
  | bad
abbrev SM := Loc → Store → SR
/-- where the objects of the store stand; what else is kept -/
structure Rg where
  l : List Addr
  fr : Hp
def Rg.push (r : Rg) (p : Addr) : Rg := ⟨r.l ++ [p], r.fr⟩
/-! ### what stands for what -/
section
variable (K : PySem.W.Frag) (S : Hp) (r : Rg)
mutual
def Rp : D → V → Prop
  | .non, v => v = .non
  | .bl b, v => v = .bl b
  | .int i, v => v = .int i
  | .str s, v => v = .str s
  | .lst ds, v => ∃ a vs, v = .ref a ∧ S a = some (.lst vs) ∧ RpAll ds vs
  | .rol ds, v => ∃ a vs, v = .ref a ∧ SqL K S a vs ∧ RpAll ds vs
  | .tup ds, v => ∃ a vs, v = .ref a ∧ SqT K S a vs ∧ RpAll ds vs
  | .hdl n, v => ∃ a, v = .ref a ∧ r.l[n]? = some a
def RpAll : List D → List V → Prop
  | [], vs => vs = []
  | d :: ds, vs => ∃ v vr, vs = v :: vr ∧ Rp d v ∧ RpAll ds vr
end
def RpP {κ : Type} : List (κ × D) → List (κ × V) → Prop
  | [], ks => ks = []
  | kd :: kds, ks => ∃ v kr, ks = (kd.1, v) :: kr ∧ Rp K S r kd.2 v ∧ RpP kds kr
end
/-- the state grows -/
structure Ext (S : Hp) (r : Rg) (S' : Hp) (r' : Rg) : Prop where
  s : Same S S'
  f : r'.fr = r.fr
  r : r.l <+: r'.l
theorem Ext.refl (S : Hp) (r : Rg) : Ext S r S r := ⟨Same.refl S, rfl, List.prefix_rfl⟩
theorem Ext.trans {S S1 S2 : Hp} {r r1 r2 : Rg} (a : Ext S r S1 r1) (b : Ext S1 r1 S2 r2) : Ext S r S2 r2 := ⟨a.s.trans b.s, b.f.trans a.f, a.r.trans b.r⟩
theorem Ext.new {S : Hp} {r : Rg} {p : Addr} {o : HO} (h : S p = none) : Ext S r (upd S p o) r :=
  ⟨fun b u e => by rw [upd_ne (ne_of_none e h)]; exact e, rfl, List.prefix_rfl⟩
theorem rd_same {S S' : Hp} {a : Addr} {u : HO} (e : Same S S') (h : Rd S a u) : Rd S' a u := by
  rcases h with h | ⟨o, h⟩
  · exact .inl (e _ _ h)
  · exact .inr ⟨o, e _ _ h⟩
theorem sqL_same {K : PySem.W.Frag} {S S' : Hp} {a : Addr} {xs : List V} (e : Same S S') (h : SqL K S a xs) : SqL K S' a xs := by
  rcases h with h | h
  · exact .inl (rd_same e h)
  · exact .inr h
theorem sqT_same {K : PySem.W.Frag} {S S' : Hp} {a : Addr} {xs : List V} (e : Same S S') (h : SqT K S a xs) : SqT K S' a xs := by
  rcases h with h | h
  · exact .inl (rd_same e h)
  · exact .inr h
theorem pre_get {α : Type} {l m : List α} {n : Nat} {x : α} (p : l <+: m) (h : l[n]? = some x) : m[n]? = some x := by
  obtain ⟨t, rfl⟩ := p
  rw [List.getElem?_append_left (List.getElem?_eq_some_iff.mp h).1]
  exact h
section
variable {K : PySem.W.Frag} {S S' : Hp} {r r' : Rg}
mutual
theorem Rp.monoW (s : Same S S') (l : r.l <+: r'.l) : ∀ (d : D) (v : V), Rp K S r d v → Rp K S' r' d v
  | .non, v, h => h
  | .bl b, v, h => h
  | .int i, v, h => h
  | .str z, v, h => h
  | .lst ds, v, h => by
    obtain ⟨a, vs, q1, q2, q3⟩ := h
    exact ⟨a, vs, q1, s _ _ q2, RpAll.monoW s l ds vs q3⟩
  | .rol ds, v, h => by
    obtain ⟨a, vs, q1, q2, q3⟩ := h
    exact ⟨a, vs, q1, sqL_same s q2, RpAll.monoW s l ds vs q3⟩
  | .tup ds, v, h => by
    obtain ⟨a, vs, q1, q2, q3⟩ := h
    exact ⟨a, vs, q1, sqT_same s q2, RpAll.monoW s l ds vs q3⟩
  | .hdl n, v, h => by
    obtain ⟨a, q1, q2⟩ := h
    exact ⟨a, q1, pre_get l q2⟩
theorem RpAll.monoW (s : Same S S') (l : r.l <+: r'.l) : ∀ (ds : List D) (vs : List V), RpAll K S r ds vs → RpAll K S' r' ds vs
  | [], vs, h => h
  | d :: ds, vs, h => by
    obtain ⟨v, vr, q1, q2, q3⟩ := h
    exact ⟨v, vr, q1, Rp.monoW s l d v q2, RpAll.monoW s l ds vr q3⟩
end
theorem Rp.mono (e : Ext S r S' r') (d : D) (v : V) (h : Rp K S r d v) : Rp K S' r' d v := Rp.monoW e.s e.r d v h
theorem RpAll.mono (e : Ext S r S' r') (ds : List D) (vs : List V) (h : RpAll K S r ds vs) : RpAll K S' r' ds vs := RpAll.monoW e.s e.r ds vs h
theorem RpP.monoW {κ : Type} (s : Same S S') (l : r.l <+: r'.l) : ∀ (ds : List (κ × D)) (vs : List (κ × V)), RpP K S r ds vs → RpP K S' r' ds vs
  | [], vs, h => h
  | d :: ds, vs, h => by
    obtain ⟨v, vr, q1, q2, q3⟩ := h
    exact ⟨v, vr, q1, Rp.monoW s l d.2 v q2, RpP.monoW s l ds vr q3⟩
theorem RpP.mono {κ : Type} (e : Ext S r S' r') (ds : List (κ × D)) (vs : List (κ × V)) (h : RpP K S r ds vs) : RpP K S' r' ds vs := RpP.monoW e.s e.r ds vs h
theorem RpAll.length : ∀ {ds : List D} {vs : List V}, RpAll K S r ds vs → vs.length = ds.length
  | [], vs, h => by rw [show vs = [] from h]; rfl
  | d :: ds, vs, h => by
    obtain ⟨v, vr, rfl, _, q3⟩ := h
    rw [List.length_cons, List.length_cons, RpAll.length q3]
theorem RpAll.get : ∀ {ds : List D} {vs : List V} {i : Nat} {d : D}, RpAll K S r ds vs → ds[i]? = some d → ∃ v, vs[i]? = some v ∧ Rp K S r d v
  | [], _, i, d, _, e => by simp at e
  | x :: ds, vs, 0, d, h, e => by
    obtain ⟨v, vr, rfl, q, _⟩ := h
    obtain rfl : x = d := by simpa using e
    exact ⟨v, rfl, q⟩
  | x :: ds, vs, i + 1, d, h, e => by
    obtain ⟨v, vr, rfl, _, q⟩ := h
    exact RpAll.get (i := i) q (by simpa using e)
/-- from the other side -/
theorem RpAll.back : ∀ {ds : List D} {vs : List V} {i : Nat} {v : V}, RpAll K S r ds vs → vs[i]? = some v → ∃ d, ds[i]? = some d ∧ Rp K S r d v
  | [], vs, i, v, h, e => by
    rw [show vs = [] from h] at e
    simp at e
  | x :: ds, vs, 0, d, h, e => by
    obtain ⟨v, vr, rfl, q, _⟩ := h
    obtain rfl : v = d := by simpa using e
    exact ⟨x, rfl, q⟩
  | x :: ds, vs, i + 1, d, h, e => by
    obtain ⟨v, vr, rfl, _, q⟩ := h
    exact RpAll.back (i := i) q (by simpa using e)
theorem RpAll.append : ∀ {ds es : List D} {vs us : List V}, RpAll K S r ds vs → RpAll K S r es us → RpAll K S r (ds ++ es) (vs ++ us)
  | [], es, vs, us, h, g => by
    rw [show vs = [] from h]
    exact g
  | d :: ds, es, vs, us, h, g => by
    obtain ⟨v, vr, rfl, q, q2⟩ := h
    exact ⟨v, vr ++ us, rfl, q, q2.append g⟩
theorem RpAll.take : ∀ {ds : List D} {vs : List V} (n : Nat), RpAll K S r ds vs → RpAll K S r (ds.take n) (vs.take n)
  | ds, vs, 0, h => by
    rw [List.take_zero, List.take_zero]
    exact rfl
  | [], vs, n + 1, h => by
    rw [show vs = [] from h]
    exact rfl
  | d :: ds, vs, n + 1, h => by
    obtain ⟨v, vr, rfl, q, q2⟩ := h
    exact ⟨v, vr.take n, rfl, q, q2.take n⟩
theorem RpAll.drop : ∀ {ds : List D} {vs : List V} (n : Nat), RpAll K S r ds vs → RpAll K S r (ds.drop n) (vs.drop n)
  | ds, vs, 0, h => by
    rw [List.drop_zero, List.drop_zero]
    exact h
  | [], vs, n + 1, h => by
    rw [show vs = [] from h]
    exact rfl
  | d :: ds, vs, n + 1, h => by
    obtain ⟨v, vr, rfl, q, q2⟩ := h
    exact q2.drop n
theorem RpAll.set : ∀ {ds : List D} {vs : List V} {d : D} {v : V} (i : Nat), RpAll K S r ds vs → Rp K S r d v → RpAll K S r (ds.set i d) (vs.set i v)
  | [], vs, d, v, i, h, _ => by
    rw [show vs = [] from h]
    exact rfl
  | x :: ds, vs, d, v, 0, h, g => by
    obtain ⟨u, vr, rfl, q, q2⟩ := h
    exact ⟨v, vr, rfl, g, q2⟩
  | x :: ds, vs, d, v, i + 1, h, g => by
    obtain ⟨u, vr, rfl, q, q2⟩ := h
    exact ⟨u, vr.set i v, rfl, q, q2.set i g⟩
theorem RpAll.nil : RpAll K S r [] [] := rfl
theorem RpAll.cons {d : D} {v : V} {ds : List D} {vs : List V} (h : Rp K S r d v) (g : RpAll K S r ds vs) : RpAll K S r (d :: ds) (v :: vs) := ⟨v, vs, rfl, h, g⟩
end
/-! ### the state -/
section
variable (K : PySem.W.Frag) (ad : Str → Addr) (S : Hp) (r : Rg)
def RO (H : Hp) (a : Addr) : Ob → Prop
  | .lst ds => S a = none ∧ ∃ vs, H a = some (.lst vs) ∧ RpAll K S r ds vs
  | .dct kvs => S a = none ∧ ∃ ks, H a = some (.dK ks) ∧ RpP K S r kvs ks
  | .ins c fs => S a = none ∧ ∃ dx gs, H a = some (.ins (ad c) dx gs) ∧ RpP K S r fs gs
  | .dead => ∃ o, H a = some o
  | .fdc kvs => ∃ od ks, S a = some (.frz od (.dK ks)) ∧ H a = some (.frz od (.dK ks)) ∧ RpP K S r kvs ks
structure Rs (O : Store) (H : Hp) : Prop where
  sub : Same S H
  len : r.l.length = O.length
  nd : r.l.Nodup
  ob : ∀ (n : Nat) (a : Addr) (o : Ob), r.l[n]? = some a → O[n]? = some o → RO K ad S r H a o
  fr : Same r.fr H
  off : ∀ (a : Addr) (o : HO), r.fr a = some o → S a = none ∧ a ∉ r.l
/-- the slots -/
structure Rl (L : Loc) (σ : St) : Prop where
  len : σ.length = L.length
  at_ : ∀ (i : Nat) (d : D), L[i]? = some (some d) → ∃ v, σ[i]? = some (some v) ∧ Rp K S r d v
/-- an exception: its own dict stands for good -/
def ExR (x : Exn) (d : Option Addr) : Prop := match x.fs with
  | none => d = none
  | some fs => ∃ dd gs, d = some dd ∧ S dd = some (.xd gs) ∧ RpP K S r fs gs
end
section
variable {K : PySem.W.Frag} {ad : Str → Addr} {S S' : Hp} {r r' : Rg} {L : Loc} {σ : St} {O : Store} {H : Hp}
theorem Rl.mono (e : Ext S r S' r') (h : Rl K S r L σ) : Rl K S' r' L σ := ⟨h.len, fun i d q => by
  obtain ⟨v, q1, q2⟩ := h.at_ i d q
  exact ⟨v, q1, Rp.mono e d v q2⟩⟩
theorem RO.there {a : Addr} {o : Ob} (h : RO K ad S r H a o) : ∃ u, H a = some u := by
  cases o with
  | lst ds => obtain ⟨_, vs, q, _⟩ := h; exact ⟨_, q⟩
  | dct kvs => obtain ⟨_, vs, q, _⟩ := h; exact ⟨_, q⟩
  | ins c fs => obtain ⟨_, _, vs, q, _⟩ := h; exact ⟨_, q⟩
  | dead => exact h
  | fdc kvs => obtain ⟨od, ks, z, q, p⟩ := h; exact ⟨_, q⟩
theorem Rs.fresh (h : Rs K ad S r O H) {p : Addr} (hp : H p = none) : S p = none := h.sub.free hp
theorem Rs.notin (h : Rs K ad S r O H) {p : Addr} (hp : H p = none) : p ∉ r.l := fun hm => by
  obtain ⟨n, hn, e⟩ := List.getElem_of_mem hm
  have hO : n < O.length := by rw [← h.len]; exact hn
  obtain ⟨u, q⟩ := (h.ob n p O[n] (by rw [List.getElem?_eq_getElem hn, e]) (List.getElem?_eq_getElem hO)).there
  rw [hp] at q
  cases q
theorem RO.mono {a : Addr} {o : Ob} {H' : Hp} (e : Ext S r S' r') (k : ∀ u, H a = some u → H' a = some u) (n : S a = none → S' a = none) (h : RO K ad S r H a o) : RO K ad S' r' H' a o := by
  cases o with
  | lst ds => obtain ⟨z, vs, q, p⟩ := h; exact ⟨n z, vs, k _ q, RpAll.mono e _ _ p⟩
  | dct kvs => obtain ⟨z, vs, q, p⟩ := h; exact ⟨n z, vs, k _ q, RpP.mono e _ _ p⟩
  | ins c fs => obtain ⟨z, dx, vs, q, p⟩ := h; exact ⟨n z, dx, vs, k _ q, RpP.mono e _ _ p⟩
  | dead => obtain ⟨u, q⟩ := h; exact ⟨u, k _ q⟩
  | fdc kvs => obtain ⟨od, ks, z, q, p⟩ := h; exact ⟨od, ks, e.s _ _ z, k _ q, RpP.mono e _ _ p⟩
theorem same_upd {H' : Hp} {p : Addr} {o : HO} (h : Same H' H) (hp : H' p = none) : Same H' (upd H p o) := fun b u e => by
  rw [upd_ne (ne_of_none e hp)]
  exact h b u e
/-- a new thing that stands for good -/
theorem Rs.seal {p : Addr} {o : HO} (h : Rs K ad S r O H) (hp : H p = none) : Rs K ad (upd S p o) r O (upd H p o) where
  sub := fun b u e => by
    by_cases hb : b = p
    · rw [hb, upd_same] at e ⊢; exact e
    · rw [upd_ne hb] at e ⊢; exact h.sub b u e
  len := h.len
  nd := h.nd
  ob := fun n a ob e1 e2 => by
    have ne : a ≠ p := fun z => h.notin hp (by rw [← z]; exact List.mem_of_getElem? e1)
    exact (h.ob n a ob e1 e2).mono (Ext.new (h.fresh hp)) (fun u q => by rw [upd_ne ne]; exact q) (fun q => by rw [upd_ne ne]; exact q)
  fr := same_upd h.fr (h.fr.free hp)
  off := fun a u e => by
    have ne : a ≠ p := ne_of_none e (h.fr.free hp)
    rw [upd_ne ne]
    exact h.off a u e
/-- a thing that nobody knows -/
theorem Rs.junk {p : Addr} {o : HO} (h : Rs K ad S r O H) (hp : H p = none) : Rs K ad S r O (upd H p o) where
  sub := same_upd h.sub (h.fresh hp)
  len := h.len
  nd := h.nd
  ob := fun n a ob e1 e2 => by
    have ne : a ≠ p := fun z => h.notin hp (by rw [← z]; exact List.mem_of_getElem? e1)
    exact (h.ob n a ob e1 e2).mono (Ext.refl S r) (fun u q => by rw [upd_ne ne]; exact q) (fun q => q)
  fr := same_upd h.fr (h.fr.free hp)
  off := h.off
theorem Ext.push (S : Hp) (r : Rg) (p : Addr) : Ext S r S (r.push p) := ⟨Same.refl S, rfl, List.prefix_append r.l [p]⟩
theorem RO.grow {a p : Addr} {o : Ob} (h : RO K ad S r H a o) : RO K ad S (r.push p) H a o :=
  h.mono (Ext.push S r p) (fun _ q => q) (fun q => q)
/-- a new object of the store -/
theorem Rs.push {p : Addr} {u : HO} {o : Ob} (h : Rs K ad S r O H) (hp : H p = none) (ho : RO K ad S (r.push p) (upd H p u) p o) : Rs K ad S (r.push p) (O ++ [o]) (upd H p u) where
  sub := (h.junk (o := u) hp).sub
  len := by
    show (r.l ++ [p]).length = _
    rw [List.length_append, List.length_append, h.len]; rfl
  nd := by
    show (r.l ++ [p]).Nodup
    rw [List.nodup_append]
    refine ⟨h.nd, by simp, fun a ha b hb => ?_⟩
    obtain rfl : b = p := by simpa using hb
    exact fun z => h.notin hp (z ▸ ha)
  ob := fun n a ob e1 e2 => by
    replace e1 : (r.l ++ [p])[n]? = some a := e1
    by_cases hn : n < r.l.length
    · rw [List.getElem?_append_left hn] at e1
      rw [List.getElem?_append_left (by rw [← h.len]; exact hn)] at e2
      exact ((h.junk (o := u) hp).ob n a ob e1 e2).grow
    · have hn' : n = r.l.length := by
        have := (List.getElem?_eq_some_iff.mp e1).1
        rw [List.length_append] at this
        simp at this
        omega
      subst hn'
      rw [List.getElem?_append_right (Nat.le_refl _)] at e1
      rw [h.len, List.getElem?_append_right (Nat.le_refl _)] at e2
      simp at e1 e2
      subst e1 e2
      exact ho
  fr := same_upd h.fr (h.fr.free hp)
  off := fun a u e => ⟨(h.off a u e).1, fun hm => by
    rcases List.mem_append.mp (show a ∈ r.l ++ [p] from hm) with hm | hm
    · exact (h.off a u e).2 hm
    · obtain rfl : a = p := by simpa using hm
      replace e : r.fr a = some u := e
      rw [show r.fr a = none from h.fr.free hp] at e
      cases e⟩
theorem nd_get {l : List Addr} (h : l.Nodup) {i j : Nat} {a : Addr} (x : l[i]? = some a) (y : l[j]? = some a) : i = j := by
  obtain ⟨h1, e1⟩ := List.getElem?_eq_some_iff.mp x
  obtain ⟨h2, e2⟩ := List.getElem?_eq_some_iff.mp y
  exact (List.getElem_inj h).mp (e1.trans e2.symm)
theorem Rs.nofr (h : Rs K ad S r O H) {n : Nat} {a : Addr} (hn : r.l[n]? = some a) : r.fr a = none := by
  cases e : r.fr a with
  | none => rfl
  | some o => exact absurd (List.mem_of_getElem? hn) (h.off a o e).2
/-- an object of the store is written -/
theorem Rs.write {n : Nat} {a : Addr} {u : HO} {o : Ob} (h : Rs K ad S r O H) (hn : r.l[n]? = some a) (hz : S a = none) (ho : RO K ad S r (upd H a u) a o) : Rs K ad S r (O.set n o) (upd H a u) where
  sub := same_upd h.sub hz
  len := by rw [List.length_set]; exact h.len
  nd := h.nd
  ob := fun m b ob e1 e2 => by
    by_cases hm : m = n
    · subst hm
      rw [hn] at e1
      cases e1
      rw [List.getElem?_set_self (by rw [← h.len]; exact (List.getElem?_eq_some_iff.mp hn).1)] at e2
      cases e2
      exact ho
    · rw [List.getElem?_set_ne (Ne.symm hm)] at e2
      have ne : b ≠ a := fun z => hm (nd_get h.nd e1 (z ▸ hn))
      exact (h.ob m b ob e1 e2).mono (Ext.refl S r) (fun w q => by rw [upd_ne ne]; exact q) (fun q => q)
  fr := same_upd h.fr (h.nofr hn)
  off := h.off
/-- an object of the store is let be for good -/
theorem Rs.freeze {n : Nat} {a : Addr} {vs : List V} (h : Rs K ad S r O H) (hn : r.l[n]? = some a) (hz : S a = none) (ha : H a = some (.lst vs)) : Rs K ad (upd S a (.lst vs)) r (O.set n .dead) H where
  sub := fun b w e => by
    by_cases hb : b = a
    · rw [hb, upd_same] at e
      rw [hb, ha]; exact e
    · rw [upd_ne hb] at e; exact h.sub b w e
  len := by rw [List.length_set]; exact h.len
  nd := h.nd
  ob := fun m b ob e1 e2 => by
    by_cases hm : m = n
    · subst hm
      rw [hn] at e1
      cases e1
      rw [List.getElem?_set_self (by rw [← h.len]; exact (List.getElem?_eq_some_iff.mp hn).1)] at e2
      cases e2
      exact ⟨_, ha⟩
    · rw [List.getElem?_set_ne (Ne.symm hm)] at e2
      have ne : b ≠ a := fun z => hm (nd_get h.nd e1 (z ▸ hn))
      exact (h.ob m b ob e1 e2).mono (Ext.new hz) (fun w q => q) (fun q => by rw [upd_ne ne]; exact q)
  fr := h.fr
  off := fun b o e => ⟨by
    rw [upd_ne (ne_of_none e (h.nofr hn))]
    exact (h.off b o e).1, (h.off b o e).2⟩
def Rg.at (r : Rg) (f : Hp) : Rg := ⟨r.l, f⟩
theorem RO.at_ {a : Addr} {o : Ob} {f : Hp} (h : RO K ad S r H a o) : RO K ad S (r.at f) H a o := by
  have l : r.l <+: (r.at f).l := List.prefix_rfl
  cases o with
  | lst ds => obtain ⟨z, vs, q, p⟩ := h; exact ⟨z, vs, q, RpAll.monoW (Same.refl S) l _ _ p⟩
  | dct kvs => obtain ⟨z, vs, q, p⟩ := h; exact ⟨z, vs, q, RpP.monoW (Same.refl S) l _ _ p⟩
  | ins c fs => obtain ⟨z, dx, vs, q, p⟩ := h; exact ⟨z, dx, vs, q, RpP.monoW (Same.refl S) l _ _ p⟩
  | dead => obtain ⟨u, q⟩ := h; exact ⟨u, q⟩
  | fdc kvs => obtain ⟨od, ks, z, q, p⟩ := h; exact ⟨od, ks, z, q, RpP.monoW (Same.refl S) l _ _ p⟩
/-- a new thing is kept for a while -/
theorem Rs.hold {p : Addr} {o : HO} (h : Rs K ad S r O H) (hp : H p = none) : Rs K ad S (r.at (upd r.fr p o)) O (upd H p o) where
  sub := (h.junk (o := o) hp).sub
  len := h.len
  nd := h.nd
  ob := fun n a u e1 e2 => ((h.junk (o := o) hp).ob n a u e1 e2).at_
  fr := fun b u e => by
    replace e : upd r.fr p o b = some u := e
    by_cases hb : b = p
    · rw [hb, upd_same] at e ⊢; exact e
    · rw [upd_ne hb] at e ⊢; exact h.fr b u e
  off := fun a u e => by
    replace e : upd r.fr p o a = some u := e
    by_cases hb : a = p
    · rw [hb]; exact ⟨h.fresh hp, h.notin hp⟩
    · rw [upd_ne hb] at e; exact h.off a u e
/-- what is held changes -/
theorem Rs.rehold {p : Addr} {o u : HO} {f : Hp} (h : Rs K ad S (r.at (upd f p o)) O H) : Rs K ad S (r.at (upd f p u)) O (upd H p u) where
  sub := same_upd h.sub (h.off p o upd_same).1
  len := h.len
  nd := h.nd
  ob := fun n a w e1 e2 => by
    have ne : a ≠ p := fun z => (h.off p o upd_same).2 (z ▸ List.mem_of_getElem? e1)
    have q := h.ob n a w e1 e2
    have q1 : RO K ad S r H a w := RO.at_ (r := r.at (upd f p o)) (f := r.fr) q
    exact (q1.mono (Ext.refl S r) (fun w q => by rw [upd_ne ne]; exact q) (fun q => q)).at_
  fr := fun b w e => by
    replace e : upd f p u b = some w := e
    by_cases hb : b = p
    · rw [hb, upd_same] at e ⊢; exact e
    · rw [upd_ne hb] at e ⊢
      exact h.fr b w (by show upd f p o b = some w; rw [upd_ne hb]; exact e)
  off := fun a w e => by
    replace e : upd f p u a = some w := e
    by_cases hb : a = p
    · rw [hb]; exact h.off p o upd_same
    · rw [upd_ne hb] at e
      exact h.off a w (by show upd f p o a = some w; rw [upd_ne hb]; exact e)
/-- it is let go -/
theorem Rs.unhold {p : Addr} {o : HO} (h : Rs K ad S (r.at (upd r.fr p o)) O H) (hf : r.fr p = none) : Rs K ad S r O H ∧ H p = some o ∧ S p = none ∧ p ∉ r.l := by
  refine ⟨⟨h.sub, h.len, h.nd, fun n a w e1 e2 => RO.at_ (r := r.at (upd r.fr p o)) (f := r.fr) (h.ob n a w e1 e2), fun b w e => ?_, fun a w e => ?_⟩, h.fr p o upd_same, (h.off p o upd_same).1, (h.off p o upd_same).2⟩
  · exact h.fr b w (by show upd r.fr p o b = some w; rw [upd_ne (ne_of_none e hf)]; exact e)
  · exact h.off a w (by show upd r.fr p o a = some w; rw [upd_ne (ne_of_none e hf)]; exact e)
/-- .. sealed -/
theorem Rs.sealAt {p : Addr} {o : HO} (h : Rs K ad S r O H) (hH : H p = some o) (hS : S p = none) (hl : p ∉ r.l) (hf : r.fr p = none) : Rs K ad (upd S p o) r O H where
  sub := fun b u e => by
    by_cases hb : b = p
    · rw [hb, upd_same] at e; rw [hb, hH]; exact e
    · rw [upd_ne hb] at e; exact h.sub b u e
  len := h.len
  nd := h.nd
  ob := fun n a ob e1 e2 => by
    have ne : a ≠ p := fun z => hl (by rw [← z]; exact List.mem_of_getElem? e1)
    exact (h.ob n a ob e1 e2).mono (Ext.new hS) (fun u q => q) (fun q => by rw [upd_ne ne]; exact q)
  fr := h.fr
  off := fun a u e => ⟨by rw [upd_ne (ne_of_none e hf)]; exact (h.off a u e).1, (h.off a u e).2⟩
/-- .. put into the store -/
theorem Rs.pushAt {p : Addr} {o : Ob} (h : Rs K ad S r O H) (ho : RO K ad S (r.push p) H p o) (hl : p ∉ r.l) (hf : r.fr p = none) : Rs K ad S (r.push p) (O ++ [o]) H where
  sub := h.sub
  len := by
    show (r.l ++ [p]).length = _
    rw [List.length_append, List.length_append, h.len]; rfl
  nd := by
    show (r.l ++ [p]).Nodup
    rw [List.nodup_append]
    refine ⟨h.nd, by simp, fun a ha b hb => ?_⟩
    obtain rfl : b = p := by simpa using hb
    exact fun z => hl (z ▸ ha)
  ob := fun n a ob e1 e2 => by
    replace e1 : (r.l ++ [p])[n]? = some a := e1
    by_cases hn : n < r.l.length
    · rw [List.getElem?_append_left hn] at e1
      rw [List.getElem?_append_left (by rw [← h.len]; exact hn)] at e2
      exact (h.ob n a ob e1 e2).grow
    · have hn' : n = r.l.length := by
        have := (List.getElem?_eq_some_iff.mp e1).1
        rw [List.length_append] at this
        simp at this
        omega
      subst hn'
      rw [List.getElem?_append_right (Nat.le_refl _)] at e1
      rw [h.len, List.getElem?_append_right (Nat.le_refl _)] at e2
      simp at e1 e2
      subst e1 e2
      exact ho
  fr := h.fr
  off := fun a u e => ⟨(h.off a u e).1, fun hm => by
    rcases List.mem_append.mp (show a ∈ r.l ++ [p] from hm) with hm | hm
    · exact (h.off a u e).2 hm
    · obtain rfl : a = p := by simpa using hm
      replace e : r.fr a = some u := e
      rw [hf] at e
      cases e⟩
/-- the last object of the store is forgotten -/
theorem Rs.pop {p : Addr} {o : Ob} (h : Rs K ad S (r.push p) (O ++ [o]) H) (ho : ∀ (n : Nat) (a : Addr) (u : Ob), r.l[n]? = some a → O[n]? = some u → RO K ad S r H a u) : Rs K ad S r O H where
  sub := h.sub
  len := by
    have := h.len
    replace this : (r.l ++ [p]).length = _ := this
    rw [List.length_append, List.length_append] at this
    simpa using this
  nd := (List.nodup_append.mp (show (r.l ++ [p]).Nodup from h.nd)).1
  ob := ho
  fr := h.fr
  off := fun a u e => ⟨(h.off a u e).1, fun hm => (h.off a u e).2 (List.mem_append_left _ hm)⟩
end
/-- what else holds of the slots and of what stands for good -/
structure JP where
  p : St → Hp → Prop
  mono : ∀ {σ : St} {S S' : Hp}, Same S S' → p σ S → p σ S'
/-! ### posts -/
section
variable (K : PySem.W.Frag) (ad : Str → Addr)
def Post {α β : Type} (rep : Hp → Rg → α → β → Prop) (W : WX) (σ : St) (S : Hp) (r : Rg) (Q : β → Hp → Prop) : Res α → Prop
  | .ok a O => ∀ S' r' H v, Ext S r S' r' → Rs K ad S' r' O H → rep S' r' a v → Q v H
  | .exc x O => ∀ S' r' H d, Ext S r S' r' → Rs K ad S' r' O H → ExR K S' r' x d → W (.ref (ad x.cls)) d σ H
  | .bad => False
def tE (J : JP) (W : WX) (m : EM) : TE := fun σ H Q => ∃ S r L O, J.p σ S ∧ Rl K S r L σ ∧ Rs K ad S r O H ∧ Post K ad (fun S r => Rp K S r) W σ S r Q (m L O)
def tT (J : JP) (W : WX) (m : TM) : TT := fun σ H Q => ∃ S r L O, J.p σ S ∧ Rl K S r L σ ∧ Rs K ad S r O H ∧ Post K ad (fun _ _ a v => v = a) W σ S r Q (m L O)
def tA (J : JP) (W : WX) (m : AM) : TA := fun σ H Q => ∃ S r L O, J.p σ S ∧ Rl K S r L σ ∧ Rs K ad S r O H ∧ Post K ad (fun S r => RpAll K S r) W σ S r Q (m L O)
def PostS (J : JP) (W : WX) (S : Hp) (r : Rg) (En : Ends) : SR → Prop
  | .next L O => ∀ S' r' σ H, Ext S r S' r' → J.p σ S' → Rl K S' r' L σ → Rs K ad S' r' O H → En.nx σ H
  | .ret d O => ∀ S' r' H v, Ext S r S' r' → Rs K ad S' r' O H → Rp K S' r' d v → En.rt v H
  | .brk L O => ∀ S' r' σ H, Ext S r S' r' → J.p σ S' → Rl K S' r' L σ → Rs K ad S' r' O H → En.bk σ H
  | .cnt L O => ∀ S' r' σ H, Ext S r S' r' → J.p σ S' → Rl K S' r' L σ → Rs K ad S' r' O H → En.ct σ H
  | .exc x L O => ∀ S' r' σ H d, Ext S r S' r' → J.p σ S' → Rl K S' r' L σ → Rs K ad S' r' O H → ExR K S' r' x d → W (.ref (ad x.cls)) d σ H
  | .bad => False
def tS (J : JP) (W : WX) (m : SM) : TS := fun En σ H => ∃ S r L O, J.p σ S ∧ Rl K S r L σ ∧ Rs K ad S r O H ∧ PostS K ad J W S r En (m L O)
/-- the promise of a def that its mirror tells -/
def spM (n : Nat) (m : FM) : Sp := fun vs H Q E => ∃ S r O ds, ds.length = n ∧ Rs K ad S r O H ∧ RpAll K S r ds vs ∧ Post K ad (fun S r => Rp K S r) (fun c d _ H' => E c d H') [] S r Q (m ds O)
end
section
variable {K : PySem.W.Frag} {ad : Str → Addr} {α β γ δ : Type} {rep : Hp → Rg → α → β → Prop} {rep2 : Hp → Rg → γ → δ → Prop} {W : WX} {σ : St} {S S' : Hp} {r r' : Rg} {Q Q' : β → Hp → Prop} {x : Res α}
theorem Post.mono (e : Ext S r S' r') (h : Post K ad rep W σ S r Q x) : Post K ad rep W σ S' r' Q x := by
  cases x with
  | ok a O => exact fun S2 r2 H v e2 => h S2 r2 H v (e.trans e2)
  | exc a O => exact fun S2 r2 H v e2 => h S2 r2 H v (e.trans e2)
  | bad => exact h
theorem Post.imp (h : Post K ad rep W σ S r Q x) (k : ∀ v H, Q v H → Q' v H) : Post K ad rep W σ S r Q' x := by
  cases x with
  | ok a O => exact fun S2 r2 H v e2 s p => k _ _ (h S2 r2 H v e2 s p)
  | exc a O => exact h
  | bad => exact h
theorem Post.bind {R : δ → Hp → Prop} {f : α → Store → Res γ} (h : Post K ad rep2 W σ S r R (x.bind f)) :
    Post K ad rep W σ S r (fun v H => ∃ S' r' a O, Ext S r S' r' ∧ Rs K ad S' r' O H ∧ rep S' r' a v ∧ Post K ad rep2 W σ S' r' R (f a O)) x := by
  cases x with
  | ok a O => exact fun S2 r2 H v e2 s p => ⟨S2, r2, a, O, e2, s, p, Post.mono e2 h⟩
  | exc a O => exact h
  | bad => exact h
/-- at the end -/
theorem Post.fin {a : α} {O : Store} {H : Hp} {v : β} (h : Post K ad rep W σ S r Q (.ok a O)) (e : Ext S r S' r') (s : Rs K ad S' r' O H) (p : rep S' r' a v) : Q v H := h S' r' H v e s p
end
theorem pe_imp {X : Cx} {e : Expr} {t t' : TE} (h : PE X e t) (k : ∀ σ H Q, t' σ H Q → t σ H Q) : PE X e t' := ⟨fun pins s σ H Q I q => h.run pins s σ H Q I (k σ H Q q)⟩
theorem pt_imp {X : Cx} {e : Expr} {t t' : TT} (h : PT X e t) (k : ∀ σ H Q, t' σ H Q → t σ H Q) : PT X e t' := ⟨fun pins s σ H Q I q => h.run pins s σ H Q I (k σ H Q q)⟩
theorem pa_imp {X : Cx} {e : List Expr} {t t' : TA} (h : PA X e t) (k : ∀ σ H Q, t' σ H Q → t σ H Q) : PA X e t' := ⟨fun pos pins s σ H Q I q => h.run pos pins s σ H Q I (k σ H Q q)⟩
theorem ps_imp {X : Cx} {e : Stmt} {t t' : TS} (h : PS X e t) (k : ∀ En σ H, t' En σ H → t En σ H) : PS X e t' := ⟨fun pins s σ H En I q => h.run pins s σ H En I (k En σ H q)⟩
theorem pss_imp {X : Cx} {e : List Stmt} {t t' : TS} (h : PSs X e t) (k : ∀ En σ H, t' En σ H → t En σ H) : PSs X e t' := ⟨fun pins s σ H En I q => h.run pins s σ H En I (k En σ H q)⟩
end DK
end
section
set_option Elab.async false
set_option linter.all false
set_option autoImplicit false
set_option maxRecDepth 100000
set_option maxHeartbeats 4000000
/-! DKExp: expressions and tests, by mirrors. -/
namespace DK
open PySem L2
def ofO {α : Type} : Option (α × Store) → Res α
  | some (z, O) => .ok z O
  | none => .bad
/-! ### mirrors -/
def mVar (i : Nat) : EM := fun L O => match L[i]? with
  | some (some d) => .ok d O
  | _ => .bad
def mC (d : D) : EM := fun _ O => .ok d O
def mOp (g : Store → D → D → Option (D × Store)) (a b : EM) : EM := fun L O => (a L O).bind fun x O1 => (b L O1).bind fun y O2 => ofO (g O2 x y)
def mChain (g g' : Store → D → D → Option (D × Store)) (a b c : EM) : EM := fun L O => (a L O).bind fun x O1 => (b L O1).bind fun y O2 => (ofO (g O2 x y)).bind fun z O3 => match z with
  | .bl true => (c L O3).bind fun w O4 => ofO (g' O4 y w)
  | .bl false => .ok (.bl false) O3
  | _ => .bad
def mTest (a : EM) : TM := fun L O => (a L O).bind fun x O1 => match x with
  | .bl b => .ok b O1
  | _ => .bad
def truD (O : Store) : D → Option Bool
  | .non => some false
  | .bl b => some b
  | .int i => some (i != 0)
  | .str s => if s.length ≤ 1000000 then some ((s.length : Int) != 0) else none
  | .lst xs => some (!xs.isEmpty)
  | .rol xs => some (!xs.isEmpty)
  | .tup xs => some (!xs.isEmpty)
  | .hdl n => match O[n]? with
    | some (.lst xs) => some (!xs.isEmpty)
    | some (.dct xs) => some (!xs.isEmpty)
    | _ => none
def mTru (a : EM) : TM := fun L O => (a L O).bind fun x O1 => match truD O1 x with
  | some b => .ok b O1
  | none => .bad
def mAnd (a b : TM) : TM := fun L O => (a L O).bind fun c O1 => if c = true then b L O1 else .ok false O1
def mOr (a b : TM) : TM := fun L O => (a L O).bind fun c O1 => if c = true then .ok true O1 else b L O1
def mNot (a : TM) : TM := fun L O => (a L O).bind fun c O1 => .ok (!c) O1
def mIf (t : TM) (a b : EM) : EM := fun L O => (t L O).bind fun c O1 => if c = true then a L O1 else b L O1
/-- and, or, not of bools, as values -/
def mAndV (a b : EM) : EM := fun L O => (a L O).bind fun c O1 => match c with
  | .bl true => b L O1
  | .bl false => .ok (.bl false) O1
  | _ => .bad
def mOrV (a b : EM) : EM := fun L O => (a L O).bind fun c O1 => match c with
  | .bl true => .ok (.bl true) O1
  | .bl false => b L O1
  | _ => .bad
def mNotV (a : EM) : EM := fun L O => (a L O).bind fun c O1 => match c with
  | .bl b => .ok (.bl (!b)) O1
  | _ => .bad
def mNil : AM := fun _ O => .ok [] O
def mCons (a : EM) (t : AM) : AM := fun L O => (a L O).bind fun x O1 => (t L O1).bind fun xs O2 => .ok (x :: xs) O2
def mTup (t : AM) : EM := fun L O => (t L O).bind fun xs O1 => if xs.length ≤ 1000000 then .ok (.tup xs) O1 else .bad
/-- a new list: for good, or one of the store -/
def newL (h : Bool) (xs : List D) (O : Store) : Res D := if xs.length ≤ 1000000 then (if h = true then .ok (.hdl O.length) (O ++ [.lst xs]) else .ok (.lst xs) O) else .bad
def mLst (h : Bool) (t : AM) : EM := fun L O => (t L O).bind fun xs O1 => newL h xs O1
def mCall (g : Store → List D → Option (D × Store)) (t : AM) : EM := fun L O => (t L O).bind fun xs O1 => ofO (g O1 xs)
def mFn (f : FM) (ds : List D) (t : AM) : EM := fun L O => (t L O).bind fun xs O1 => f (xs ++ ds) O1
/-! ### the state's lists -/
def seqOf (O : Store) : D → Option (List D)
  | .lst xs => some xs
  | .rol xs => some xs
  | .tup xs => some xs
  | .hdl n => match O[n]? with
    | some (.lst xs) => some xs
    | _ => none
  | _ => none
/-- lists that are tracked -/
def lstOf (O : Store) : D → Option (List D)
  | .lst xs => some xs
  | .hdl n => match O[n]? with
    | some (.lst xs) => some xs
    | _ => none
  | _ => none
section
variable {K : PySem.W.Frag} {ad : Str → Addr} {S : Hp} {r : Rg} {O : Store} {H : Hp} {d : D} {x : V} {xs : List D}
theorem hdl_at (s : Rs K ad S r O H) {n : Nat} {o : Ob} (p : Rp K S r (.hdl n) x) (h : O[n]? = some o) : ∃ a, x = .ref a ∧ r.l[n]? = some a ∧ RO K ad S r H a o := by
  obtain ⟨a, e, q⟩ := p
  exact ⟨a, e, q, s.ob n a o q h⟩
theorem seqOf_ok (s : Rs K ad S r O H) (p : Rp K S r d x) (h : seqOf O d = some xs) : ∃ a vs, x = .ref a ∧ (SqL K H a vs ∨ SqT K H a vs) ∧ RpAll K S r xs vs := by
  cases d with
  | lst ds =>
    obtain rfl : ds = xs := Option.some.inj h
    obtain ⟨a, vs, e, q, w⟩ := p
    exact ⟨a, vs, e, .inl (.of (s.sub _ _ q)), w⟩
  | rol ds =>
    obtain rfl : ds = xs := Option.some.inj h
    obtain ⟨a, vs, e, q, w⟩ := p
    exact ⟨a, vs, e, .inl (sqL_same s.sub q), w⟩
  | tup ds =>
    obtain rfl : ds = xs := Option.some.inj h
    obtain ⟨a, vs, e, q, w⟩ := p
    exact ⟨a, vs, e, .inr (sqT_same s.sub q), w⟩
  | hdl n =>
    have h' : (match O[n]? with | some (Ob.lst xs) => some xs | _ => none) = some xs := h
    split at h'
    · rename_i zs e
      obtain rfl : zs = xs := Option.some.inj h'
      obtain ⟨a, e1, e2, _, vs, e3, e4⟩ := hdl_at s p e
      exact ⟨a, vs, e1, .inl (.of e3), e4⟩
    · cases h'
  | non => cases h
  | bl b => cases h
  | int i => cases h
  | str z => cases h
theorem lstOf_ok (s : Rs K ad S r O H) (p : Rp K S r d x) (h : lstOf O d = some xs) : ∃ a vs, x = .ref a ∧ H a = some (.lst vs) ∧ RpAll K S r xs vs := by
  cases d with
  | lst ds =>
    obtain rfl : ds = xs := Option.some.inj h
    obtain ⟨a, vs, e, q, w⟩ := p
    exact ⟨a, vs, e, s.sub _ _ q, w⟩
  | hdl n =>
    have h' : (match O[n]? with | some (Ob.lst xs) => some xs | _ => none) = some xs := h
    split at h'
    · rename_i zs e
      obtain rfl : zs = xs := Option.some.inj h'
      obtain ⟨a, e1, e2, _, vs, e3, e4⟩ := hdl_at s p e
      exact ⟨a, vs, e1, e3, e4⟩
    · cases h'
  | rol ds => cases h
  | tup ds => cases h
  | non => cases h
  | bl b => cases h
  | int i => cases h
  | str z => cases h
theorem million {n : Nat} (h : n ≤ 1000000) : n ≤ sizeLine := Nat.le_trans h (by decide)
theorem million_lt {n : Nat} (h : n ≤ 1000000) : n < sizeLine := Nat.lt_of_le_of_lt h (by decide)
/-- a new list comes -/
theorem newL_post {W : WX} {σ : L2.St} {hm : Bool} {Q : VK} {vs : List V} (s : Rs K ad S r O H) (p : RpAll K S r xs vs) (q : Post K ad (fun S r => Rp K S r) W σ S r Q (newL hm xs O)) : vs.length ≤ sizeLine ∧ ∀ l, H l = none → Q (.ref l) (upd H l (.lst vs)) := by
  unfold newL at q
  split at q
  · rename_i hl
    refine ⟨by rw [p.length]; exact million hl, fun l hn => ?_⟩
    cases hm with
    | true =>
      rw [if_pos rfl] at q
      refine q S (r.push l) _ _ (Ext.push S r l) (s.push hn ⟨s.fresh hn, vs, upd_same, RpAll.mono (Ext.push S r l) _ _ p⟩) ⟨l, rfl, ?_⟩
      show (r.l ++ [l])[O.length]? = some l
      rw [← s.len, List.getElem?_append_right (Nat.le_refl _)]
      simp
    | false =>
      rw [if_neg Bool.false_ne_true] at q
      exact q _ r _ _ (Ext.new (s.fresh hn)) (s.seal hn) ⟨l, vs, rfl, upd_same, RpAll.mono (Ext.new (s.fresh hn)) _ _ p⟩
  · exact q.elim
/-- a new tuple comes -/
theorem newT_post {W : WX} {σ : L2.St} {Q : VK} {vs : List V} (s : Rs K ad S r O H) (p : RpAll K S r xs vs) (q : Post K ad (fun S r => Rp K S r) W σ S r Q (.ok (.tup xs) O)) : ∀ l, H l = none → Q (.ref l) (upd H l (.tup vs)) := fun l hn =>
  q _ r _ _ (Ext.new (s.fresh hn)) (s.seal hn) ⟨l, vs, rfl, .of upd_same, RpAll.mono (Ext.new (s.fresh hn)) _ _ p⟩
end
/-! ### operators by values -/
structure OpD (X : Cx) (ad : Str → Addr) (f : Value → Value → Sem Value) (g : Store → D → D → Option (D × Store)) : Prop where
  ok : ∃ rr, OpR X f rr ∧ ∀ (S : Hp) (r : Rg) (O : Store) (H : Hp) (x y : V) (d e : D) (W : WX) (σ : L2.St) (Q : VK), Rs X.K ad S r O H → Rp X.K S r d x → Rp X.K S r e y →
    Post X.K ad (fun S r => Rp X.K S r) W σ S r Q (ofO (g O d e)) → rr x y H Q
structure CallD (X : Cx) (ad : Str → Addr) (f : Value) (g : Store → List D → Option (D × Store)) : Prop where
  ok : ∃ rr, CallR X f rr ∧ ∀ (S : Hp) (r : Rg) (O : Store) (H : Hp) (vs : List V) (ds : List D) (W : WX) (σ : L2.St) (Q : VK), Rs X.K ad S r O H → RpAll X.K S r ds vs →
    Post X.K ad (fun S r => Rp X.K S r) W σ S r Q (ofO (g O ds)) → rr vs H Q
section
variable {X : Cx} {ad : Str → Addr} {J : JP} {W : WX} {pos : Pos} {a b c e : Expr} {es : List Expr} {ma mb mc : EM} {ta tb : TM} {mt : AM} {op op' : CmpOp} {bop : Operator}
  {g g' : Store → D → D → Option (D × Store)}
theorem de_var {x : Str} {i : Nat} (h : PE X (.Name x pos) (tVar i)) : PE X (.Name x pos) (tE X.K ad J W (mVar i)) := by
  refine pe_imp h ?_
  rintro σ H Q ⟨S, r, L, O, j, rl, rs, p⟩
  unfold mVar at p
  split at p
  · rename_i d q
    obtain ⟨v, q1, q2⟩ := rl.at_ i d q
    exact ⟨v, q1, p S r H v (Ext.refl S r) rs q2⟩
  · exact p.elim
theorem de_c {v : V} {d : D} (h : PE X e (tC v)) (k : ∀ S r, Rp X.K S r d v) : PE X e (tE X.K ad J W (mC d)) := by
  refine pe_imp h ?_
  rintro σ H Q ⟨S, r, L, O, j, rl, rs, p⟩
  exact p S r H v (Ext.refl S r) rs (k S r)
theorem de_int {i : Int} {j : Nat} : PE X (.Constant (.int i) j pos) (tE X.K ad J W (mC (.int i))) := de_c pe_int fun _ _ => rfl
theorem de_bl {i : Bool} {j : Nat} : PE X (.Constant (.bool i) j pos) (tE X.K ad J W (mC (.bl i))) := de_c pe_bl fun _ _ => rfl
theorem de_str {i : Str} {j : Nat} : PE X (.Constant (.str i) j pos) (tE X.K ad J W (mC (.str i))) := de_c pe_str fun _ _ => rfl
theorem de_non {j : Nat} : PE X (.Constant .none j pos) (tE X.K ad J W (mC .non)) := de_c pe_non fun _ _ => rfl
theorem de_op (ho : OpD X ad (binaryOp bop) g) (ha : PE X a (tE X.K ad J W ma)) (hb : PE X b (tE X.K ad J W mb)) : PE X (.BinOp a bop b pos) (tE X.K ad J W (mOp g ma mb)) := by
  obtain ⟨rr, h1, h2⟩ := ho.ok
  refine pe_imp (pe_op h1 ha hb) ?_
  rintro σ H Q ⟨S, r, L, O, j, rl, rs, p⟩
  refine ⟨S, r, L, O, j, rl, rs, (Post.bind p).imp ?_⟩
  rintro x H1 ⟨S1, r1, d, O1, e1, s1, p1, q1⟩
  refine ⟨S1, r1, L, O1, J.mono e1.s j, rl.mono e1, s1, (Post.bind q1).imp ?_⟩
  rintro y H2 ⟨S2, r2, e, O2, e2, s2, p2, q2⟩
  exact h2 S2 r2 O2 H2 x y d e W σ Q s2 (Rp.mono e2 d x p1) p2 q2
theorem de_cmp (ho : OpD X ad (compareOp op) g) (ha : PE X a (tE X.K ad J W ma)) (hb : PE X b (tE X.K ad J W mb)) (hm : behindInMarks op b = false) : PE X (.Compare a [op] [b] pos) (tE X.K ad J W (mOp g ma mb)) := by
  obtain ⟨rr, h1, h2⟩ := ho.ok
  refine pe_imp (pe_cmpR h1 ha hb hm) ?_
  rintro σ H Q ⟨S, r, L, O, j, rl, rs, p⟩
  refine ⟨S, r, L, O, j, rl, rs, (Post.bind p).imp ?_⟩
  rintro x H1 ⟨S1, r1, d, O1, e1, s1, p1, q1⟩
  refine ⟨S1, r1, L, O1, J.mono e1.s j, rl.mono e1, s1, (Post.bind q1).imp ?_⟩
  rintro y H2 ⟨S2, r2, e, O2, e2, s2, p2, q2⟩
  exact h2 S2 r2 O2 H2 x y d e W σ Q s2 (Rp.mono e2 d x p1) p2 q2
theorem test_imp {t : TE} {m : EM} (h : ∀ σ H Q, tE X.K ad J W m σ H Q → t σ H Q) : ∀ σ H Q, tT X.K ad J W (mTest m) σ H Q → tTest t σ H Q := by
  rintro σ H Q ⟨S, r, L, O, j, rl, rs, p⟩
  refine h σ H _ ⟨S, r, L, O, j, rl, rs, (Post.bind p).imp ?_⟩
  rintro x H1 ⟨S1, r1, d, O1, e1, s1, p1, q1⟩
  cases d with
  | bl b => exact ⟨b, p1, q1 S1 r1 H1 b (Ext.refl _ _) s1 rfl⟩
  | non => exact q1.elim
  | int i => exact q1.elim
  | str s => exact q1.elim
  | lst s => exact q1.elim
  | rol s => exact q1.elim
  | tup s => exact q1.elim
  | hdl s => exact q1.elim
theorem dt_cmp (ho : OpD X ad (compareOp op) g) (ha : PE X a (tE X.K ad J W ma)) (hb : PE X b (tE X.K ad J W mb)) (hm : behindInMarks op b = false) : PT X (.Compare a [op] [b] pos) (tT X.K ad J W (mTest (mOp g ma mb))) := by
  obtain ⟨rr, h1, h2⟩ := ho.ok
  refine pt_imp (pt_cmpR h1 ha hb hm) (test_imp ?_)
  rintro σ H Q ⟨S, r, L, O, j, rl, rs, p⟩
  refine ⟨S, r, L, O, j, rl, rs, (Post.bind p).imp ?_⟩
  rintro x H1 ⟨S1, r1, d, O1, e1, s1, p1, q1⟩
  refine ⟨S1, r1, L, O1, J.mono e1.s j, rl.mono e1, s1, (Post.bind q1).imp ?_⟩
  rintro y H2 ⟨S2, r2, e, O2, e2, s2, p2, q2⟩
  exact h2 S2 r2 O2 H2 x y d e W σ Q s2 (Rp.mono e2 d x p1) p2 q2
theorem chain_imp {rr rr' : R2} (h2 : ∀ (S : Hp) (r : Rg) (O : Store) (H : Hp) (x y : V) (d e : D) (W : WX) (σ : L2.St) (Q : VK), Rs X.K ad S r O H → Rp X.K S r d x → Rp X.K S r e y → Post X.K ad (fun S r => Rp X.K S r) W σ S r Q (ofO (g O d e)) → rr x y H Q)
    (h3 : ∀ (S : Hp) (r : Rg) (O : Store) (H : Hp) (x y : V) (d e : D) (W : WX) (σ : L2.St) (Q : VK), Rs X.K ad S r O H → Rp X.K S r d x → Rp X.K S r e y → Post X.K ad (fun S r => Rp X.K S r) W σ S r Q (ofO (g' O d e)) → rr' x y H Q) :
    ∀ σ H Q, tE X.K ad J W (mChain g g' ma mb mc) σ H Q → tChain rr rr' (tE X.K ad J W ma) (tE X.K ad J W mb) (tE X.K ad J W mc) σ H Q := by
  rintro σ H Q ⟨S, r, L, O, j, rl, rs, p⟩
  refine ⟨S, r, L, O, j, rl, rs, (Post.bind p).imp ?_⟩
  rintro x H1 ⟨S1, r1, d, O1, e1, s1, p1, q1⟩
  refine ⟨S1, r1, L, O1, J.mono e1.s j, rl.mono e1, s1, (Post.bind q1).imp ?_⟩
  rintro y H2 ⟨S2, r2, e, O2, e2, s2, p2, q2⟩
  refine h2 S2 r2 O2 H2 x y d e W σ _ s2 (Rp.mono e2 d x p1) p2 ((Post.bind q2).imp ?_)
  rintro z H3 ⟨S3, r3, f, O3, e3, s3, p3, q3⟩
  cases f with
  | bl k =>
    refine ⟨k, p3, ?_⟩
    cases k with
    | true =>
      rw [if_pos rfl]
      refine ⟨S3, r3, L, O3, J.mono (e1.trans (e2.trans e3)).s j, rl.mono (e1.trans (e2.trans e3)), s3, (Post.bind q3).imp ?_⟩
      rintro w H4 ⟨S4, r4, f, O4, e4, s4, p4, q4⟩
      exact h3 S4 r4 O4 H4 y w e f W σ Q s4 (Rp.mono (e3.trans e4) e y p2) p4 q4
    | false =>
      rw [if_neg Bool.false_ne_true]
      exact q3 S3 r3 H3 _ (Ext.refl _ _) s3 rfl
  | non => exact q3.elim
  | int i => exact q3.elim
  | str s => exact q3.elim
  | lst s => exact q3.elim
  | rol s => exact q3.elim
  | tup s => exact q3.elim
  | hdl s => exact q3.elim
theorem de_chain (ho : OpD X ad (compareOp op) g) (ho' : OpD X ad (compareOp op') g') (ha : PE X a (tE X.K ad J W ma)) (hb : PE X b (tE X.K ad J W mb)) (hc : PE X c (tE X.K ad J W mc)) (hm : lastMarks [op, op'] [b, c] = false := by rfl) : PE X (.Compare a [op, op'] [b, c] pos) (tE X.K ad J W (mChain g g' ma mb mc)) := by
  obtain ⟨rr, h1, h2⟩ := ho.ok
  obtain ⟨rr', h1', h2'⟩ := ho'.ok
  exact pe_imp (pe_chain h1 h1' ha hb hc hm) (chain_imp h2 h2')
theorem dt_chain (ho : OpD X ad (compareOp op) g) (ho' : OpD X ad (compareOp op') g') (ha : PE X a (tE X.K ad J W ma)) (hb : PE X b (tE X.K ad J W mb)) (hc : PE X c (tE X.K ad J W mc)) (hm : lastMarks [op, op'] [b, c] = false := by rfl) : PT X (.Compare a [op, op'] [b, c] pos) (tT X.K ad J W (mTest (mChain g g' ma mb mc))) := by
  obtain ⟨rr, h1, h2⟩ := ho.ok
  obtain ⟨rr', h1', h2'⟩ := ho'.ok
  exact pt_imp (pt_chain h1 h1' ha hb hc hm) (test_imp (chain_imp h2 h2'))
theorem dt_val (h : PE X e (tE X.K ad J W ma)) (he : ∀ whole, isTrue e X.env whole = (do let v ← whole; standAt e.pos; holding [v] (truthy v)) := by intro _; rfl) : PT X e (tT X.K ad J W (mTest ma)) := by
  refine pt_imp (pt_val h he) ?_
  intro σ H Q q
  exact test_imp (J := J) (W := W) (fun _ _ _ z => z) σ H Q q
theorem dt_truth (h : PE X e (tE X.K ad J W ma)) (he : ∀ whole, isTrue e X.env whole = (do let v ← whole; standAt e.pos; holding [v] (truthy v)) := by intro _; rfl) : PT X e (tT X.K ad J W (mTru ma)) := by
  refine pt_imp (pt_truth h he) ?_
  rintro σ H Q ⟨S, r, L, O, j, rl, rs, p⟩
  refine ⟨S, r, L, O, j, rl, rs, (Post.bind p).imp ?_⟩
  rintro x H1 ⟨S1, r1, d, O1, e1, s1, p1, q1⟩
  have emp : ∀ {ds : List D} {vs : List V}, RpAll X.K S1 r1 ds vs → (!ds.isEmpty) = !vs.isEmpty := fun {ds vs} h => by
    cases ds with
    | nil => rw [show vs = [] from h]; rfl
    | cons d ds => obtain ⟨v, vr, rfl, _⟩ := h; rfl
  have empP : ∀ {ds : List (Key × D)} {vs : List (Key × V)}, RpP X.K S1 r1 ds vs → (!ds.isEmpty) = !vs.isEmpty := fun {ds vs} h => by
    cases ds with
    | nil => rw [show vs = [] from h]; rfl
    | cons d ds => obtain ⟨v, vr, rfl, _⟩ := h; rfl
  cases hd : truD O1 d with
  | none => rw [hd] at q1; exact q1.elim
  | some k =>
    rw [hd] at q1
    refine ⟨k, ?_, q1 S1 r1 H1 k (Ext.refl _ _) s1 rfl⟩
    cases d with
    | non => rw [show x = .non from p1]; exact (Option.some.inj hd).symm
    | bl b => rw [show x = .bl b from p1]; exact (Option.some.inj hd).symm
    | int i => rw [show x = .int i from p1]; exact (Option.some.inj hd).symm
    | str s =>
      rw [show x = .str s from p1]
      have hd' : (if s.length ≤ 1000000 then some ((s.length : Int) != 0) else none) = some k := hd
      split at hd'
      · rename_i hl
        exact ⟨million hl, (Option.some.inj hd').symm⟩
      · cases hd'
    | lst s =>
      obtain ⟨a, vs, rfl, q, w⟩ := p1
      exact .inl ⟨vs, .of (s1.sub _ _ q), by rw [← emp w]; exact (Option.some.inj hd).symm⟩
    | rol s =>
      obtain ⟨a, vs, rfl, q, w⟩ := p1
      exact .inl ⟨vs, sqL_same s1.sub q, by rw [← emp w]; exact (Option.some.inj hd).symm⟩
    | tup s =>
      obtain ⟨a, vs, rfl, q, w⟩ := p1
      exact .inr (.inl ⟨vs, sqT_same s1.sub q, by rw [← emp w]; exact (Option.some.inj hd).symm⟩)
    | hdl n =>
      have hd' : (match O1[n]? with | some (Ob.lst xs) => some (!xs.isEmpty) | some (Ob.dct xs) => some (!xs.isEmpty) | _ => none) = some k := hd
      split at hd'
      · rename_i zs e
        obtain ⟨a, rfl, e2, _, vs, e3, e4⟩ := hdl_at s1 p1 e
        exact .inl ⟨vs, .of e3, by rw [← emp e4]; exact (Option.some.inj hd').symm⟩
      · rename_i zs e
        obtain ⟨a, rfl, e2, _, vs, e3, e4⟩ := hdl_at s1 p1 e
        exact .inr (.inr ⟨vs, e3, by rw [← empP e4]; exact (Option.some.inj hd').symm⟩)
      · cases hd'
theorem PW.imp' {t t' : TT} (h : PW X e t) (k : ∀ σ H Q, t' σ H Q → t σ H Q) : PW X e t' := ⟨fun wh pins s σ H Q I q => h.run wh pins s σ H Q I (k σ H Q q)⟩
theorem and_imp : ∀ σ H Q, tT X.K ad J W (mAnd ta tb) σ H Q → tAnd (tT X.K ad J W ta) (tT X.K ad J W tb) σ H Q := by
  rintro σ H Q ⟨S, r, L, O, j, rl, rs, p⟩
  refine ⟨S, r, L, O, j, rl, rs, (Post.bind p).imp ?_⟩
  rintro k H1 ⟨S1, r1, d, O1, e1, s1, rfl, q1⟩
  cases k with
  | true =>
    rw [if_pos rfl] at q1 ⊢
    exact ⟨S1, r1, L, O1, J.mono e1.s j, rl.mono e1, s1, q1⟩
  | false =>
    rw [if_neg Bool.false_ne_true] at q1 ⊢
    exact q1 S1 r1 H1 false (Ext.refl _ _) s1 rfl
theorem or_imp : ∀ σ H Q, tT X.K ad J W (mOr ta tb) σ H Q → tOr (tT X.K ad J W ta) (tT X.K ad J W tb) σ H Q := by
  rintro σ H Q ⟨S, r, L, O, j, rl, rs, p⟩
  refine ⟨S, r, L, O, j, rl, rs, (Post.bind p).imp ?_⟩
  rintro k H1 ⟨S1, r1, d, O1, e1, s1, rfl, q1⟩
  cases k with
  | false =>
    rw [if_neg Bool.false_ne_true] at q1 ⊢
    exact ⟨S1, r1, L, O1, J.mono e1.s j, rl.mono e1, s1, q1⟩
  | true =>
    rw [if_pos rfl] at q1 ⊢
    exact q1 S1 r1 H1 true (Ext.refl _ _) s1 rfl
theorem dw_and1 (ha : PT X a (tT X.K ad J W ta)) : PW X (.BoolOp .And [a] pos) (tT X.K ad J W ta) := pw_and1 ha
theorem dw_or1 (ha : PT X a (tT X.K ad J W ta)) : PW X (.BoolOp .Or [a] pos) (tT X.K ad J W ta) := pw_or1 ha
theorem dw_and (ha : PT X a (tT X.K ad J W ta)) (hb : PW X (.BoolOp .And (b :: es) pos) (tT X.K ad J W tb)) : PW X (.BoolOp .And (a :: b :: es) pos) (tT X.K ad J W (mAnd ta tb)) := PW.imp' (pw_and ha hb) and_imp
theorem dw_or (ha : PT X a (tT X.K ad J W ta)) (hb : PW X (.BoolOp .Or (b :: es) pos) (tT X.K ad J W tb)) : PW X (.BoolOp .Or (a :: b :: es) pos) (tT X.K ad J W (mOr ta tb)) := PW.imp' (pw_or ha hb) or_imp
theorem dt_not (ha : PT X a (tT X.K ad J W ta)) : PT X (.UnaryOp .Not a pos) (tT X.K ad J W (mNot ta)) := by
  refine pt_imp (pt_not ha) ?_
  rintro σ H Q ⟨S, r, L, O, j, rl, rs, p⟩
  refine ⟨S, r, L, O, j, rl, rs, (Post.bind p).imp ?_⟩
  rintro k H1 ⟨S1, r1, d, O1, e1, s1, rfl, q1⟩
  exact q1 S1 r1 H1 _ (Ext.refl _ _) s1 rfl
theorem de_and1 (ha : PE X a (tE X.K ad J W ma)) {bo : BoolOp} : PE X (.BoolOp bo [a] pos) (tE X.K ad J W ma) := pe_one ha
theorem de_and (ha : PE X a (tE X.K ad J W ma)) (hb : PE X (.BoolOp .And (b :: es) pos) (tE X.K ad J W mb)) : PE X (.BoolOp .And (a :: b :: es) pos) (tE X.K ad J W (mAndV ma mb)) := by
  refine pe_imp (pe_and ha hb) ?_
  rintro σ H Q ⟨S, r, L, O, j, rl, rs, p⟩
  refine ⟨S, r, L, O, j, rl, rs, (Post.bind p).imp ?_⟩
  rintro x H1 ⟨S1, r1, d, O1, e1, s1, p1, q1⟩
  cases d with
  | bl k =>
    refine ⟨k, p1, ?_⟩
    cases k with
    | true =>
      rw [if_pos rfl]
      exact ⟨S1, r1, L, O1, J.mono e1.s j, rl.mono e1, s1, q1⟩
    | false =>
      rw [if_neg Bool.false_ne_true]
      exact q1 S1 r1 H1 _ (Ext.refl _ _) s1 rfl
  | non => exact q1.elim
  | int i => exact q1.elim
  | str s => exact q1.elim
  | lst s => exact q1.elim
  | rol s => exact q1.elim
  | tup s => exact q1.elim
  | hdl s => exact q1.elim
theorem da_nil : PA X [] (tA X.K ad J W mNil) := by
  refine pa_imp pa_nil ?_
  rintro σ H Q ⟨S, r, L, O, j, rl, rs, p⟩
  exact p S r H [] (Ext.refl _ _) rs rfl
theorem da_cons (he : PE X e (tE X.K ad J W ma)) (ht : PA X es (tA X.K ad J W mt)) (hs : starEach (e :: es) X.env = (false, eval e X.env) :: starEach es X.env := by rfl) : PA X (e :: es) (tA X.K ad J W (mCons ma mt)) := by
  refine pa_imp (pa_cons he ht hs) ?_
  rintro σ H Q ⟨S, r, L, O, j, rl, rs, p⟩
  refine ⟨S, r, L, O, j, rl, rs, (Post.bind p).imp ?_⟩
  rintro x H1 ⟨S1, r1, d, O1, e1, s1, p1, q1⟩
  refine ⟨S1, r1, L, O1, J.mono e1.s j, rl.mono e1, s1, (Post.bind q1).imp ?_⟩
  rintro xs H2 ⟨S2, r2, ds, O2, e2, s2, p2, q2⟩
  exact q2 S2 r2 H2 _ (Ext.refl _ _) s2 (.cons (Rp.mono e2 d x p1) p2)
theorem de_tup {k : Nat} (h : PA X es (tA X.K ad J W mt)) : PE X (.Tuple es k pos) (tE X.K ad J W (mTup mt)) := by
  refine pe_imp (pe_tup h) ?_
  rintro σ H Q ⟨S, r, L, O, j, rl, rs, p⟩
  refine ⟨S, r, L, O, j, rl, rs, (Post.bind p).imp ?_⟩
  rintro xs H1 ⟨S1, r1, ds, O1, e1, s1, p1, q1⟩
  have q1 : Post X.K ad (fun S r => Rp X.K S r) W σ S1 r1 Q (if ds.length ≤ 1000000 then .ok (.tup ds) O1 else .bad) := q1
  split at q1
  · rename_i hl
    exact ⟨by rw [p1.length]; exact million hl, newT_post s1 p1 q1⟩
  · exact q1.elim
theorem de_lst {hm : Bool} (h : PA X es (tA X.K ad J W mt)) : PE X (.List es pos) (tE X.K ad J W (mLst hm mt)) := by
  refine pe_imp (pe_lst h) ?_
  rintro σ H Q ⟨S, r, L, O, j, rl, rs, p⟩
  refine ⟨S, r, L, O, j, rl, rs, (Post.bind p).imp ?_⟩
  rintro xs H1 ⟨S1, r1, ds, O1, e1, s1, p1, q1⟩
  exact newL_post s1 p1 q1
theorem de_callB {gc : Store → List D → Option (D × Store)} {x : Str} {id : String} {p : Pos} (hc : CallD X ad (.builtin id) gc) (hg : Gl X x) (hm : X.mg x = none) (hv : bootBuiltins x = some (.builtin id)) (ha : PA X (e :: es) (tA X.K ad J W mt))
    (hn : x ≠ "__name__" := by decide) (hdb : (x == ("__debug__" : Str)) = false := by decide)
    (he : starEach (e :: es) X.env = (false, eval e X.env) :: starEach es X.env := by rfl) (hpl : (backTo pos (starEach es X.env)).any (·.1) = false := by rfl) : PE X (.Call (.Name x p) (e :: es) [] pos) (tE X.K ad J W (mCall gc mt)) := by
  obtain ⟨rr, h1, h2⟩ := hc.ok
  refine pe_imp (pe_callB h1 hg hm hv ha hn hdb he hpl) ?_
  rintro σ H Q ⟨S, r, L, O, j, rl, rs, p⟩
  refine ⟨S, r, L, O, j, rl, rs, (Post.bind p).imp ?_⟩
  rintro xs H1 ⟨S1, r1, ds, O1, e1, s1, p1, q1⟩
  exact h2 S1 r1 O1 H1 xs ds W σ Q s1 p1 q1
theorem de_callTy {gc : Store → List D → Option (D × Store)} {x : Str} {T : String} {p : Pos} (hc : CallD X ad (.type T) gc) (hg : Gl X x) (hm : X.mg x = none) (hv : bootBuiltins x = some (.type T)) (ha : PA X (e :: es) (tA X.K ad J W mt))
    (hn : x ≠ "__name__" := by decide) (hdb : (x == ("__debug__" : Str)) = false := by decide)
    (he : starEach (e :: es) X.env = (false, eval e X.env) :: starEach es X.env := by rfl) (hpl : (backTo pos (starEach es X.env)).any (·.1) = false := by rfl) : PE X (.Call (.Name x p) (e :: es) [] pos) (tE X.K ad J W (mCall gc mt)) := by
  obtain ⟨rr, h1, h2⟩ := hc.ok
  refine pe_imp (pe_callTy h1 hg hm hv ha hn hdb he hpl) ?_
  rintro σ H Q ⟨S, r, L, O, j, rl, rs, p⟩
  refine ⟨S, r, L, O, j, rl, rs, (Post.bind p).imp ?_⟩
  rintro xs H1 ⟨S1, r1, ds, O1, e1, s1, p1, q1⟩
  exact h2 S1 r1 O1 H1 xs ds W σ Q s1 p1 q1
/-- a def of the text is called -/
theorem spM_of {n : Nat} {f : FM} {S : Hp} {r : Rg} {O : Store} {H : Hp} {ds : List D} {vs : List V} {σ : L2.St} {Q : VK} (hl : ds.length = n) (s : Rs X.K ad S r O H) (p : RpAll X.K S r ds vs) (q : Post X.K ad (fun S r => Rp X.K S r) W σ S r Q (f ds O)) : spM X.K ad n f vs H Q (WE W σ) := by
  refine ⟨S, r, O, ds, hl, s, p, ?_⟩
  generalize f ds O = z at q
  cases z with
  | ok a O => exact q
  | exc x O => exact q
  | bad => exact q
/-- the number of arguments is checked by the mirror -/
def arity (n : Nat) (f : FM) : FM := fun ds O => if ds.length = n then f ds O else .bad
theorem spM_ar {n : Nat} {f : FM} {S : Hp} {r : Rg} {O : Store} {H : Hp} {ds : List D} {vs : List V} {σ : L2.St} {Q : VK} (s : Rs X.K ad S r O H) (p : RpAll X.K S r ds vs) (q : Post X.K ad (fun S r => Rp X.K S r) W σ S r Q (arity n f ds O)) : spM X.K ad n f vs H Q (WE W σ) := by
  unfold arity at q
  split at q
  · rename_i hl
    exact spM_of hl s p q
  · exact q.elim
theorem de_call {k n : Nat} {f : Addr} {fd : FuncData} {ps : List Str} {m : FM} {dvs : List V} {dds : List D} {ds : List Value} {x : Str} {p : Pos} (F : FnOk X.prog X.w X.K X.mg X.base (L2.CX X.prog X.w) k f fd ps (spM X.K ad n m)) (hr : Room k X.A) (hg : Gl X x) (hm : X.mg x = some (.ref f)) (hk : PySem.W.keepIn X.K (.ref f) = true)
    (hb : Binds X.K fd ps ds) (hd : Vals dvs ds) (hdd : ∀ S r, RpAll X.K S r dds dvs) (tk : Takes X W) (ha : PA X (e :: es) (tA X.K ad J W mt)) (hdb : (x == ("__debug__" : Str)) = false := by decide)
    (he : starEach (e :: es) X.env = (false, eval e X.env) :: starEach es X.env := by rfl) (hpl : (backTo pos (starEach es X.env)).any (·.1) = false := by rfl) :
    PE X (.Call (.Name x p) (e :: es) [] pos) (tE X.K ad J W (mFn (arity n m) dds mt)) := by
  refine pe_imp (pe_callSD F hr hg hm hk hb hd (fun σ => passAt tk σ) ha hdb he hpl) ?_
  rintro σ H Q ⟨S, r, L, O, j, rl, rs, p⟩
  refine ⟨S, r, L, O, j, rl, rs, (Post.bind p).imp ?_⟩
  rintro xs H1 ⟨S1, r1, ds, O1, e1, s1, p1, q1⟩
  exact spM_ar s1 (p1.append (hdd S1 r1)) q1
end
end DK
end
section
set_option Elab.async false
set_option linter.all false
set_option autoImplicit false
set_option maxRecDepth 100000
set_option maxHeartbeats 4000000
/-! DKStm: statements, loops, defs, by mirrors. -/
namespace DK
open PySem L2
def ofRes {α : Type} (L : Loc) (x : Res α) (f : α → Store → SR) : SR := match x with
  | .ok a O => f a O
  | .exc x O => .exc x L O
  | .bad => .bad
def sNext : SM := fun L O => .next L O
def sSeq (a b : SM) : SM := fun L O => match a L O with
  | .next L1 O1 => b L1 O1
  | .ret d O1 => .ret d O1
  | .brk L1 O1 => .brk L1 O1
  | .cnt L1 O1 => .cnt L1 O1
  | .exc x L1 O1 => .exc x L1 O1
  | .bad => .bad
def sDrop (m : EM) : SM := fun L O => ofRes L (m L O) fun _ O1 => .next L O1
def sRet (m : EM) : SM := fun L O => ofRes L (m L O) fun d O1 => .ret d O1
def sRetN : SM := fun _ O => .ret .non O
def sIf (t : TM) (a b : SM) : SM := fun L O => ofRes L (t L O) fun c O1 => if c = true then a L O1 else b L O1
/-- a target: what a value makes of slots and store -/
abbrev BM := D → Loc → Store → Option (Loc × Store)
abbrev BsM := List D → Loc → Store → Option (Loc × Store)
def bName (i : Nat) : BM := fun d L O => some (L.set i (some d), O)
def bNil : BsM := fun ds L O => match ds with
  | [] => some (L, O)
  | _ => none
def bCons (b : BM) (c : BsM) : BsM := fun ds L O => match ds with
  | d :: ds => (b d L O).bind fun p => c ds p.1 p.2
  | [] => none
def bTup (n : Nat) (c : BsM) : BM := fun d L O => match d with
  | .tup ds => if ds.length = n then c ds L O else none
  | _ => none
def ofB : Option (Loc × Store) → SR
  | some p => .next p.1 p.2
  | none => .bad
def sAsg (m : EM) (b : BM) : SM := fun L O => ofRes L (m L O) fun d O1 => ofB (b d L O1)
/-- a turn of a loop -/
def turnOf (b : BM) (body : SM) (d : D) : SM := fun L O => match b d L O with
  | some p => body p.1 p.2
  | none => .bad
def loopD (turn : D → SM) : List D → SM
  | [], L, O => .next L O
  | d :: ds, L, O => match turn d L O with
    | .next L1 O1 => loopD turn ds L1 O1
    | .cnt L1 O1 => loopD turn ds L1 O1
    | .brk L1 O1 => .next L1 O1
    | .ret d O1 => .ret d O1
    | .exc x L1 O1 => .exc x L1 O1
    | .bad => .bad
/-- over a list of the store -/
def loopH (turn : D → SM) (n : Nat) : Nat → Nat → SM
  | 0, i, L, O => match O[n]? with
    | some (.lst xs) => if xs.length ≤ i then .next L O else .bad
    | _ => .bad
  | k + 1, i, L, O => match O[n]? with
    | some (.lst xs) => match xs[i]? with
      | some d => match turn d L O with
        | .next L1 O1 => loopH turn n k (i + 1) L1 O1
        | .cnt L1 O1 => loopH turn n k (i + 1) L1 O1
        | .brk L1 O1 => .next L1 O1
        | .ret d O1 => .ret d O1
        | .exc x L1 O1 => .exc x L1 O1
        | .bad => .bad
      | none => .next L O
    | _ => .bad
def sForL (m : EM) (b : BM) (body : SM) : SM := fun L O => ofRes L (m L O) fun d O1 => match d with
  | .lst ds => loopD (turnOf b body) ds L O1
  | .rol ds => loopD (turnOf b body) ds L O1
  | .hdl n => match O1[n]? with
    | some (.lst xs) => loopH (turnOf b body) n xs.length 0 L O1
    | _ => .bad
  | _ => .bad
def sForT (m : EM) (b : BM) (body : SM) : SM := fun L O => ofRes L (m L O) fun d O1 => match d with
  | .tup ds => loopD (turnOf b body) ds L O1
  | _ => .bad
def rangeD (lo : Int) (n : Nat) : List D := (List.range n).map fun (i : Nat) => .int (lo + (i : Int))
def int1 : List D → Option Int
  | [.int j] => if -1000000000000 ≤ j ∧ j ≤ 1000000000000 then some j else none
  | _ => none
def int2 : List D → Option (Int × Int)
  | [.int i, .int j] => if (-1000000000000 ≤ i ∧ i ≤ 1000000000000) ∧ (-1000000000000 ≤ j ∧ j ≤ 1000000000000) then some (i, j) else none
  | _ => none
theorem int1_ok {ds : List D} {j : Int} (h : int1 ds = some j) : ds = [.int j] ∧ -1000000000000 ≤ j ∧ j ≤ 1000000000000 := by
  unfold int1 at h
  split at h
  · split at h
    · cases h; exact ⟨rfl, by assumption⟩
    · cases h
  · cases h
def sForR1 (t : AM) (b : BM) (body : SM) : SM := fun L O => ofRes L (t L O) fun ds O1 => match int1 ds with
  | some j => loopD (turnOf b body) (rangeD 0 j.toNat) L O1
  | none => .bad
def loopW (c : TM) (b : SM) : Nat → SM
  | 0, _, _ => .bad
  | n + 1, L, O => ofRes L (c L O) fun k O1 => if k = true then (match b L O1 with
    | .next L2 O2 => loopW c b n L2 O2
    | .cnt L2 O2 => loopW c b n L2 O2
    | .brk L2 O2 => .next L2 O2
    | .ret d O2 => .ret d O2
    | .exc x L2 O2 => .exc x L2 O2
    | .bad => .bad) else .next L O1
def sWhile (n : Nat) (c : TM) (b : SM) : SM := loopW c b n
/-- a def by its body -/
def runF (n : Nat) (b : SM) : FM := fun ds O => match b (ds.map some ++ List.replicate (n - ds.length) none) O with
  | .next _ O1 => .ok .non O1
  | .ret d O1 => .ok d O1
  | .exc x _ O1 => .exc x O1
  | _ => .bad
section
variable {K : PySem.W.Frag} {ad : Str → Addr} {J : JP} {W : WX} {S S' : Hp} {r r' : Rg} {En : Ends} {L : Loc} {σ : L2.St} {α β : Type} {rep : Hp → Rg → α → β → Prop}
theorem PostS.mono {x : SR} (e : Ext S r S' r') (h : PostS K ad J W S r En x) : PostS K ad J W S' r' En x := by
  cases x with
  | next L O => exact fun S2 r2 σ H e2 => h S2 r2 σ H (e.trans e2)
  | ret d O => exact fun S2 r2 H v e2 => h S2 r2 H v (e.trans e2)
  | brk L O => exact fun S2 r2 σ H e2 => h S2 r2 σ H (e.trans e2)
  | cnt L O => exact fun S2 r2 σ H e2 => h S2 r2 σ H (e.trans e2)
  | exc x L O => exact fun S2 r2 σ H d e2 => h S2 r2 σ H d (e.trans e2)
  | bad => exact h
theorem bindS {x : Res α} {f : α → Store → SR} (j : J.p σ S) (rl : Rl K S r L σ) (h : PostS K ad J W S r En (ofRes L x f)) :
    Post K ad rep W σ S r (fun v H => ∃ S' r' a O, Ext S r S' r' ∧ Rs K ad S' r' O H ∧ rep S' r' a v ∧ PostS K ad J W S' r' En (f a O)) x := by
  cases x with
  | ok a O => exact fun S2 r2 H v e2 s p => ⟨S2, r2, a, O, e2, s, p, PostS.mono e2 h⟩
  | exc a O => exact fun S2 r2 H d e2 s p => h S2 r2 σ H d e2 (J.mono e2.s j) (rl.mono e2) s p
  | bad => exact h
theorem Rl.set {d : D} {v : V} (i : Nat) (h : Rl K S r L σ) (p : Rp K S r d v) : Rl K S r (L.set i (some d)) (σ.set i (some v)) where
  len := by rw [List.length_set, List.length_set]; exact h.len
  at_ := fun j e q => by
    by_cases hj : i = j
    · subst hj
      by_cases hl : i < L.length
      · rw [List.getElem?_set_self hl] at q
        cases q
        exact ⟨v, List.getElem?_set_self (by rw [h.len]; exact hl), p⟩
      · rw [List.getElem?_eq_none (by rw [List.length_set]; omega)] at q
        cases q
    · rw [List.getElem?_set_ne hj] at q
      rw [List.getElem?_set_ne hj]
      exact h.at_ j e q
theorem Rl.wipe (i : Nat) (o : Option V) (h : Rl K S r L σ) : Rl K S r (L.set i none) (σ.set i o) where
  len := by rw [List.length_set, List.length_set]; exact h.len
  at_ := fun j e q => by
    by_cases hj : i = j
    · subst hj
      by_cases hl : i < L.length
      · rw [List.getElem?_set_self hl] at q
        cases q
      · rw [List.getElem?_eq_none (by rw [List.length_set]; omega)] at q
        cases q
    · rw [List.getElem?_set_ne hj] at q
      rw [List.getElem?_set_ne hj]
      exact h.at_ j e q
end
abbrev JT : JP := ⟨fun _ _ => True, fun _ _ => trivial⟩
/-! ### small statements -/
section
variable {X : Cx} {ad : Str → Addr} {J : JP} {W : WX} {pos : Pos} {a b c e tg iter : Expr} {es : List Expr} {m : EM} {mt : AM} {tm : TM} {st : Stmt} {rest body els : List Stmt} {s1 s2 : SM} {bm : BM} {bs : BsM}
theorem dss_nil : PSs X [] (tS X.K ad J W sNext) := by
  refine pss_imp pss_nil ?_
  rintro En σ H ⟨S, r, L, O, j, rl, rs, p⟩
  exact p S r σ H (Ext.refl _ _) j rl rs
theorem dss_cons (h1 : PS X st (tS X.K ad J W s1)) (h2 : PSs X rest (tS X.K ad J W s2)) : PSs X (st :: rest) (tS X.K ad J W (sSeq s1 s2)) := by
  refine pss_imp (pss_cons h1 h2) ?_
  rintro En σ H ⟨S, r, L, O, j, rl, rs, p⟩
  refine ⟨S, r, L, O, j, rl, rs, ?_⟩
  unfold sSeq at p
  generalize s1 L O = z at p
  cases z with
  | next L1 O1 => exact fun S1 r1 σ1 H1 e1 j1 l1 q1 => ⟨S1, r1, L1, O1, j1, l1, q1, PostS.mono e1 p⟩
  | ret d O1 => exact p
  | brk L1 O1 => exact p
  | cnt L1 O1 => exact p
  | exc x L1 O1 => exact p
  | bad => exact p
theorem dss_one (h1 : PS X st (tS X.K ad J W s1)) : PSs X [st] (tS X.K ad J W s1) := pss_one h1
theorem ds_expr (he : PE X e (tE X.K ad J W m)) (hs : swapsWith e none pos.line X.env = pure false := by rfl) : PS X (.Expr e pos) (tS X.K ad J W (sDrop m)) := by
  refine ps_imp (ps_expr he hs) ?_
  rintro En σ H ⟨S, r, L, O, j, rl, rs, p⟩
  refine ⟨S, r, L, O, j, rl, rs, (bindS j rl p).imp ?_⟩
  rintro x H1 ⟨S1, r1, d, O1, e1, q1, p1, k1⟩
  exact k1 S1 r1 σ H1 (Ext.refl _ _) (J.mono e1.s j) (rl.mono e1) q1
theorem ds_ret (he : PE X e (tE X.K ad J W m)) : PS X (.Return (some e) pos) (tS X.K ad J W (sRet m)) := by
  refine ps_imp (ps_ret he) ?_
  rintro En σ H ⟨S, r, L, O, j, rl, rs, p⟩
  refine ⟨S, r, L, O, j, rl, rs, (bindS j rl p).imp ?_⟩
  rintro x H1 ⟨S1, r1, d, O1, e1, q1, p1, k1⟩
  exact k1 S1 r1 H1 x (Ext.refl _ _) q1 p1
theorem ds_if (hc : PT X c (tT X.K ad J W tm)) (ha : PSs X body (tS X.K ad J W s1)) (hb : PSs X els (tS X.K ad J W s2)) : PS X (.If c body els pos) (tS X.K ad J W (sIf tm s1 s2)) := by
  refine ps_imp (ps_if hc ha hb) ?_
  rintro En σ H ⟨S, r, L, O, j, rl, rs, p⟩
  refine ⟨S, r, L, O, j, rl, rs, (bindS j rl p).imp ?_⟩
  rintro k H1 ⟨S1, r1, d, O1, e1, q1, rfl, k1⟩
  cases k with
  | true =>
    rw [if_pos rfl] at k1 ⊢
    exact ⟨S1, r1, L, O1, J.mono e1.s j, rl.mono e1, q1, k1⟩
  | false =>
    rw [if_neg Bool.false_ne_true] at k1 ⊢
    exact ⟨S1, r1, L, O1, J.mono e1.s j, rl.mono e1, q1, k1⟩
/-! ### targets -/
def PostB (K : PySem.W.Frag) (ad : Str → Addr) (J : JP) (S : Hp) (r : Rg) (Q : L2.St → Hp → Prop) : Option (Loc × Store) → Prop
  | some p => ∀ S' r' σ H, Ext S r S' r' → J.p σ S' → Rl K S' r' p.1 σ → Rs K ad S' r' p.2 H → Q σ H
  | none => False
def tG (K : PySem.W.Frag) (ad : Str → Addr) (J : JP) (b : BM) : TG := fun v σ H Q => ∃ S r L O d, J.p σ S ∧ Rl K S r L σ ∧ Rs K ad S r O H ∧ Rp K S r d v ∧ PostB K ad J S r Q (b d L O)
def tGs (K : PySem.W.Frag) (ad : Str → Addr) (J : JP) (b : BsM) : TGs := fun vs σ H Q => ∃ S r L O ds, J.p σ S ∧ Rl K S r L σ ∧ Rs K ad S r O H ∧ RpAll K S r ds vs ∧ PostB K ad J S r Q (b ds L O)
theorem PostB.mono {S S' : Hp} {r r' : Rg} {Q : L2.St → Hp → Prop} {x : Option (Loc × Store)} (e : Ext S r S' r') (h : PostB X.K ad J S r Q x) : PostB X.K ad J S' r' Q x := by
  cases x with
  | some p => exact fun S2 r2 σ H e2 => h S2 r2 σ H (e.trans e2)
  | none => exact h
theorem pg_imp {t t' : TG} (h : PG X tg t) (k : ∀ v σ H Q, t' v σ H Q → t v σ H Q) : PG X tg t' := ⟨fun pins s σ H v u Q I r q => h.run pins s σ H v u Q I r (k v σ H Q q)⟩
theorem pgs_imp {t t' : TGs} (h : PGs X es t) (k : ∀ v σ H Q, t' v σ H Q → t v σ H Q) : PGs X es t' := ⟨fun pins s σ H v u Q I r q => h.run pins s σ H v u Q I r (k v σ H Q q)⟩
theorem dg_name {i : Nat} {x : Str} (hN : X.N.Nodup) (hi : X.N[i]? = some x) (hx : L2.Loc X.env.scope x) (hJ : ∀ (σ : L2.St) (v : V) (S : Hp), J.p σ S → J.p (σ.set i (some v)) S := by intro _ _ _ _; trivial) (hf : X.fn x = true ∨ X.env.scope.names.lookup x = some .local := by first | exact .inl rfl | exact .inr rfl | assumption) :
    PG X (.Name x pos) (tG X.K ad J (bName i)) := by
  refine pg_imp (pg_name hN hi hx hf) ?_
  rintro v σ H Q ⟨S, r, L, O, d, j, rl, rs, rp, p⟩
  exact p S r _ H (Ext.refl _ _) (hJ _ _ _ j) (rl.set i rp) rs
theorem dgs_nil : PGs X [] (tGs X.K ad J bNil) := by
  refine pgs_imp pgs_nil ?_
  rintro vs σ H Q ⟨S, r, L, O, ds, j, rl, rs, rp, p⟩
  cases ds with
  | nil => exact ⟨rp, p S r σ H (Ext.refl _ _) j rl rs⟩
  | cons d ds => exact p.elim
theorem dgs_cons (h1 : PG X e (tG X.K ad J bm)) (h2 : PGs X es (tGs X.K ad J bs)) (hs : (assignEach (e :: es) X.env).map (·.2) = assign e X.env :: (assignEach es X.env).map (·.2) := by rfl) : PGs X (e :: es) (tGs X.K ad J (bCons bm bs)) := by
  refine pgs_imp (pgs_cons h1 h2 hs) ?_
  rintro vs σ H Q ⟨S, r, L, O, ds, j, rl, rs, rp, p⟩
  cases ds with
  | nil => exact p.elim
  | cons d ds =>
    obtain ⟨v, vr, rfl, q1, q2⟩ := rp
    refine ⟨v, vr, rfl, S, r, L, O, d, j, rl, rs, q1, ?_⟩
    have p : PostB X.K ad J S r Q ((bm d L O).bind fun p => bs ds p.1 p.2) := p
    generalize bm d L O = z at p
    cases z with
    | none => exact p
    | some z => exact fun S1 r1 σ1 H1 e1 j1 l1 k1 => ⟨S1, r1, z.1, z.2, ds, j1, l1, k1, RpAll.mono e1 _ _ q2, p.mono e1⟩
theorem dg_tup {k n : Nat} (hc : X.calm = true) (h : PGs X es (tGs X.K ad J bs)) (hn : (assignEach es X.env).length = n := by rfl) (hst : (assignEach es X.env).findIdx? (·.1) = none := by rfl) : PG X (.Tuple es k pos) (tG X.K ad J (bTup n bs)) := by
  refine pg_imp (pg_tup hc h hn hst) ?_
  rintro v σ H Q ⟨S, r, L, O, d, j, rl, rs, rp, p⟩
  cases d with
  | tup ds =>
    obtain ⟨a, vs, rfl, q1, q2⟩ := rp
    have p : PostB X.K ad J S r Q (if ds.length = n then bs ds L O else none) := p
    split at p
    · rename_i hl
      exact ⟨a, vs, rfl, sqT_same rs.sub q1, by rw [q2.length]; exact hl, S, r, L, O, ds, j, rl, rs, q2, p⟩
    · exact p.elim
  | non => exact p.elim
  | bl b => exact p.elim
  | int i => exact p.elim
  | str s => exact p.elim
  | lst s => exact p.elim
  | rol s => exact p.elim
  | hdl s => exact p.elim
theorem asg_imp {t : TG} (hg : ∀ v σ H Q, tG X.K ad J bm v σ H Q → t v σ H Q) : ∀ En σ H, tS X.K ad J W (sAsg m bm) En σ H → tAsg (tE X.K ad J W m) t En σ H := by
  rintro En σ H ⟨S, r, L, O, j, rl, rs, p⟩
  refine ⟨S, r, L, O, j, rl, rs, (bindS j rl p).imp ?_⟩
  rintro x H1 ⟨S1, r1, d, O1, e1, q1, p1, k1⟩
  refine hg _ _ _ _ ⟨S1, r1, L, O1, d, J.mono e1.s j, rl.mono e1, q1, p1, ?_⟩
  generalize bm d L O1 = z at k1
  cases z with
  | none => exact k1
  | some z => exact k1
theorem ds_asg (he : PE X e (tE X.K ad J W m)) (hg : PG X tg (tG X.K ad J bm)) (hs : swapsWithSole [tg] e pos.line X.env = pure false := by rfl) (hw : swappedStores [tg] e X.env = pure none := by rfl)
    (h1 : (assignEach [tg] X.env).map (·.2) = [assign tg X.env] := by rfl) : PS X (.Assign [tg] e pos) (tS X.K ad J W (sAsg m bm)) :=
  ps_imp (ps_asg he hg hs hw h1) (asg_imp fun _ _ _ _ z => z)
theorem ds_set {i : Nat} {x : Str} {pos' : Pos} (hN : X.N.Nodup) (hi : X.N[i]? = some x) (hx : L2.Loc X.env.scope x) (he : PE X e (tE X.K ad J W m)) (hJ : ∀ (σ : L2.St) (v : Option V) (S : Hp), J.p σ S → J.p (σ.set i v) S := by intro _ _ _ _; trivial) (hs : swapsWith e (some (.Name x pos')) pos.line X.env = pure false := by rfl)
    (hf : X.fn x = true ∨ X.env.scope.names.lookup x = some .local := by first | exact .inl rfl | exact .inr rfl | assumption) : PS X (.Assign [.Name x pos'] e pos) (tS X.K ad J W (sAsg m (bName i))) := by
  refine ps_imp (ps_set hN hi hx he hs hf) (asg_imp ?_)
  rintro v σ H Q ⟨S, r, L, O, d, j, rl, rs, rp, p⟩
  exact p S r _ H (Ext.refl _ _) (hJ _ _ _ j) (rl.set i rp) rs
theorem PostS.ends {S : Hp} {r : Rg} {En En' : Ends} {x : SR} (h1 : ∀ σ H, En.nx σ H → En'.nx σ H) (h2 : ∀ v H, En.rt v H → En'.rt v H) (h3 : ∀ σ H, En.bk σ H → En'.bk σ H) (h4 : ∀ σ H, En.ct σ H → En'.ct σ H) (h : PostS X.K ad J W S r En x) : PostS X.K ad J W S r En' x := by
  cases x with
  | next L O => exact fun S2 r2 σ H e2 j l s => h1 _ _ (h S2 r2 σ H e2 j l s)
  | ret d O => exact fun S2 r2 H v e2 s p => h2 _ _ (h S2 r2 H v e2 s p)
  | brk L O => exact fun S2 r2 σ H e2 j l s => h3 _ _ (h S2 r2 σ H e2 j l s)
  | cnt L O => exact fun S2 r2 σ H e2 j l s => h4 _ _ (h S2 r2 σ H e2 j l s)
  | exc x L O => exact h
  | bad => exact h
/-- one turn, then the rest f -/
def afterT (x : SR) (f : SM) : SR := match x with
  | .next L1 O1 => f L1 O1
  | .cnt L1 O1 => f L1 O1
  | .brk L1 O1 => .next L1 O1
  | .ret d O1 => .ret d O1
  | .exc x L1 O1 => .exc x L1 O1
  | .bad => .bad
theorem turn_post {S : Hp} {r : Rg} {En : Ends} {x : SR} {f : SM} (h : PostS X.K ad J W S r En (afterT x f)) :
    PostS X.K ad J W S r { En with nx := fun σ H => ∃ S' r' L' O', Ext S r S' r' ∧ J.p σ S' ∧ Rl X.K S' r' L' σ ∧ Rs X.K ad S' r' O' H ∧ PostS X.K ad J W S' r' En (f L' O'), ct := fun σ H => ∃ S' r' L' O', Ext S r S' r' ∧ J.p σ S' ∧ Rl X.K S' r' L' σ ∧ Rs X.K ad S' r' O' H ∧ PostS X.K ad J W S' r' En (f L' O'), bk := En.nx } x := by
  cases x with
  | next L O => exact fun S2 r2 σ H e2 j l s => ⟨S2, r2, L, O, e2, j, l, s, PostS.mono e2 h⟩
  | ret d O => exact h
  | brk L O => exact h
  | cnt L O => exact fun S2 r2 σ H e2 j l s => ⟨S2, r2, L, O, e2, j, l, s, PostS.mono e2 h⟩
  | exc x L O => exact h
  | bad => exact h
theorem loopD_cons {turn : D → SM} {d : D} {ds : List D} {L : Loc} {O : Store} : loopD turn (d :: ds) L O = afterT (turn d L O) (loopD turn ds) := by
  show (match turn d L O with
    | .next L1 O1 => loopD turn ds L1 O1
    | .cnt L1 O1 => loopD turn ds L1 O1
    | .brk L1 O1 => .next L1 O1
    | .ret d O1 => .ret d O1
    | .exc x L1 O1 => .exc x L1 O1
    | .bad => .bad) = _
  cases turn d L O <;> rfl
/-- the body of a turn -/
theorem turn_of {S : Hp} {r : Rg} {En : Ends} {L : Loc} {O : Store} {σ : L2.St} {H : Hp} {d : D} {v : V} (j : J.p σ S) (rl : Rl X.K S r L σ) (rs : Rs X.K ad S r O H) (rp : Rp X.K S r d v) (h : PostS X.K ad J W S r En (turnOf bm s1 d L O)) :
    tG X.K ad J bm v σ H fun σ2 H2 => tS X.K ad J W s1 En σ2 H2 := by
  refine ⟨S, r, L, O, d, j, rl, rs, rp, ?_⟩
  unfold turnOf at h
  generalize bm d L O = z at h
  cases z with
  | none => exact h
  | some z => exact fun S2 r2 σ2 H2 e2 j2 l2 q2 => ⟨S2, r2, z.1, z.2, j2, l2, q2, PostS.mono e2 h⟩
/-- a loop over things that stand still -/
theorem for_still {It' : It} {vs : List V} (ds : List D) {S0 : Hp} {r0 : Rg} (hp : RpAll X.K S0 r0 ds vs)
    (go : ∀ (i : Nat) (H : Hp) (S : Hp) (x : V), Same S0 S → Same S H → vs[i]? = some x → It'.go i H) (yl : ∀ (i : Nat) (H : Hp) (S : Hp) (x y : V) (H' : Hp), Same S0 S → Same S H → vs[i]? = some x → It'.yld i H y H' → y = x ∧ H' = H)
    (sp : ∀ (i : Nat) (H : Hp) (S : Hp), Same S0 S → Same S H → vs.length ≤ i → It'.stop i H) {L : Loc} {O : Store} {σ : L2.St} {H : Hp} {En : Ends} (j : J.p σ S0) (rl : Rl X.K S0 r0 L σ) (rs : Rs X.K ad S0 r0 O H) (h : PostS X.K ad J W S0 r0 En (loopD (turnOf bm s1) ds L O)) :
    ∃ W' : Nat → Nat → L2.St → Hp → Prop, (∃ m, W' 0 m σ H) ∧ ∀ i m σ H, W' i m σ H →
      (It'.stop i H ∧ En.nx σ H) ∨ (It'.go i H ∧ ∃ N : L2.St → Hp → Prop, (∀ σ' H', N σ' H' → ∃ m', m' < m ∧ W' (i + 1) m' σ' H') ∧ ∀ x H', It'.yld i H x H' → tG X.K ad J bm x σ H' fun σ2 H2 => tS X.K ad J W s1 { En with nx := N, ct := N, bk := En.nx } σ2 H2) := by
  refine ⟨fun i m σ H => m = vs.length - i ∧ i ≤ vs.length ∧ ∃ S r L O, Ext S0 r0 S r ∧ J.p σ S ∧ Rl X.K S r L σ ∧ Rs X.K ad S r O H ∧ PostS X.K ad J W S r En (loopD (turnOf bm s1) (ds.drop i) L O), ⟨_, rfl, Nat.zero_le _, S0, r0, L, O, Ext.refl _ _, j, rl, rs, h⟩, ?_⟩
  rintro i m σ H ⟨rfl, hi, S, r, L, O, e, j, rl, rs, h⟩
  by_cases hlt : i < vs.length
  · have hx : vs[i]? = some vs[i] := List.getElem?_eq_getElem hlt
    obtain ⟨d, hd, pd⟩ := RpAll.back hp hx
    have hdrop : ds.drop i = d :: ds.drop (i + 1) := by
      obtain ⟨h1, h2⟩ := List.getElem?_eq_some_iff.mp hd
      rw [List.drop_eq_getElem_cons h1, h2]
    rw [hdrop, loopD_cons] at h
    refine .inr ⟨go i H S _ e.s rs.sub hx, fun σ' H' => ∃ S' r' L' O', Ext S r S' r' ∧ J.p σ' S' ∧ Rl X.K S' r' L' σ' ∧ Rs X.K ad S' r' O' H' ∧ PostS X.K ad J W S' r' En (loopD (turnOf bm s1) (ds.drop (i + 1)) L' O'), ?_, fun x H' hy => ?_⟩
    · rintro σ' H' ⟨S', r', L', O', e', j', l', q', h'⟩
      exact ⟨_, by omega, rfl, hlt, S', r', L', O', e.trans e', j', l', q', h'⟩
    · obtain ⟨rfl, rfl⟩ := yl i H S _ x H' e.s rs.sub hx hy
      exact turn_of j rl rs (Rp.mono e d _ pd) (turn_post h)
  · have e2 : ds.drop i = [] := List.drop_eq_nil_of_le (by rw [← hp.length]; omega)
    rw [e2] at h
    exact .inl ⟨sp i H S e.s rs.sub (by omega), h S r σ H (Ext.refl _ _) j rl rs⟩
/-- over a list of the store -/
theorem loopH_cons {turn : D → SM} {n k i : Nat} {L : Loc} {O : Store} : loopH turn n (k + 1) i L O = (match O[n]? with
    | some (.lst xs) => match xs[i]? with
      | some d => afterT (turn d L O) (loopH turn n k (i + 1))
      | none => .next L O
    | _ => .bad) := by
  show (match O[n]? with
    | some (.lst xs) => match xs[i]? with
      | some d => match turn d L O with
        | .next L1 O1 => loopH turn n k (i + 1) L1 O1
        | .cnt L1 O1 => loopH turn n k (i + 1) L1 O1
        | .brk L1 O1 => .next L1 O1
        | .ret d O1 => .ret d O1
        | .exc x L1 O1 => .exc x L1 O1
        | .bad => .bad
      | none => .next L O
    | _ => .bad) = _
  split
  · split
    · rename_i d _
      cases turn d L O <;> rfl
    · rfl
  · rfl
theorem for_handle {a : Addr} {n : Nat} {S0 : Hp} {r0 : Rg} (ha : r0.l[n]? = some a) {k : Nat} {L : Loc} {O : Store} {σ : L2.St} {H : Hp} {En : Ends} (j : J.p σ S0) (rl : Rl X.K S0 r0 L σ) (rs : Rs X.K ad S0 r0 O H) (h : PostS X.K ad J W S0 r0 En (loopH (turnOf bm s1) n k 0 L O)) :
    ∃ W' : Nat → Nat → L2.St → Hp → Prop, (∃ m, W' 0 m σ H) ∧ ∀ i m σ H, W' i m σ H →
      ((Itl X.K a).stop i H ∧ En.nx σ H) ∨ ((Itl X.K a).go i H ∧ ∃ N : L2.St → Hp → Prop, (∀ σ' H', N σ' H' → ∃ m', m' < m ∧ W' (i + 1) m' σ' H') ∧ ∀ x H', (Itl X.K a).yld i H x H' → tG X.K ad J bm x σ H' fun σ2 H2 => tS X.K ad J W s1 { En with nx := N, ct := N, bk := En.nx } σ2 H2) := by
  refine ⟨fun i m σ H => ∃ S r L O, Ext S0 r0 S r ∧ J.p σ S ∧ Rl X.K S r L σ ∧ Rs X.K ad S r O H ∧ PostS X.K ad J W S r En (loopH (turnOf bm s1) n m i L O), ⟨k, S0, r0, L, O, Ext.refl _ _, j, rl, rs, h⟩, ?_⟩
  rintro i m σ H ⟨S, r, L, O, e, j, rl, rs, h⟩
  have hr : r.l[n]? = some a := pre_get e.r ha
  cases m with
  | zero =>
    have h : PostS X.K ad J W S r En (match O[n]? with | some (.lst xs) => if xs.length ≤ i then .next L O else .bad | _ => .bad) := h
    split at h
    · rename_i xs hx
      obtain ⟨_, vs, q1, q2⟩ := rs.ob n a _ hr hx
      split at h
      · rename_i hl
        exact .inl ⟨⟨vs, .of q1, by rw [q2.length]; exact hl⟩, h S r σ H (Ext.refl _ _) j rl rs⟩
      · exact h.elim
    · exact h.elim
  | succ m =>
    rw [loopH_cons] at h
    split at h
    · rename_i xs hx
      obtain ⟨_, vs, q1, q2⟩ := rs.ob n a _ hr hx
      split at h
      · rename_i d hd
        obtain ⟨v, hv, pv⟩ := q2.get hd
        refine .inr ⟨⟨vs, v, .of q1, hv⟩, fun σ' H' => ∃ S' r' L' O', Ext S r S' r' ∧ J.p σ' S' ∧ Rl X.K S' r' L' σ' ∧ Rs X.K ad S' r' O' H' ∧ PostS X.K ad J W S' r' En (loopH (turnOf bm s1) n m (i + 1) L' O'), ?_, fun x H' hy => ?_⟩
        · rintro σ' H' ⟨S', r', L', O', e', j', l', q', h'⟩
          exact ⟨m, Nat.lt_succ_self m, S', r', L', O', e.trans e', j', l', q', h'⟩
        · obtain ⟨rfl, h2⟩ := hy
          have ex : x = v := Option.some.inj ((h2 vs (.of q1)).symm.trans hv)
          subst ex
          exact turn_of j rl rs pv (turn_post h)
      · rename_i hd
        have hl : xs.length ≤ i := List.getElem?_eq_none_iff.mp hd
        exact .inl ⟨⟨vs, .of q1, by rw [q2.length]; exact hl⟩, h S r σ H (Ext.refl _ _) j rl rs⟩
    · exact h.elim
theorem ds_forL (hp : PassesOwn (model X.prog X.w) X.A X.env X.xe) (hc : X.calm = true) (hi : PE X iter (tE X.K ad J W m)) (hg : PG X tg (tG X.K ad J bm)) (hb : PSs X body (tS X.K ad J W s1)) (hs : ∀ x, foldedSetIterable iter X.env x = pure x := by intro _; rfl) :
    PS X (.For tg iter body [] pos) (tS X.K ad J W (sForL m bm s1)) := by
  refine ps_imp (ps_for hp hc (pi_list hi) hg hb hs) ?_
  rintro En σ H ⟨S, r, L, O, j, rl, rs, p⟩
  refine ⟨S, r, L, O, j, rl, rs, (bindS j rl p).imp ?_⟩
  rintro x H1 ⟨S1, r1, d, O1, e1, q1, p1, k1⟩
  have rl1 := rl.mono e1
  cases d with
  | lst ds =>
    obtain ⟨a, vs, rfl, h1, h2⟩ := p1
    have hq : ∀ {S' : Hp} {H : Hp}, Same S1 S' → Same S' H → SqL X.K H a vs := fun e e' => .of (e' _ _ (e _ _ h1))
    refine ⟨a, rfl, ⟨vs, hq (Same.refl _) q1.sub⟩, for_still (It' := Itl X.K a) ds h2 (fun i H S x e e' hx => ⟨vs, x, hq e e', hx⟩) (fun i H S x y H' e e' hx hy => ⟨Option.some.inj ((hy.2 vs (hq e e')).symm.trans hx), hy.1⟩) (fun i H S e e' hl => ⟨vs, hq e e', hl⟩) (J.mono e1.s j) rl1 q1 k1⟩
  | rol ds =>
    obtain ⟨a, vs, rfl, h1, h2⟩ := p1
    have hq : ∀ {S' : Hp} {H : Hp}, Same S1 S' → Same S' H → SqL X.K H a vs := fun e e' => sqL_same e' (sqL_same e h1)
    refine ⟨a, rfl, ⟨vs, hq (Same.refl _) q1.sub⟩, for_still (It' := Itl X.K a) ds h2 (fun i H S x e e' hx => ⟨vs, x, hq e e', hx⟩) (fun i H S x y H' e e' hx hy => ⟨Option.some.inj ((hy.2 vs (hq e e')).symm.trans hx), hy.1⟩) (fun i H S e e' hl => ⟨vs, hq e e', hl⟩) (J.mono e1.s j) rl1 q1 k1⟩
  | hdl n =>
    obtain ⟨a, rfl, ha⟩ := p1
    have k1 : PostS X.K ad J W S1 r1 En (match O1[n]? with | some (.lst xs) => loopH (turnOf bm s1) n xs.length 0 L O1 | _ => .bad) := k1
    split at k1
    · rename_i xs hx
      obtain ⟨_, vs, q3, q4⟩ := q1.ob n a _ ha hx
      exact ⟨a, rfl, ⟨vs, .of q3⟩, for_handle ha (J.mono e1.s j) rl1 q1 k1⟩
    · exact k1.elim
  | non => exact k1.elim
  | bl b => exact k1.elim
  | int i => exact k1.elim
  | str s => exact k1.elim
  | tup s => exact k1.elim
theorem ds_forT (hp : PassesOwn (model X.prog X.w) X.A X.env X.xe) (hc : X.calm = true) (hi : PE X iter (tE X.K ad J W m)) (hg : PG X tg (tG X.K ad J bm)) (hb : PSs X body (tS X.K ad J W s1)) (hs : ∀ x, foldedSetIterable iter X.env x = pure x := by intro _; rfl) :
    PS X (.For tg iter body [] pos) (tS X.K ad J W (sForT m bm s1)) := by
  refine ps_imp (ps_for hp hc (pi_tup hi) hg hb hs) ?_
  rintro En σ H ⟨S, r, L, O, j, rl, rs, p⟩
  refine ⟨S, r, L, O, j, rl, rs, (bindS j rl p).imp ?_⟩
  rintro x H1 ⟨S1, r1, d, O1, e1, q1, p1, k1⟩
  have rl1 := rl.mono e1
  cases d with
  | tup ds =>
    obtain ⟨a, vs, rfl, h1, h2⟩ := p1
    have hq : ∀ {S' : Hp} {H : Hp}, Same S1 S' → Same S' H → SqT X.K H a vs := fun e e' => sqT_same e' (sqT_same e h1)
    refine ⟨a, rfl, ⟨vs, hq (Same.refl _) q1.sub⟩, for_still (It' := Itt X.K a) ds h2 (fun i H S x e e' hx => ⟨vs, x, hq e e', hx⟩) (fun i H S x y H' e e' hx hy => ⟨Option.some.inj ((hy.2 vs (hq e e')).symm.trans hx), hy.1⟩) (fun i H S e e' hl => ⟨vs, hq e e', hl⟩) (J.mono e1.s j) rl1 q1 k1⟩
  | hdl n => exact k1.elim
  | lst n => exact k1.elim
  | rol n => exact k1.elim
  | non => exact k1.elim
  | bl b => exact k1.elim
  | int i => exact k1.elim
  | str s => exact k1.elim
theorem range_rp {S : Hp} {r : Rg} (lo : Int) (n : Nat) : RpAll X.K S r (rangeD lo n) ((List.range n).map fun (i : Nat) => V.int (lo + (i : Int))) := by
  unfold rangeD
  generalize List.range n = l
  induction l with
  | nil => exact rfl
  | cons a l ih => exact ⟨_, _, rfl, rfl, ih⟩
theorem for_range_post {lo : Int} {n : Nat} {S0 : Hp} {r0 : Rg} {L : Loc} {O : Store} {σ : L2.St} {H : Hp} {En : Ends} (j : J.p σ S0) (rl : Rl X.K S0 r0 L σ) (rs : Rs X.K ad S0 r0 O H) (h : PostS X.K ad J W S0 r0 En (loopD (turnOf bm s1) (rangeD lo n) L O)) :
    ∃ W' : Nat → Nat → L2.St → Hp → Prop, (∃ m, W' 0 m σ H) ∧ ∀ i m σ H, W' i m σ H →
      ((Itr lo n).stop i H ∧ En.nx σ H) ∨ ((Itr lo n).go i H ∧ ∃ N : L2.St → Hp → Prop, (∀ σ' H', N σ' H' → ∃ m', m' < m ∧ W' (i + 1) m' σ' H') ∧ ∀ x H', (Itr lo n).yld i H x H' → tG X.K ad J bm x σ H' fun σ2 H2 => tS X.K ad J W s1 { En with nx := N, ct := N, bk := En.nx } σ2 H2) := by
  have hlen : ((List.range n).map fun (i : Nat) => V.int (lo + (i : Int))).length = n := by rw [List.length_map, List.length_range]
  refine for_still (rangeD lo n) (range_rp lo n) (fun i H S x e e' hx => ?_) (fun i H S x y H' e e' hx hy => ?_) (fun i H S e e' hl => ?_) j rl rs h
  · have := (List.getElem?_eq_some_iff.mp hx).1
    rw [hlen] at this
    exact this
  · have hi := (List.getElem?_eq_some_iff.mp hx).1
    rw [hlen] at hi
    rw [List.getElem?_map, List.getElem?_range hi] at hx
    exact ⟨hy.2.trans (Option.some.inj hx), hy.1⟩
  · rw [hlen] at hl
    exact hl
theorem ds_forR1 {p q : Pos} (hp : PassesOwn (model X.prog X.w) X.A X.env X.xe) (hc : X.calm = true) (hg0 : Gl X "range") (hm : X.mg "range" = none) (ha : PA X [a] (tA X.K ad J W mt)) (hg : PG X tg (tG X.K ad J bm)) (hb : PSs X body (tS X.K ad J W s1))
    (hs0 : starEach [a] X.env = [(false, eval a X.env)] := by rfl) (hs : ∀ x, foldedSetIterable (.Call (.Name "range" p) [a] [] q) X.env x = pure x := by intro _; rfl) : PS X (.For tg (.Call (.Name "range" p) [a] [] q) body [] pos) (tS X.K ad J W (sForR1 mt bm s1)) := by
  refine ps_imp (ps_for hp hc (pi_range1 hg0 hm ha hs0) hg hb hs) ?_
  rintro En σ H ⟨S, r, L, O, j, rl, rs, p⟩
  refine ⟨S, r, L, O, j, rl, rs, (bindS j rl p).imp ?_⟩
  rintro vs H1 ⟨S1, r1, ds, O1, e1, q1, p1, k1⟩
  have k2 : PostS X.K ad J W S1 r1 En (match int1 ds with | some j => loopD (turnOf bm s1) (rangeD 0 j.toNat) L O1 | none => .bad) := k1
  clear k1
  revert k2
  cases hj : int1 ds with
  | none => exact fun k2 => k2.elim
  | some jj =>
    intro k1
    obtain ⟨rfl, b1, b2⟩ := int1_ok hj
    obtain ⟨v, vr, rfl, rfl, rfl⟩ := p1
    exact ⟨jj, rfl, by omega, by omega, for_range_post (J.mono e1.s j) (rl.mono e1) q1 k1⟩
theorem loopW_succ {n : Nat} {L : Loc} {O : Store} : loopW tm s1 (n + 1) L O = ofRes L (tm L O) fun k O1 => if k = true then afterT (s1 L O1) (loopW tm s1 n) else .next L O1 := by
  rfl
theorem ds_while {n : Nat} (hp : PassesOwn (model X.prog X.w) X.A X.env X.xe) (hc : PT X c (tT X.K ad J W tm)) (hb : PSs X body (tS X.K ad J W s1)) : PS X (.While c body [] pos) (tS X.K ad J W (sWhile n tm s1)) := by
  refine ps_imp (ps_while hp hc hb) ?_
  rintro En σ H ⟨S, r, L, O, j, rl, rs, p⟩
  refine ⟨fun m σ H => ∃ S r L O, J.p σ S ∧ Rl X.K S r L σ ∧ Rs X.K ad S r O H ∧ PostS X.K ad J W S r En (loopW tm s1 m L O), ⟨n, S, r, L, O, j, rl, rs, p⟩, ?_⟩
  rintro m σ H ⟨S, r, L, O, j, rl, rs, p⟩
  cases m with
  | zero => exact p.elim
  | succ m =>
    rw [loopW_succ] at p
    refine ⟨S, r, L, O, j, rl, rs, (bindS j rl p).imp ?_⟩
    rintro k H1 ⟨S1, r1, d, O1, e1, q1, rfl, k1⟩
    cases k with
    | true =>
      rw [if_pos rfl] at k1 ⊢
      refine ⟨fun σ' H' => ∃ S' r' L' O', Ext S1 r1 S' r' ∧ J.p σ' S' ∧ Rl X.K S' r' L' σ' ∧ Rs X.K ad S' r' O' H' ∧ PostS X.K ad J W S' r' En (loopW tm s1 m L' O'), ?_, S1, r1, L, O1, J.mono e1.s j, rl.mono e1, q1, turn_post k1⟩
      rintro σ' H' ⟨S', r', L', O', e', j', l', q', h'⟩
      exact ⟨m, Nat.lt_succ_self m, S', r', L', O', j', l', q', h'⟩
    | false =>
      rw [if_neg Bool.false_ne_true] at k1 ⊢
      exact k1 S1 r1 σ H1 (Ext.refl _ _) (J.mono e1.s j) (rl.mono e1) q1
end
/-! ### a def -/
section
variable {P : Program} {w : World} {K : PySem.W.Frag} {mg : Str → Option Value} {base : Heap} {ad : Str → Addr}
theorem start_rl {S : Hp} {r : Rg} {N : List Str} {ds : List D} {vs : List V} (hl : vs.length ≤ N.length) (h : RpAll K S r ds vs) : Rl K S r (ds.map some ++ List.replicate (N.length - ds.length) none) (L2.start N vs) where
  len := by
    unfold L2.start
    rw [List.length_append, List.length_append, List.length_map, List.length_map, List.length_replicate, List.length_replicate, h.length]
  at_ := fun i d q => by
    by_cases hi : i < ds.length
    · rw [List.getElem?_append_left (by rw [List.length_map]; exact hi), List.getElem?_map] at q
      cases e : ds[i]? with
      | none => rw [e] at q; cases q
      | some d' =>
        rw [e] at q
        obtain rfl : d' = d := Option.some.inj (Option.some.inj q)
        obtain ⟨v, hv, p⟩ := h.get e
        refine ⟨v, ?_, p⟩
        unfold L2.start
        rw [List.getElem?_append_left (by rw [List.length_map, h.length]; exact hi), List.getElem?_map, hv]
        rfl
    · rw [List.getElem?_append_right (by rw [List.length_map]; omega), List.getElem?_replicate] at q
      split at q <;> cases q
theorem fn_def {x qual : Str} {params : Arguments} {bd : List Stmt} {scope : Scope} {dvs : List V} {kws : List (Str × V)} {f : Addr} {fd : FuncData} {N ps : List Str} {k : Nat} {b : SM} (F : FunD K x qual params bd scope dvs kws f fd) (sc : FnScope N ps scope)
    (hb : ∀ (cdv : Value) (A : Around) (outer : List Env) (s : Shared) (H : Hp) (E : XK), Room k (A.deeper (PyProof.Rows.envOfC qual scope s.heap.objs.size f cdv)) →
      PSs (cxOf (L2.CX P w) P w K mg base N qual scope f cdv A outer s H E) bd (tS K ad JT (fun c d _ H => E c d H) b)) :
    FnOk P w K mg base (L2.CX P w) (k + 1) f fd ps (spM K ad ps.length (runF N.length b)) := by
  have hpl : ps.length ≤ N.length := by have := congrArg List.length sc.pre; rw [List.length_take] at this; omega
  refine F.ok sc (fun vs H Q E h => ?_) (fun cdv A outer s H vs Q E hr h => ?_)
  · obtain ⟨S, r, O, ds, hl, _, hp, _⟩ := h
    rw [hp.length, hl]
  · refine ⟨_, hb cdv A outer s H E hr, ?_⟩
    obtain ⟨S, r, O, ds, hl, rs, hp, p⟩ := h
    refine ⟨S, r, _, O, trivial, start_rl (by rw [hp.length, hl]; exact hpl) hp, rs, ?_⟩
    unfold runF at p
    generalize b (ds.map some ++ List.replicate (N.length - ds.length) none) O = z at p
    cases z with
    | next L O => exact fun S' r' σ H e _ _ q => p S' r' H .non e q rfl
    | ret d O => exact p
    | brk L O => exact p.elim
    | cnt L O => exact p.elim
    | exc x L O => exact fun S' r' σ H d e _ _ q g => p S' r' H d e q g
    | bad => exact p
end
end DK
end
section
set_option Elab.async false
set_option linter.all false
set_option autoImplicit false
set_option maxRecDepth 100000
set_option maxHeartbeats 4000000
/-! DKOps: operators, subscripts, built-ins, by mirrors. -/
namespace DK
open PySem L2
def newLO (h : Bool) (xs : List D) (O : Store) : Option (D × Store) := if xs.length ≤ 1000000 then (if h = true then some (.hdl O.length, O ++ [.lst xs]) else some (.lst xs, O)) else none
theorem ofO_newLO (h : Bool) (xs : List D) (O : Store) : ofO (newLO h xs O) = newL h xs O := by
  unfold newLO newL
  split
  · split <;> rfl
  · rfl
/-! ### + and others -/
def gAdd (h : Bool) : Store → D → D → Option (D × Store) := fun O x y => match x, y with
  | .int i, .int j => some (.int (i + j), O)
  | .str a, .str b => if a.length + b.length ≤ 1000000 then some (.str (a ++ b), O) else none
  | .tup a, .tup b => if a.length + b.length ≤ 1000000 then some (.tup (a ++ b), O) else none
  | _, _ => match lstOf O x, lstOf O y with
    | some a, some b => newLO h (a ++ b) O
    | _, _ => none
def gI (f : Int → Int → D) (C : Int → Int → Bool) : Store → D → D → Option (D × Store) := fun O x y => match x, y with
  | .int i, .int j => if C i j = true then some (f i j, O) else none
  | _, _ => none
def gSub := gI (fun i j => .int (i - j)) (fun _ _ => true)
def gMul := gI (fun i j => .int (i * j)) (fun i j => decide (i.natAbs.log2 + j.natAbs.log2 < 1000000))
def gFdiv := gI (fun i j => .int (i / j)) (fun _ j => decide (0 < j ∧ j.natAbs.log2 < 9000))
def gMod := gI (fun i j => .int (i % j)) (fun _ j => decide (0 < j))
def gPow := gI (fun i j => .int (i ^ j.toNat)) (fun i j => decide (0 ≤ j ∧ j ≤ 1000000 ∧ i.natAbs < 2 ^ 64))
section
variable {X : Cx} {ad : Str → Addr}
theorem catL {S : Hp} {r : Rg} {O : Store} {H : Hp} {x y : V} {d e : D} {W : WX} {σ : L2.St} {Q : VK} {h : Bool} (rs : Rs X.K ad S r O H) (px : Rp X.K S r d x) (py : Rp X.K S r e y)
    (p : Post X.K ad (fun S r => Rp X.K S r) W σ S r Q (ofO (match lstOf O d, lstOf O e with | some a, some b => newLO h (a ++ b) O | _, _ => none))) : rCat x y H Q := by
  split at p
  · rename_i a b ha hb
    obtain ⟨l, vs, rfl, q1, q2⟩ := lstOf_ok rs px ha
    obtain ⟨m, us, rfl, q3, q4⟩ := lstOf_ok rs py hb
    rw [ofO_newLO] at p
    obtain ⟨h1, h2⟩ := newL_post rs (q2.append q4) p
    exact ⟨l, m, vs, us, rfl, rfl, q1, q3, by rw [List.length_append] at h1; exact h1, h2⟩
  · exact p.elim
theorem od_add (h : Bool) : OpD X ad (binaryOp .Add) (gAdd h) where
  ok := by
    refine ⟨_, OpR.or op_add (OpR.or op_add_str (OpR.or op_catA op_cat)), ?_⟩
    intro S r O H x y d e W σ Q rs px py p
    unfold gAdd at p
    split at p
    · rename_i i j
      rw [show x = .int i from px, show y = .int j from py]
      exact .inl ⟨i, j, rfl, rfl, p S r H _ (Ext.refl _ _) rs rfl⟩
    · rename_i a b
      rw [show x = .str a from px, show y = .str b from py]
      split at p
      · rename_i hl
        exact .inr (.inl ⟨a, b, rfl, rfl, million hl, p S r H _ (Ext.refl _ _) rs rfl⟩)
      · exact p.elim
    · rename_i a b
      split at p
      · rename_i hl
        obtain ⟨l, vs, rfl, q1, q2⟩ := px
        obtain ⟨m, us, rfl, q3, q4⟩ := py
        refine .inr (.inr (.inl ⟨l, m, vs, us, rfl, rfl, sqT_same rs.sub q1, sqT_same rs.sub q3, by rw [q2.length, q4.length]; exact million hl, fun e => ?_, fun e1 e2 => ?_, fun e1 e2 => ?_⟩))
        · refine p S r H _ (Ext.refl _ _) rs ⟨m, us, rfl, q3, ?_⟩
          have q5 := q2.append q4
          rw [e] at q5
          exact q5
        · refine p S r H _ (Ext.refl _ _) rs ⟨l, vs, rfl, q1, ?_⟩
          have q5 := q2.append q4
          rw [e2, List.append_nil] at q5
          exact q5
        · exact newT_post rs (q2.append q4) p
      · exact p.elim
    · exact .inr (.inr (.inr (catL rs px py p)))
theorem od_I {bop : Value → Value → Sem Value} {f : Int → Int → V} {g : Int → Int → D} {C : Int → Int → Prop} {c : Int → Int → Bool} (ho : OpR X bop (rI C f)) (hc : ∀ i j, c i j = true → C i j) (hg : ∀ i j S r, Rp X.K S r (g i j) (f i j)) : OpD X ad bop (gI g c) where
  ok := by
    refine ⟨_, ho, ?_⟩
    intro S r O H x y d e W σ Q rs px py p
    unfold gI at p
    split at p
    · rename_i i j
      rw [show x = .int i from px, show y = .int j from py]
      split at p
      · rename_i hcc
        exact ⟨i, j, rfl, rfl, hc i j hcc, p S r H _ (Ext.refl _ _) rs (hg i j S r)⟩
      · exact p.elim
    · exact p.elim
theorem od_I0 {bop : Value → Value → Sem Value} {f : Int → Int → V} {g : Int → Int → D} (ho : OpR X bop (rI0 f)) (hg : ∀ i j S r, Rp X.K S r (g i j) (f i j)) : OpD X ad bop (gI g fun _ _ => true) where
  ok := by
    refine ⟨_, ho, ?_⟩
    intro S r O H x y d e W σ Q rs px py p
    unfold gI at p
    split at p
    · rename_i i j
      rw [show x = .int i from px, show y = .int j from py]
      rw [if_pos rfl] at p
      exact ⟨i, j, rfl, rfl, p S r H _ (Ext.refl _ _) rs (hg i j S r)⟩
    · exact p.elim
theorem od_sub : OpD X ad (binaryOp .Sub) gSub := od_I0 op_sub fun _ _ _ _ => rfl
theorem od_mul : OpD X ad (binaryOp .Mult) gMul := od_I op_mulW (fun i j h => (of_decide_eq_true h : i.natAbs.log2 + j.natAbs.log2 < 1000000)) fun _ _ _ _ => rfl
theorem od_fdiv : OpD X ad (binaryOp .FloorDiv) gFdiv := od_I op_fdivW (fun i j h => (of_decide_eq_true h : 0 < j ∧ j.natAbs.log2 < 9000)) fun _ _ _ _ => rfl
theorem od_mod : OpD X ad (binaryOp .Mod) gMod := od_I op_mod (fun i j h => of_decide_eq_true h) fun _ _ _ _ => rfl
theorem od_pow : OpD X ad (binaryOp .Pow) gPow := od_I op_pow (fun i j h => (of_decide_eq_true h : 0 ≤ j ∧ j ≤ 1000000 ∧ i.natAbs < 2 ^ 64)) fun _ _ _ _ => rfl
/-! ### comparisons -/
/-- ints, texts -/
def gCmp (f : Int → Int → Bool) (g : Str → Str → Bool) : Store → D → D → Option (D × Store) := fun O x y => match x, y with
  | .int i, .int j => some (.bl (f i j), O)
  | .str i, .str j => some (.bl (g i j), O)
  | _, _ => none
def gLt := gCmp (fun i j => decide (i < j)) (fun i j => decide (i.cps.toList < j.cps.toList))
def gLe := gCmp (fun i j => decide (i ≤ j)) (fun i j => !decide (j.cps.toList < i.cps.toList))
def gGt := gCmp (fun i j => decide (j < i)) (fun i j => decide (j.cps.toList < i.cps.toList))
def gGe := gCmp (fun i j => decide (j ≤ i)) (fun i j => !decide (i.cps.toList < j.cps.toList))
theorem od_cmp {bop : Value → Value → Sem Value} {f : Int → Int → Bool} {g : Str → Str → Bool} (h1 : OpR X bop (rI0 fun i j => .bl (f i j))) (h2 : OpR X bop (fun x y H Q => ∃ i j, x = .str i ∧ y = .str j ∧ Q (.bl (g i j)) H)) : OpD X ad bop (gCmp f g) where
  ok := by
    refine ⟨_, OpR.or h1 h2, ?_⟩
    intro S r O H x y d e W σ Q rs px py p
    unfold gCmp at p
    split at p
    · rename_i i j
      rw [show x = .int i from px, show y = .int j from py]
      exact .inl ⟨i, j, rfl, rfl, p S r H _ (Ext.refl _ _) rs rfl⟩
    · rename_i i j
      rw [show x = .str i from px, show y = .str j from py]
      exact .inr ⟨i, j, rfl, rfl, p S r H _ (Ext.refl _ _) rs rfl⟩
    · exact p.elim
theorem od_lt : OpD X ad (compareOp .Lt) gLt := od_cmp op_lt op_lt_str
theorem od_le : OpD X ad (compareOp .LtE) gLe := od_cmp op_le op_le_str
theorem od_gt : OpD X ad (compareOp .Gt) gGt := od_cmp op_gt op_gt_str
theorem od_ge : OpD X ad (compareOp .GtE) gGe := od_cmp op_ge op_ge_str
/-- flat values -/
def flatOf : D → Option V
  | .non => some .non
  | .bl b => some (.bl b)
  | .int i => some (.int i)
  | .str s => some (.str s)
  | _ => none
theorem flatOf_ok {K : PySem.W.Frag} {S : Hp} {r : Rg} {d : D} {v x : V} (h : flatOf d = some v) (p : Rp K S r d x) : x = v ∧ flatV v = true := by
  cases d <;> first | (cases h; done) | (have e := Option.some.inj h; subst e; exact ⟨p, rfl⟩)
/-- a value read through, for == -/
def deep (O : Store) : Nat → D → Option PyData
  | 0, _ => none
  | n + 1, .non => some .none
  | n + 1, .bl b => some (.bool b)
  | n + 1, .int i => some (.int i)
  | n + 1, .str s => some (.str s)
  | n + 1, .lst xs => (xs.mapM (deep O n)).map .list
  | n + 1, .rol xs => (xs.mapM (deep O n)).map .list
  | n + 1, .tup xs => (xs.mapM (deep O n)).map .tuple
  | n + 1, .hdl k => match O[k]? with
    | some (.lst xs) => (xs.mapM (deep O n)).map .list
    | _ => none
theorem mapM_cons {α β : Type} {f : α → Option β} {x : α} {xs : List α} : (x :: xs).mapM f = (f x).bind fun y => (xs.mapM f).bind fun ys => some (y :: ys) := by
  simp [List.mapM_cons]
theorem deepAll_ok {K : PySem.W.Frag} {S : Hp} {r : Rg} {H : Hp} {g : D → Option PyData} (hg : ∀ d v p, Rp K S r d v → g d = some p → Dp K H v p) : ∀ {ds : List D} {vs : List V} {ps : List PyData}, RpAll K S r ds vs → ds.mapM g = some ps → DpAll K H vs ps
  | [], vs, ps, h, e => by
    rw [show vs = [] from h]
    have e : some [] = some ps := by rw [List.mapM_nil] at e; exact e
    cases e
    exact .nil
  | d :: ds, vs, ps, h, e => by
    obtain ⟨v, vr, rfl, h1, h2⟩ := h
    rw [mapM_cons] at e
    cases e1 : g d with
    | none => rw [e1] at e; cases e
    | some p =>
      rw [e1] at e
      cases e2 : ds.mapM g with
      | none =>
        rw [e2] at e
        cases e
      | some qs =>
        rw [e2] at e
        cases e
        exact .cons (hg d v p h1 e1) (deepAll_ok hg h2 e2)
theorem deep_ok {K : PySem.W.Frag} {S : Hp} {r : Rg} {O : Store} {H : Hp} (rs : Rs K ad S r O H) : ∀ (n : Nat) (d : D) (v : V) (p : PyData), Rp K S r d v → deep O n d = some p → Dp K H v p
  | 0, d, v, p, h, e => by cases e
  | n + 1, .non, v, p, h, e => by cases e; rw [show v = .non from h]; exact .non
  | n + 1, .bl b, v, p, h, e => by cases e; rw [show v = .bl b from h]; exact .bl b
  | n + 1, .int i, v, p, h, e => by cases e; rw [show v = .int i from h]; exact .int i
  | n + 1, .str s, v, p, h, e => by cases e; rw [show v = .str s from h]; exact .str s
  | n + 1, .lst xs, v, p, h, e => by
    obtain ⟨a, vs, rfl, q1, q2⟩ := h
    obtain ⟨ps, e1, rfl⟩ := Option.map_eq_some_iff.mp (show (xs.mapM (deep O n)).map .list = some p from e)
    exact .lst (.of (rs.sub _ _ q1)) (deepAll_ok (deep_ok rs n) q2 e1)
  | n + 1, .rol xs, v, p, h, e => by
    obtain ⟨a, vs, rfl, q1, q2⟩ := h
    obtain ⟨ps, e1, rfl⟩ := Option.map_eq_some_iff.mp (show (xs.mapM (deep O n)).map .list = some p from e)
    exact .lst (sqL_same rs.sub q1) (deepAll_ok (deep_ok rs n) q2 e1)
  | n + 1, .tup xs, v, p, h, e => by
    obtain ⟨a, vs, rfl, q1, q2⟩ := h
    obtain ⟨ps, e1, rfl⟩ := Option.map_eq_some_iff.mp (show (xs.mapM (deep O n)).map .tuple = some p from e)
    exact .tup (sqT_same rs.sub q1) (deepAll_ok (deep_ok rs n) q2 e1)
  | n + 1, .hdl k, v, p, h, e => by
    have e : (match O[k]? with | some (.lst xs) => (xs.mapM (deep O n)).map .list | _ => none) = some p := e
    split at e
    · rename_i xs hx
      obtain ⟨a, rfl, q1, _, vs, q3, q4⟩ := hdl_at rs h hx
      obtain ⟨ps, e1, rfl⟩ := Option.map_eq_some_iff.mp e
      exact .lst (.of q3) (deepAll_ok (deep_ok rs n) q4 e1)
    · cases e
/-- == -/
def eqD (O : Store) (x y : D) : Option Bool := match flatOf x, flatOf y with
  | some v, some u => if scal v u = true then some (decide (v = u)) else match deep O 2 x, deep O 2 y with
    | some p, some q => if SeqAt.shaped p = true ∧ SeqAt.shaped q = true then some (PyData.eqv p q) else none
    | _, _ => none
  | _, _ => match deep O 30 x, deep O 30 y with
    | some p, some q => if SeqAt.shaped p = true ∧ SeqAt.shaped q = true then some (PyData.eqv p q) else none
    | _, _ => none
def gEq : Store → D → D → Option (D × Store) := fun O x y => match eqD O x y with
  | some b => some (.bl b, O)
  | none => none
def gNe : Store → D → D → Option (D × Store) := fun O x y => match eqD O x y with
  | some b => some (.bl (!b), O)
  | none => none
theorem eqD_ok {S : Hp} {r : Rg} {O : Store} {H : Hp} {x y : V} {d e : D} {b : Bool} (rs : Rs X.K ad S r O H) (px : Rp X.K S r d x) (py : Rp X.K S r e y) (h : eqD O d e = some b) :
    (scal x y = true ∧ decide (x = y) = b) ∨ (∃ p q, Dp X.K H x p ∧ Dp X.K H y q ∧ SeqAt.shaped p = true ∧ SeqAt.shaped q = true ∧ PyData.eqv p q = b) := by
  have deepCase : ∀ n, (match deep O n d, deep O n e with | some p, some q => if SeqAt.shaped p = true ∧ SeqAt.shaped q = true then some (PyData.eqv p q) else none | _, _ => none) = some b →
      (∃ p q, Dp X.K H x p ∧ Dp X.K H y q ∧ SeqAt.shaped p = true ∧ SeqAt.shaped q = true ∧ PyData.eqv p q = b) := fun n h => by
    split at h
    · rename_i p q e1 e2
      split at h
      · rename_i hs
        exact ⟨p, q, deep_ok rs n d x p px e1, deep_ok rs n e y q py e2, hs.1, hs.2, Option.some.inj h⟩
      · cases h
    · cases h
  unfold eqD at h
  split at h
  · rename_i v u e1 e2
    split at h
    · rename_i hs
      obtain ⟨rfl, _⟩ := flatOf_ok e1 px
      obtain ⟨rfl, _⟩ := flatOf_ok e2 py
      exact .inl ⟨hs, Option.some.inj h⟩
    · exact .inr (deepCase 2 h)
  · exact .inr (deepCase 30 h)
theorem od_eq (hu : X.A.units + 64 < cLine) : OpD X ad (compareOp .Eq) gEq where
  ok := by
    refine ⟨_, OpR.or op_eq (op_eqD hu), ?_⟩
    intro S r O H x y d e W σ Q rs px py p
    unfold gEq at p
    split at p
    · rename_i b hb
      have q := p S r H (.bl b) (Ext.refl _ _) rs rfl
      rcases eqD_ok rs px py hb with ⟨h1, h2⟩ | ⟨p1, p2, h1, h2, h3, h4, h5⟩
      · exact .inl ⟨h1, by rw [h2]; exact q⟩
      · exact .inr ⟨p1, p2, h1, h2, h3, h4, by rw [h5]; exact q⟩
    · exact p.elim
theorem od_ne (hu : X.A.units + 64 < cLine) : OpD X ad (compareOp .NotEq) gNe where
  ok := by
    refine ⟨_, OpR.or op_ne (op_neD hu), ?_⟩
    intro S r O H x y d e W σ Q rs px py p
    unfold gNe at p
    split at p
    · rename_i b hb
      have q := p S r H (.bl (!b)) (Ext.refl _ _) rs rfl
      rcases eqD_ok rs px py hb with ⟨h1, h2⟩ | ⟨p1, p2, h1, h2, h3, h4, h5⟩
      · exact .inl ⟨h1, by rw [h2]; exact q⟩
      · exact .inr ⟨p1, p2, h1, h2, h3, h4, by rw [h5]; exact q⟩
    · exact p.elim
def isNon : D → Bool
  | .non => true
  | _ => false
theorem isNon_ok {K : PySem.W.Frag} {S : Hp} {r : Rg} {d : D} {x : V} (p : Rp K S r d x) : decide (x = .non) = isNon d := by
  cases d with
  | non => rw [show x = .non from p]; rfl
  | bl b => rw [show x = .bl b from p]; rfl
  | int i => rw [show x = .int i from p]; rfl
  | str s => rw [show x = .str s from p]; rfl
  | lst s => obtain ⟨a, _, rfl, _⟩ := p; rfl
  | rol s => obtain ⟨a, _, rfl, _⟩ := p; rfl
  | tup s => obtain ⟨a, _, rfl, _⟩ := p; rfl
  | hdl s => obtain ⟨a, rfl, _⟩ := p; rfl
def gIs : Store → D → D → Option (D × Store) := fun O x y => match y with
  | .non => some (.bl (isNon x), O)
  | _ => none
def gIsNot : Store → D → D → Option (D × Store) := fun O x y => match y with
  | .non => some (.bl (!isNon x), O)
  | _ => none
theorem od_isnot : OpD X ad (compareOp .IsNot) gIsNot where
  ok := by
    refine ⟨_, op_notN, ?_⟩
    intro S r O H x y d e W σ Q rs px py p
    unfold gIsNot at p
    split at p
    · exact ⟨py, by rw [isNon_ok px]; exact p S r H _ (Ext.refl _ _) rs rfl⟩
    · exact p.elim
/-- in, not in: a sign in a text; a flat value in a list or tuple of flat ones -/
def inD (O : Store) (x y : D) : Option Bool := match x, y with
  | .str z, .str w => match z.cps.toList with
    | [c] => some (decide (c ∈ w.cps.toList))
    | _ => none
  | _, _ => match seqOf O y, flatOf x with
    | some ds, some v => match ds.mapM flatOf with
      | some vs => some (inV v vs)
      | none => none
    | _, _ => none
def gIn : Store → D → D → Option (D × Store) := fun O x y => match inD O x y with
  | some b => some (.bl b, O)
  | none => none
def gNotIn : Store → D → D → Option (D × Store) := fun O x y => match inD O x y with
  | some b => some (.bl (!b), O)
  | none => none
theorem flats_ok {K : PySem.W.Frag} {S : Hp} {r : Rg} : ∀ {ds : List D} {vs us : List V}, ds.mapM flatOf = some vs → RpAll K S r ds us → us = vs ∧ vs.all flatV = true
  | [], vs, us, e, h => by
    have e : some [] = some vs := by rw [List.mapM_nil] at e; exact e
    cases e
    exact ⟨h, rfl⟩
  | d :: ds, vs, us, e, h => by
    obtain ⟨v, vr, rfl, h1, h2⟩ := h
    rw [mapM_cons] at e
    cases e1 : flatOf d with
    | none => rw [e1] at e; cases e
    | some p =>
      rw [e1] at e
      cases e2 : ds.mapM flatOf with
      | none => rw [e2] at e; cases e
      | some qs =>
        rw [e2] at e
        cases e
        obtain ⟨rfl, f1⟩ := flatOf_ok e1 h1
        obtain ⟨rfl, f2⟩ := flats_ok e2 h2
        exact ⟨rfl, by rw [List.all_cons, f1, f2]; rfl⟩
theorem inD_ok {S : Hp} {r : Rg} {O : Store} {H : Hp} {x y : V} {d e : D} {b : Bool} (rs : Rs X.K ad S r O H) (px : Rp X.K S r d x) (py : Rp X.K S r e y) (h : inD O d e = some b) :
    (∃ (c : Nat) (z : Str), x = .str ⟨#[c]⟩ ∧ y = .str z ∧ decide (c ∈ z.cps.toList) = b) ∨ (∃ p xs, y = .ref p ∧ (SqL X.K H p xs ∨ SqT X.K H p xs) ∧ flatV x = true ∧ xs.all flatV = true ∧ inV x xs = b) := by
  unfold inD at h
  split at h
  · rename_i z w
    split at h
    · rename_i c hc
      refine .inl ⟨c, w, ?_, py, Option.some.inj h⟩
      rw [show x = .str z from px]
      congr 1
      obtain ⟨⟨l⟩⟩ := z
      have hc : l = [c] := hc
      rw [hc]
    · cases h
  · split at h
    · rename_i ds v e1 e2
      split at h
      · rename_i vs e3
        obtain ⟨a, us, rfl, q1, q2⟩ := seqOf_ok rs py e1
        obtain ⟨rfl, f1⟩ := flatOf_ok e2 px
        obtain ⟨rfl, f2⟩ := flats_ok e3 q2
        exact .inr ⟨a, us, rfl, q1, f1, f2, Option.some.inj h⟩
      · cases h
    · cases h
theorem od_in : OpD X ad (compareOp .In) gIn where
  ok := by
    refine ⟨_, OpR.or op_in_sign op_in_seq, ?_⟩
    intro S r O H x y d e W σ Q rs px py p
    unfold gIn at p
    split at p
    · rename_i b hb
      have q := p S r H (.bl b) (Ext.refl _ _) rs rfl
      rcases inD_ok rs px py hb with ⟨c, z, h1, h2, h3⟩ | ⟨p1, xs, h1, h2, h3, h4, h5⟩
      · exact .inl ⟨c, z, h1, h2, by rw [h3]; exact q⟩
      · exact .inr ⟨p1, xs, h1, h2, h3, h4, by rw [if_neg Bool.false_ne_true, h5]; exact q⟩
    · exact p.elim
theorem od_notin : OpD X ad (compareOp .NotIn) gNotIn where
  ok := by
    refine ⟨_, OpR.or op_notIn_sign op_notIn_seq, ?_⟩
    intro S r O H x y d e W σ Q rs px py p
    unfold gNotIn at p
    split at p
    · rename_i b hb
      have q := p S r H (.bl (!b)) (Ext.refl _ _) rs rfl
      rcases inD_ok rs px py hb with ⟨c, z, h1, h2, h3⟩ | ⟨p1, xs, h1, h2, h3, h4, h5⟩
      · exact .inl ⟨c, z, h1, h2, by rw [h3]; exact q⟩
      · exact .inr ⟨p1, xs, h1, h2, h3, h4, by rw [if_pos rfl, h5]; exact q⟩
    · exact p.elim
end
/-! ### subscripts -/
/-- xs[i], t[i], s[i] -/
def gIx : Store → D → D → Option (D × Store) := fun O x y => match y with
  | .int i => match x with
    | .str s => if s.length ≤ 1000000 then (match atI s.cps.toList i with
      | some c => some (.str ⟨#[c]⟩, O)
      | none => none) else none
    | _ => match seqOf O x with
      | some ds => match atI ds i with
        | some d => some (d, O)
        | none => none
      | none => none
  | _ => none
section
variable {X : Cx} {ad : Str → Addr} {J : JP} {W : WX} {pos p2 : Pos} {a b e : Expr} {ma mb : EM}
theorem atI_rp {K : PySem.W.Frag} {S : Hp} {r : Rg} {ds : List D} {vs : List V} {i : Int} {d : D} (h : RpAll K S r ds vs) (e : atI ds i = some d) : ∃ v, atI vs i = some v ∧ Rp K S r d v := by
  unfold atI at e ⊢
  rw [h.length]
  cases hj : ixN ds.length i with
  | none => rw [hj] at e; cases e
  | some j =>
    rw [hj] at e
    exact h.get e
theorem de_ix (ha : PE X a (tE X.K ad J W ma)) (hb : PE X b (tE X.K ad J W mb)) (hs : PlainIx b) : PE X (.Subscript a b pos) (tE X.K ad J W (mOp gIx ma mb)) := by
  refine pe_imp (pe_ix ix_seq ha hb hs) ?_
  rintro σ H Q ⟨S, r, L, O, j, rl, rs, p⟩
  refine ⟨S, r, L, O, j, rl, rs, (Post.bind p).imp ?_⟩
  rintro x H1 ⟨S1, r1, d, O1, e1, s1, p1, q1⟩
  refine ⟨S1, r1, L, O1, J.mono e1.s j, rl.mono e1, s1, (Post.bind q1).imp ?_⟩
  rintro y H2 ⟨S2, r2, e, O2, e2, s2, p2, q2⟩
  replace p1 := Rp.mono e2 d x p1
  replace q2 : Post X.K ad (fun S r => Rp X.K S r) W σ S2 r2 Q (ofO (gIx O2 d e)) := q2
  unfold gIx at q2
  split at q2
  · rename_i i
    rw [show y = .int i from p2]
    split at q2
    · rename_i s
      rw [show x = .str s from p1]
      split at q2
      · rename_i hl
        split at q2
        · rename_i c hc
          exact .inr (.inr ⟨s, i, c, rfl, rfl, million hl, hc, q2 S2 r2 H2 _ (Ext.refl _ _) s2 rfl⟩)
        · exact q2.elim
      · exact q2.elim
    · split at q2
      · rename_i ds hds
        split at q2
        · rename_i z hz
          obtain ⟨l, vs, rfl, h1, h2⟩ := seqOf_ok s2 p1 hds
          obtain ⟨v, hv, pv⟩ := atI_rp h2 hz
          have q := q2 S2 r2 H2 v (Ext.refl _ _) s2 pv
          rcases h1 with h1 | h1
          · exact .inl ⟨l, vs, i, v, rfl, rfl, h1, hv, q⟩
          · exact .inr (.inl ⟨l, vs, i, v, rfl, rfl, h1, hv, q⟩)
        · exact q2.elim
      · exact q2.elim
  · exact q2.elim
end
/-- lists alone -/
def lsqOf (O : Store) : D → Option (List D)
  | .lst xs => some xs
  | .rol xs => some xs
  | .hdl n => match O[n]? with
    | some (.lst xs) => some xs
    | _ => none
  | _ => none
theorem lsqOf_ok {K : PySem.W.Frag} {ad : Str → Addr} {S : Hp} {r : Rg} {O : Store} {H : Hp} {d : D} {x : V} {xs : List D} (s : Rs K ad S r O H) (p : Rp K S r d x) (h : lsqOf O d = some xs) : ∃ a vs, x = .ref a ∧ SqL K H a vs ∧ RpAll K S r xs vs := by
  cases d with
  | lst ds =>
    obtain rfl : ds = xs := Option.some.inj h
    obtain ⟨a, vs, e, q, w⟩ := p
    exact ⟨a, vs, e, .of (s.sub _ _ q), w⟩
  | rol ds =>
    obtain rfl : ds = xs := Option.some.inj h
    obtain ⟨a, vs, e, q, w⟩ := p
    exact ⟨a, vs, e, sqL_same s.sub q, w⟩
  | tup ds => cases h
  | hdl n =>
    replace h : (match O[n]? with | some (Ob.lst xs) => some xs | _ => none) = some xs := h
    split at h
    · rename_i zs e
      obtain rfl : zs = xs := Option.some.inj h
      obtain ⟨a, e1, e2, _, vs, e3, e4⟩ := hdl_at s p e
      exact ⟨a, vs, e1, .of e3, e4⟩
    · cases h
  | non => cases h
  | bl b => cases h
  | int i => cases h
  | str z => cases h
/-- a slice's ends -/
abbrev OM := Loc → Store → Res (Option Int)
def oNone : OM := fun _ O => .ok none O
def oSome (m : EM) : OM := fun L O => (m L O).bind fun d O1 => match d with
  | .int i => .ok (some i) O1
  | _ => .bad
def cutD {α : Type} (xs : List α) (lo hi : Option Int) : List α := (xs.drop (HT.sIx xs.length 0 lo)).take (HT.sIx xs.length xs.length hi - HT.sIx xs.length 0 lo)
def gSl (h : Bool) (x : D) (lo hi : Option Int) (O : Store) : Res D := match x with
  | .str s => if s.length ≤ 1000000 then .ok (.str (cutS s lo hi)) O else .bad
  | .tup ds => .ok (.tup (cutD ds lo hi)) O
  | _ => match lsqOf O x with
    | some ds => newL h (cutD ds lo hi) O
    | none => .bad
def mSl (h : Bool) (m : EM) (lo hi : OM) : EM := fun L O => (m L O).bind fun x O1 => (lo L O1).bind fun i O2 => (hi L O2).bind fun j O3 => gSl h x i j O3
section
variable {X : Cx} {ad : Str → Addr} {J : JP} {W : WX} {pos p2 : Pos} {a e : Expr} {ma : EM} {lo hi : Option Expr} {ml mh : OM}
def tO (K : PySem.W.Frag) (ad : Str → Addr) (J : JP) (W : WX) (m : OM) : TO := fun σ H Q => ∃ S r L O, J.p σ S ∧ Rl K S r L σ ∧ Rs K ad S r O H ∧ Post K ad (fun _ _ a v => v = a) W σ S r Q (m L O)
theorem po_imp {t t' : TO} (h : PO X lo t) (k : ∀ σ H Q, t' σ H Q → t σ H Q) : PO X lo t' := ⟨fun pins s σ H Q I q => h.run pins s σ H Q I (k σ H Q q)⟩
theorem do_none : PO X none (tO X.K ad J W oNone) := by
  refine po_imp po_none ?_
  rintro σ H Q ⟨S, r, L, O, j, rl, rs, p⟩
  exact p S r H none (Ext.refl _ _) rs rfl
theorem do_some (he : PE X e (tE X.K ad J W ma)) : PO X (some e) (tO X.K ad J W (oSome ma)) := by
  refine po_imp (po_some he) ?_
  rintro σ H Q ⟨S, r, L, O, j, rl, rs, p⟩
  refine ⟨S, r, L, O, j, rl, rs, (Post.bind p).imp ?_⟩
  rintro x H1 ⟨S1, r1, d, O1, e1, s1, p1, q1⟩
  cases d with
  | int i => exact ⟨i, p1, q1 S1 r1 H1 _ (Ext.refl _ _) s1 rfl⟩
  | non => exact q1.elim
  | bl i => exact q1.elim
  | str s => exact q1.elim
  | lst s => exact q1.elim
  | rol s => exact q1.elim
  | tup s => exact q1.elim
  | hdl s => exact q1.elim
theorem cut_rp {K : PySem.W.Frag} {S : Hp} {r : Rg} {ds : List D} {vs : List V} (h : RpAll K S r ds vs) (lo hi : Option Int) : RpAll K S r (cutD ds lo hi) (cutV vs lo hi) := by
  unfold cutD cutV
  rw [h.length]
  exact (h.drop _).take _
theorem de_sl {hm : Bool} (ha : PE X a (tE X.K ad J W ma)) (hl : PO X lo (tO X.K ad J W ml)) (hh : PO X hi (tO X.K ad J W mh)) : PE X (.Subscript a (.Slice lo hi none p2) pos) (tE X.K ad J W (mSl hm ma ml mh)) := by
  refine pe_imp (pe_slice (SlR.or sl_list (SlR.or sl_tupA sl_str)) ha hl hh) ?_
  rintro σ H Q ⟨S, r, L, O, j, rl, rs, p⟩
  refine ⟨S, r, L, O, j, rl, rs, (Post.bind p).imp ?_⟩
  rintro x H1 ⟨S1, r1, d, O1, e1, s1, p1, q1⟩
  refine ⟨S1, r1, L, O1, J.mono e1.s j, rl.mono e1, s1, (Post.bind q1).imp ?_⟩
  rintro i H2 ⟨S2, r2, i', O2, e2, s2, rfl, q2⟩
  refine ⟨S2, r2, L, O2, J.mono (e1.trans e2).s j, rl.mono (e1.trans e2), s2, (Post.bind q2).imp ?_⟩
  rintro k H3 ⟨S3, r3, k', O3, e3, s3, rfl, q3⟩
  replace p1 := Rp.mono (e2.trans e3) d x p1
  unfold gSl at q3
  split at q3
  · rename_i s
    rw [show x = .str s from p1]
    split at q3
    · rename_i hl
      exact .inr (.inr ⟨s, rfl, million hl, q3 S3 r3 H3 _ (Ext.refl _ _) s3 rfl⟩)
    · exact q3.elim
  · rename_i ds
    obtain ⟨l, vs, rfl, h1, h2⟩ := p1
    have h3 := cut_rp h2 i k
    refine .inr (.inl ⟨l, vs, rfl, sqT_same s3.sub h1, fun ⟨z1, z2⟩ => ?_, fun _ => newT_post s3 h3 q3⟩)
    refine q3 S3 r3 H3 _ (Ext.refl _ _) s3 ⟨l, vs, rfl, h1, ?_⟩
    have e4 : cutV vs i k = vs := by
      unfold cutV
      rw [z1, z2, List.drop_zero, Nat.sub_zero, List.take_length]
    rw [e4] at h3
    exact h3
  · split at q3
    · rename_i ds hds
      obtain ⟨l, vs, rfl, h1, h2⟩ := lsqOf_ok s3 p1 hds
      exact .inl ⟨l, vs, rfl, h1, (newL_post s3 (cut_rp h2 i k) q3).2⟩
    · exact q3.elim
end
end DK
end
section
set_option Elab.async false
set_option linter.all false
set_option autoImplicit false
set_option maxRecDepth 100000
set_option maxHeartbeats 4000000
/-! DKCall: built-ins, methods, fields, objects, by mirrors. -/
namespace DK
open PySem L2
def g1 (f : Store → D → Option (D × Store)) : Store → List D → Option (D × Store) := fun O ds => match ds with
  | [d] => f O d
  | _ => none
def g2 (f : Store → D → D → Option (D × Store)) : Store → List D → Option (D × Store) := fun O ds => match ds with
  | [d, e] => f O d e
  | _ => none
/-! ### len, int, abs, str, list, .. -/
def gLen : Store → D → Option (D × Store) := fun O d => match d with
  | .str s => if s.length ≤ 1000000 then some (.int s.length, O) else none
  | .hdl n => match O[n]? with
    | some (.lst xs) => some (.int xs.length, O)
    | some (.dct xs) => some (.int xs.length, O)
    | _ => none
  | _ => match seqOf O d with
    | some xs => some (.int xs.length, O)
    | none => none
def gInt : Store → D → Option (D × Store) := fun O d => match d with
  | .int i => some (.int i, O)
  | .bl b => some (.int (if b then 1 else 0), O)
  | .str s => if s.length ≤ 640 then (match PySem.intText? s with
    | some n => some (.int n, O)
    | none => none) else none
  | _ => none
def gAbs : Store → D → Option (D × Store) := fun O d => match d with
  | .int i => some (.int (if i < 0 then -i else i), O)
  | _ => none
def gMax2 : Store → D → D → Option (D × Store) := fun O d e => match d, e with
  | .int i, .int j => some (.int (if j > i then j else i), O)
  | _, _ => none
def gMin2 : Store → D → D → Option (D × Store) := fun O d e => match d, e with
  | .int i, .int j => some (.int (if j < i then j else i), O)
  | _, _ => none
def gStr : Store → D → Option (D × Store) := fun O d => match d with
  | .int i => if i.natAbs.log2 < 1920 then some (.str (toString i), O) else none
  | .str s => some (.str s, O)
  | _ => none
def gList (h : Bool) : Store → D → Option (D × Store) := fun O d => match seqOf O d with
  | some xs => newLO h xs O
  | none => none
def intsOf : List D → Option (List Int)
  | [] => some []
  | .int i :: ds => (intsOf ds).map (i :: ·)
  | _ => none
theorem intsOf_rp {K : PySem.W.Frag} {S : Hp} {r : Rg} : ∀ {ds : List D} {vs : List V} {ns : List Int}, RpAll K S r ds vs → intsOf ds = some ns → vs = ns.map V.int
  | [], vs, ns, h, e => by cases e; exact h
  | .int i :: ds, vs, ns, h, e => by
    obtain ⟨v, vr, rfl, rfl, h2⟩ := h
    have e : (intsOf ds).map (i :: ·) = some ns := e
    obtain ⟨ms, e1, rfl⟩ := Option.map_eq_some_iff.mp e
    rw [intsOf_rp h2 e1]
    rfl
  | .non :: _, _, _, _, e => by cases e
  | .bl _ :: _, _, _, _, e => by cases e
  | .str _ :: _, _, _, _, e => by cases e
  | .lst _ :: _, _, _, _, e => by cases e
  | .rol _ :: _, _, _, _, e => by cases e
  | .tup _ :: _, _, _, _, e => by cases e
  | .hdl _ :: _, _, _, _, e => by cases e
section
variable {X : Cx} {ad : Str → Addr}
theorem cd_1 {f : Value} {rr : List V → Hp → VK → Prop} {g : Store → D → Option (D × Store)} (hc : CallR X f rr)
    (h : ∀ (S : Hp) (r : Rg) (O : Store) (H : Hp) (x : V) (d : D) (W : WX) (σ : L2.St) (Q : VK), Rs X.K ad S r O H → Rp X.K S r d x → Post X.K ad (fun S r => Rp X.K S r) W σ S r Q (ofO (g O d)) → rr [x] H Q) : CallD X ad f (g1 g) where
  ok := by
    refine ⟨rr, hc, fun S r O H vs ds W σ Q rs p q => ?_⟩
    unfold g1 at q
    split at q
    · rename_i d
      obtain ⟨v, vr, rfl, h1, rfl⟩ := p
      exact h S r O H v d W σ Q rs h1 q
    · exact q.elim
theorem cd_2 {f : Value} {rr : List V → Hp → VK → Prop} {g : Store → D → D → Option (D × Store)} (hc : CallR X f rr)
    (h : ∀ (S : Hp) (r : Rg) (O : Store) (H : Hp) (x y : V) (d e : D) (W : WX) (σ : L2.St) (Q : VK), Rs X.K ad S r O H → Rp X.K S r d x → Rp X.K S r e y → Post X.K ad (fun S r => Rp X.K S r) W σ S r Q (ofO (g O d e)) → rr [x, y] H Q) : CallD X ad f (g2 g) where
  ok := by
    refine ⟨rr, hc, fun S r O H vs ds W σ Q rs p q => ?_⟩
    unfold g2 at q
    split at q
    · rename_i d e
      obtain ⟨v, vr, rfl, h1, u, ur, rfl, h2, rfl⟩ := p
      exact h S r O H v u d e W σ Q rs h1 h2 q
    · exact q.elim
theorem cd_len : CallD X ad (.builtin "len") (g1 gLen) := cd_1 (CallR.or call_len call_lenD) fun S r O H x d W σ Q rs p q => by
  have seqCase : ∀ {xs : List D}, seqOf O d = some xs → Post X.K ad (fun S r => Rp X.K S r) W σ S r Q (ofO (some (D.int xs.length, O))) → ((∃ y n, [x] = [y] ∧ LenV X.K y H n ∧ Q (.int n) H) ∨ (∃ a kvs, [x] = [V.ref a] ∧ H a = some (.dK kvs) ∧ Q (.int kvs.length) H)) := fun {xs} e q => by
    obtain ⟨a, vs, rfl, h1, h2⟩ := seqOf_ok rs p e
    refine .inl ⟨_, vs.length, rfl, ?_, by rw [h2.length]; exact q S r H _ (Ext.refl _ _) rs rfl⟩
    rcases h1 with h1 | h1
    · exact .inl ⟨vs, h1, rfl⟩
    · exact .inr ⟨vs, h1, rfl⟩
  unfold gLen at q
  split at q
  · rename_i s
    rw [show x = .str s from p]
    split at q
    · rename_i hl
      exact .inl ⟨_, s.length, rfl, ⟨million hl, rfl⟩, q S r H _ (Ext.refl _ _) rs rfl⟩
    · exact q.elim
  · rename_i n
    split at q
    · rename_i xs hx
      refine seqCase ?_ q
      show (match O[n]? with | some (Ob.lst xs) => some xs | _ => none) = some xs
      rw [hx]
    · rename_i xs hx
      obtain ⟨a, rfl, h1, _, vs, h2, h3⟩ := hdl_at rs p hx
      have hl : ∀ {ks : List (Key × D)} {us : List (Key × V)}, RpP X.K S r ks us → us.length = ks.length := fun {ks} => by
        induction ks with
        | nil => intro us h; rw [show us = [] from h]; rfl
        | cons k ks ih => intro us h; obtain ⟨_, _, rfl, _, h⟩ := h; rw [List.length_cons, List.length_cons, ih h]
      exact .inr ⟨a, vs, rfl, h2, by rw [hl h3]; exact q S r H _ (Ext.refl _ _) rs rfl⟩
    · exact q.elim
  · split at q
    · rename_i xs hx
      exact seqCase hx q
    · exact q.elim
theorem cd_int : CallD X ad (.type "int") (g1 gInt) := cd_1 (CallR.or call_int1 call_int_str) fun S r O H x d W σ Q rs p q => by
  unfold gInt at q
  split at q
  · rename_i i
    rw [show x = .int i from p]
    exact .inl (.inl ⟨i, rfl, q S r H _ (Ext.refl _ _) rs rfl⟩)
  · rename_i b
    rw [show x = .bl b from p]
    exact .inl (.inr ⟨b, rfl, q S r H _ (Ext.refl _ _) rs rfl⟩)
  · rename_i s
    rw [show x = .str s from p]
    split at q
    · rename_i hl
      split at q
      · rename_i n hn
        exact .inr ⟨s, n, rfl, hn, hl, q S r H _ (Ext.refl _ _) rs rfl⟩
      · exact q.elim
    · exact q.elim
  · exact q.elim
theorem cd_abs : CallD X ad (.builtin "abs") (g1 gAbs) := cd_1 call_abs fun S r O H x d W σ Q rs p q => by
  unfold gAbs at q
  split at q
  · rename_i i
    rw [show x = .int i from p]
    exact ⟨i, rfl, q S r H _ (Ext.refl _ _) rs rfl⟩
  · exact q.elim
theorem cd_str : CallD X ad (.type "str") (g1 gStr) := cd_1 (CallR.or call_str_int SkE.call_str_str) fun S r O H x d W σ Q rs p q => by
  unfold gStr at q
  split at q
  · rename_i i
    rw [show x = .int i from p]
    split at q
    · rename_i hl
      exact .inl ⟨i, rfl, hl, q S r H _ (Ext.refl _ _) rs rfl⟩
    · exact q.elim
  · rename_i i
    rw [show x = .str i from p]
    exact .inr ⟨i, rfl, q S r H _ (Ext.refl _ _) rs rfl⟩
  · exact q.elim
theorem cd_list (h : Bool) : CallD X ad (.type "list") (g1 (gList h)) := cd_1 call_list_of fun S r O H x d W σ Q rs p q => by
  unfold gList at q
  split at q
  · rename_i xs hx
    obtain ⟨a, vs, rfl, h1, h2⟩ := seqOf_ok rs p hx
    rw [ofO_newLO] at q
    exact ⟨a, vs, rfl, h1, (newL_post rs h2 q).2⟩
  · exact q.elim
end
def mNeg (m : EM) : EM := fun L O => (m L O).bind fun d O1 => match d with
  | .int i => .ok (.int (-i)) O1
  | _ => .bad
/-! ### isinstance -/
def tyD (O : Store) : D → Option String
  | .non => some "NoneType"
  | .bl _ => some "bool"
  | .int _ => some "int"
  | .str _ => some "str"
  | .lst _ => some "list"
  | .rol _ => some "list"
  | .tup _ => some "tuple"
  | .hdl n => match O[n]? with
    | some (.lst _) => some "list"
    | some (.dct _) => some "dict"
    | _ => none
/-- isinstance(x, T) -/
def mIsi (T : String) (m : EM) : EM := fun L O => (m L O).bind fun d O1 => match tyD O1 d with
  | some t => match kitB t T with
    | some b => .ok (.bl b) O1
    | none => .bad
  | none => .bad
def kitL (t : String) : List String → Option Bool
  | [] => some false
  | T :: Ts => match kitB t T with
    | some true => some true
    | some false => kitL t Ts
    | none => none
def mIsiT (Ts : List String) (m : EM) : EM := fun L O => (m L O).bind fun d O1 => match tyD O1 d with
  | some t => match kitL t Ts with
    | some b => .ok (.bl b) O1
    | none => .bad
  | none => .bad
section
variable {X : Cx} {ad : Str → Addr} {J : JP} {W : WX} {pos p p2 p3 p4 p5 : Pos} {a b e : Expr} {es : List Expr} {m : EM} {mt : AM}
theorem tyD_ok {S : Hp} {r : Rg} {O : Store} {H : Hp} {d : D} {x : V} {t : String} (rs : Rs X.K ad S r O H) (px : Rp X.K S r d x) (h : tyD O d = some t) : TyX X.K H x (.type t) := by
  cases d with
  | non => cases h; rw [show x = .non from px]; exact .base .non
  | bl b => cases h; rw [show x = .bl b from px]; exact .base (.bl b)
  | int b => cases h; rw [show x = .int b from px]; exact .base (.int b)
  | str b => cases h; rw [show x = .str b from px]; exact .base (.str b)
  | lst s =>
    cases h
    obtain ⟨a, vs, rfl, q, _⟩ := px
    exact .base (.lst (rs.sub _ _ q))
  | rol s =>
    cases h
    obtain ⟨a, vs, rfl, q, _⟩ := px
    rcases sqL_same rs.sub q with (q | ⟨o, q⟩) | ⟨o, its, n, q, c, _⟩
    · exact .base (.lst q)
    · exact .base (.frz q)
    · exact .kList q c
  | tup s =>
    cases h
    obtain ⟨a, vs, rfl, q, _⟩ := px
    rcases sqT_same rs.sub q with (q | ⟨o, q⟩) | ⟨o, its, n, q, c, _⟩
    · exact .base (.tup q)
    · exact .fTuple q
    · exact .kTuple q c
  | hdl n =>
    replace h : (match O[n]? with | some (Ob.lst _) => some "list" | some (Ob.dct _) => some "dict" | _ => none) = some t := h
    split at h
    · rename_i zs e
      cases h
      obtain ⟨a, rfl, _, _, vs, q, _⟩ := hdl_at rs px e
      exact .base (.lst q)
    · rename_i zs e
      cases h
      obtain ⟨a, rfl, _, _, vs, q, _⟩ := hdl_at rs px e
      exact .base (.dK q)
    · cases h
theorem de_isi {T : String} {x : Str} (hg : Gl X "isinstance") (hm : X.mg "isinstance" = none) (hv : bootBuiltins "isinstance" = some (.builtin "isinstance")) (hg2 : Gl X x) (hm2 : X.mg x = none) (hv2 : bootBuiltins x = some (.type T)) (he : PE X e (tE X.K ad J W m))
    (hn : x ≠ "__name__" := by decide) (hd : (x == ("__debug__" : Str)) = false := by decide)
    (hs1 : starEach (e :: [.Name x p2]) X.env = (false, eval e X.env) :: starEach [.Name x p2] X.env := by rfl) (hs2 : starEach (.Name x p2 :: []) X.env = (false, eval (.Name x p2) X.env) :: starEach [] X.env := by rfl)
    (hpl : (backTo pos (starEach [.Name x p2] X.env)).any (·.1) = false := by rfl) : PE X (.Call (.Name "isinstance" p) [e, .Name x p2] [] pos) (tE X.K ad J W (mIsi T m)) := by
  refine pe_imp (pe_callB call_isi hg hm hv (pa_cons he (pa_cons (pe_bltn (v := .ty T) hg2 hm2 hv2 rfl hn hd) pa_nil hs2) hs1) (by decide) (by decide) hs1 hpl) ?_
  rintro σ H Q ⟨S, r, L, O, j, rl, rs, q⟩
  refine ⟨S, r, L, O, j, rl, rs, (Post.bind q).imp ?_⟩
  rintro x H1 ⟨S1, r1, d, O1, e1, s1, p1, q1⟩
  split at q1
  · rename_i t ht
    split at q1
    · rename_i b hb
      exact ⟨x, .ty T, _, .type T, b, rfl, .ty T, tyD_ok s1 p1 ht, kit_ty hb, q1 S1 r1 H1 _ (Ext.refl _ _) s1 rfl⟩
    · exact q1.elim
  · exact q1.elim
end
end DK
end
section
set_option Elab.async false
set_option linter.all false
set_option autoImplicit false
set_option maxRecDepth 100000
set_option maxHeartbeats 4000000
/-! DKObj: lists that change, objects, exceptions, comprehensions, by mirrors. -/
namespace DK
open PySem L2
/-! ### lists that change -/
/-- xs.append(e), the list one of the store -/
def mApp (m e : EM) : EM := fun L O => (m L O).bind fun x O1 => match x with
  | .hdl n => match lstOf O1 (.hdl n) with
    | some _ => (e L O1).bind fun y O2 => match lstOf O2 (.hdl n) with
      | some xs => if xs.length ≤ 1000000 then .ok .non (O2.set n (.lst (xs ++ [y]))) else .bad
      | none => .bad
    | none => .bad
  | _ => .bad
/-- o[i] = v, the list one of the store -/
def bSubL (mo mi : EM) : BM := fun d L O => match mo L O with
  | .ok (.hdl n) O1 => match mi L O1 with
    | .ok (.int i) O2 => match lstOf O2 (.hdl n) with
      | some xs => match ixN xs.length i with
        | some k => some (L, O2.set n (.lst (xs.set k d)))
        | none => none
      | none => none
    | _ => none
  | _ => none
section
variable {X : Cx} {ad : Str → Addr} {J : JP} {W : WX} {pos p p2 apos cpos : Pos} {a b e o : Expr} {es : List Expr} {m me mo mi : EM} {mt : AM}
theorem hdl_lst {S : Hp} {r : Rg} {O : Store} {H : Hp} {n : Nat} {a : Addr} {xs : List D} (rs : Rs X.K ad S r O H) (hr : r.l[n]? = some a) (h : lstOf O (.hdl n) = some xs) : S a = none ∧ ∃ vs, H a = some (.lst vs) ∧ RpAll X.K S r xs vs := by
  replace h : (match O[n]? with | some (Ob.lst xs) => some xs | _ => none) = some xs := h
  split at h
  · rename_i zs hz
    obtain rfl : zs = xs := Option.some.inj h
    exact rs.ob n a _ hr hz
  · cases h
theorem set_lst {S : Hp} {r : Rg} {O : Store} {H : Hp} {n : Nat} {a : Addr} {vs us : List V} {ys : List D} (rs : Rs X.K ad S r O H) (hr : r.l[n]? = some a) (hz : S a = none) (h : RpAll X.K S r ys us) : Rs X.K ad S r (O.set n (.lst ys)) (upd H a (.lst us)) :=
  rs.write hr hz ⟨hz, us, upd_same, h⟩
theorem de_app (hm : PE X o (tE X.K ad J W m)) (he : PE X e (tE X.K ad J W me)) (hbase : attributeBase o "append" X.env (eval o X.env) = eval o X.env := by rfl)
    (hfew : ((backTo cpos (starEach (e :: []) X.env)).all (fun x => !x.1) && (backToKw cpos (keywordEach [] X.env)).all (fun x => x.1.isSome)
      && decide ((e :: []).length + ([] : List Keyword).length + (if ([] : List Keyword).isEmpty then 0 else 1) < 30)) = true := by rfl)
    (hline : (apos.endLine == cpos.line) = true := by rfl) (hs : starEach (e :: []) X.env = (false, eval e X.env) :: starEach [] X.env := by rfl) (hplain : (backTo cpos (starEach [] X.env)).any (·.1) = false := by rfl) :
    PE X (.Call (.Attribute o "append" apos) [e] [] cpos) (tE X.K ad J W (mApp m me)) := by
  refine pe_imp (pe_bm PySem.F.plainAttrs_list PySem.F.slot_list_append PySem.F.type_list_append mt_append hm (pa_cons he pa_nil hs) hbase hfew hline hs hplain) ?_
  rintro σ H Q ⟨S, r, L, O, j, rl, rs, q⟩
  refine ⟨S, r, L, O, j, rl, rs, (Post.bind q).imp ?_⟩
  rintro x H1 ⟨S1, r1, d, O1, e1, s1, p1, q1⟩
  cases d with
  | hdl n =>
    obtain ⟨l, rfl, hl⟩ := p1
    replace q1 : Post X.K ad (fun S r => Rp X.K S r) W σ S1 r1 Q (match lstOf O1 (.hdl n) with
      | some _ => (me L O1).bind fun y O2 => match lstOf O2 (.hdl n) with
        | some xs => if xs.length ≤ 1000000 then .ok .non (O2.set n (.lst (xs ++ [y]))) else .bad
        | none => .bad
      | none => .bad) := q1
    split at q1
    · rename_i zs hz
      obtain ⟨_, vs, g1, g2⟩ := hdl_lst s1 hl hz
      refine ⟨.inl ⟨rfl, vs, .of g1⟩, S1, r1, L, O1, J.mono e1.s j, rl.mono e1, s1, (Post.bind q1).imp ?_⟩
      rintro y H2 ⟨S2, r2, d, O2, e2, s2, p2, q2⟩
      have hl2 := pre_get e2.r hl
      replace q2 : Post X.K ad (fun S r => Rp X.K S r) W σ S2 r2 Q (match lstOf O2 (.hdl n) with | some xs => if xs.length ≤ 1000000 then .ok .non (O2.set n (.lst (xs ++ [d]))) else .bad | none => .bad) := q2
      split at q2
      · rename_i xs hx
        obtain ⟨z2, us, g3, g4⟩ := hdl_lst s2 hl2 hx
        split at q2
        · rename_i hlen
          exact ⟨l, us, y, rfl, rfl, g3, by rw [g4.length]; exact million_lt hlen, q2 S2 r2 _ _ (Ext.refl _ _) (set_lst (vs := us) s2 hl2 z2 (g4.append (.cons p2 .nil))) rfl⟩
        · exact q2.elim
      · exact q2.elim
    · exact q1.elim
  | non => exact q1.elim
  | bl i => exact q1.elim
  | int i => exact q1.elim
  | str s => exact q1.elim
  | lst s => exact q1.elim
  | rol s => exact q1.elim
  | tup s => exact q1.elim
theorem dg_subL (ho : PE X o (tE X.K ad J W mo)) (hi : PE X e (tE X.K ad J W mi))
    (ha : ∀ v, assign (.Subscript o e pos) X.env v = (do
      let ov ← holding [v] (eval o X.env)
      let iv ← holding [v, ov] (eval e X.env)
      standAt pos
      holding [v, ov, iv] (setItem ov iv v)
      release [v, ov, iv] []) := by intro _; rfl) : PG X (.Subscript o e pos) (tG X.K ad J (bSubL mo mi)) := by
  refine pg_imp (pg_sub ho hi set_list ha) ?_
  rintro v σ H Q ⟨S, r, L, O, d, j, rl, rs, rp, q⟩
  refine ⟨S, r, L, O, j, rl, rs, ?_⟩
  replace q : PostB X.K ad J S r Q (match mo L O with
    | .ok (.hdl n) O1 => match mi L O1 with
      | .ok (.int i) O2 => match lstOf O2 (.hdl n) with
        | some xs => match ixN xs.length i with
          | some k => some (L, O2.set n (.lst (xs.set k d)))
          | none => none
        | none => none
      | _ => none
    | _ => none) := q
  generalize mo L O = z at q
  cases z with
  | exc x O1 => exact q.elim
  | bad => exact q.elim
  | ok y O1 =>
    intro S1 r1 H1 u e1 s1 p1
    cases y with
    | hdl n =>
      obtain ⟨l, rfl, hl⟩ := p1
      refine ⟨S1, r1, L, O1, J.mono e1.s j, rl.mono e1, s1, ?_⟩
      replace q : PostB X.K ad J S r Q (match mi L O1 with
        | .ok (.int i) O2 => match lstOf O2 (.hdl n) with
          | some xs => match ixN xs.length i with
            | some k => some (L, O2.set n (.lst (xs.set k d)))
            | none => none
          | none => none
        | _ => none) := q
      generalize mi L O1 = z at q
      cases z with
      | exc x O2 => exact q.elim
      | bad => exact q.elim
      | ok y O2 =>
        intro S2 r2 H2 u2 e2 s2 p2
        cases y with
        | int i =>
          rw [show u2 = .int i from p2]
          have hl2 := pre_get e2.r hl
          replace q : PostB X.K ad J S r Q (match lstOf O2 (.hdl n) with
            | some xs => match ixN xs.length i with
              | some k => some (L, O2.set n (.lst (xs.set k d)))
              | none => none
            | none => none) := q
          split at q
          · rename_i xs hx
            obtain ⟨z2, us, g3, g4⟩ := hdl_lst s2 hl2 hx
            split at q
            · rename_i k hk
              refine ⟨l, us, i, k, rfl, rfl, g3, by rw [g4.length]; exact hk, ?_⟩
              exact q S2 r2 σ _ (e1.trans e2) (J.mono (e1.trans e2).s j) (rl.mono (e1.trans e2)) (set_lst (vs := us) s2 hl2 z2 (g4.set k (Rp.mono (e1.trans e2) d v rp)))
            · exact q.elim
          · exact q.elim
        | non => exact q.elim
        | bl i => exact q.elim
        | hdl i => exact q.elim
        | str s => exact q.elim
        | lst s => exact q.elim
        | rol s => exact q.elim
        | tup s => exact q.elim
    | non => exact q.elim
    | bl i => exact q.elim
    | int i => exact q.elim
    | str s => exact q.elim
    | lst s => exact q.elim
    | rol s => exact q.elim
    | tup s => exact q.elim
end
/-- a, b = a list -/
def bLst (n : Nat) (c : BsM) : BM := fun d L O => match lsqOf O d with
  | some ds => if ds.length = n then c ds L O else none
  | none => none
/-! ### objects -/
def mFld (c f : Str) (m : EM) : EM := fun L O => (m L O).bind fun x O1 => match x with
  | .hdl n => match O1[n]? with
    | some (.ins c' fs) => if c' = c then (match fs.lookup f with
      | some d => .ok d O1
      | none => .bad) else .bad
    | _ => .bad
  | _ => .bad
def putD (f : Str) (d : D) : List (Str × D) → List (Str × D)
  | [] => [(f, d)]
  | (g, e) :: r => if g = f then (g, d) :: r else (g, e) :: putD f d r
/-- o.f = e : the value first -/
def sFldM (c f : Str) (mo mv : EM) : SM := fun L O => ofRes L (mv L O) fun y O1 => ofRes L (mo L O1) fun x O2 => match x with
  | .hdl n => match O2[n]? with
    | some (.ins c' fs) => if c' = c ∧ fs.length < 1000 then .next L (O2.set n (.ins c' (putD f y fs))) else .bad
    | _ => .bad
  | _ => .bad
def mMeth (c m : Str) (f : FM) (dds : List D) (mo : EM) (t : AM) : EM := fun L O => (mo L O).bind fun x O1 => match x with
  | .hdl n => match O1[n]? with
    | some (.ins c' fs) => if c' = c ∧ fs.lookup m = none then (t L O1).bind fun xs O2 => f (.hdl n :: (xs ++ dds)) O2 else .bad
    | _ => .bad
  | _ => .bad
def mMake (c : Str) (f : FM) (dds : List D) (t : AM) : EM := fun L O => (t L O).bind fun xs O1 => (f (.hdl O1.length :: (xs ++ dds)) (O1 ++ [.ins c []])).bind fun d O2 => match d with
  | .non => .ok (.hdl O1.length) O2
  | _ => .bad
section
variable {K : PySem.W.Frag} {S : Hp} {r : Rg}
theorem RpP.lookup {f : Str} : ∀ {fs : List (Str × D)} {gs : List (Str × V)} {d : D}, RpP K S r fs gs → fs.lookup f = some d → ∃ v, gs.lookup f = some v ∧ Rp K S r d v
  | [], gs, d, h, e => by cases e
  | (g, x) :: fs, gs, d, h, e => by
    obtain ⟨v, gr, rfl, h1, h2⟩ := h
    rw [List.lookup_cons] at e ⊢
    cases hb : f == g with
    | true =>
      rw [hb] at e
      cases e
      exact ⟨v, rfl, h1⟩
    | false =>
      rw [hb] at e
      exact RpP.lookup h2 e
theorem RpP.lookup0 {f : Str} : ∀ {fs : List (Str × D)} {gs : List (Str × V)}, RpP K S r fs gs → fs.lookup f = none → gs.lookup f = none
  | [], gs, h, e => by rw [show gs = [] from h]; rfl
  | (g, x) :: fs, gs, h, e => by
    obtain ⟨v, gr, rfl, h1, h2⟩ := h
    rw [List.lookup_cons] at e ⊢
    cases hb : f == g with
    | true => rw [hb] at e; cases e
    | false => rw [hb] at e; exact RpP.lookup0 h2 e
theorem RpP.length {κ : Type} : ∀ {fs : List (κ × D)} {gs : List (κ × V)}, RpP K S r fs gs → gs.length = fs.length
  | [], gs, h => by rw [show gs = [] from h]; rfl
  | (g, x) :: fs, gs, h => by
    obtain ⟨v, gr, rfl, h1, h2⟩ := h
    rw [List.length_cons, List.length_cons, RpP.length h2]
theorem RpP.put {f : Str} {d : D} {v : V} (hv : Rp K S r d v) : ∀ {fs : List (Str × D)} {gs : List (Str × V)}, RpP K S r fs gs → RpP K S r (putD f d fs) (putF f v gs)
  | [], gs, h => by
    rw [show gs = [] from h]
    exact ⟨v, [], rfl, hv, rfl⟩
  | (g, x) :: fs, gs, h => by
    obtain ⟨u, gr, rfl, h1, h2⟩ := h
    unfold putD putF
    split
    · exact ⟨v, gr, rfl, hv, h2⟩
    · exact ⟨u, putF f v gr, rfl, h1, RpP.put hv h2⟩
end
section
variable {X : Cx} {ad : Str → Addr} {J : JP} {W : WX} {pos pos' p p2 apos cpos : Pos} {a b e o : Expr} {es : List Expr} {m me mo mi mv : EM} {mt : AM} {c f : Str}
theorem de_fld (he : PE X e (tE X.K ad J W m)) (hc : Cls X.K (ad c)) (hn : NoAttr X.K (ad c) f) (hb : attributeBase e f X.env (eval e X.env) = eval e X.env := by rfl) : PE X (.Attribute e f pos) (tE X.K ad J W (mFld c f m)) := by
  refine pe_imp (pe_fld he hb) ?_
  rintro σ H Q ⟨S, r, L, O, j, rl, rs, q⟩
  refine ⟨S, r, L, O, j, rl, rs, (Post.bind q).imp ?_⟩
  rintro x H1 ⟨S1, r1, d, O1, e1, s1, p1, q1⟩
  cases d with
  | hdl n =>
    replace q1 : Post X.K ad (fun S r => Rp X.K S r) W σ S1 r1 Q (match O1[n]? with
      | some (.ins c' fs) => if c' = c then (match fs.lookup f with
        | some d => .ok d O1
        | none => .bad) else .bad
      | _ => .bad) := q1
    split at q1
    · rename_i c' fs ho
      split at q1
      · rename_i hcc
        subst hcc
        split at q1
        · rename_i d hd
          obtain ⟨l, rfl, _, _, dx, gs, g1, g2⟩ := hdl_at s1 p1 ho
          obtain ⟨v, hv, pv⟩ := g2.lookup hd
          exact ⟨l, ad c', dx, gs, v, rfl, g1, hc, hn, hv, q1 S1 r1 H1 v (Ext.refl _ _) s1 pv⟩
        · exact q1.elim
      · exact q1.elim
    · exact q1.elim
  | non => exact q1.elim
  | bl i => exact q1.elim
  | int i => exact q1.elim
  | str s => exact q1.elim
  | lst s => exact q1.elim
  | rol s => exact q1.elim
  | tup s => exact q1.elim
theorem ds_fld (ho : PE X o (tE X.K ad J W mo)) (he : PE X e (tE X.K ad J W mv)) (hc : Cls X.K (ad c)) (hn : NoAttr X.K (ad c) f) (hs : swapsWith e (some (.Attribute o f pos')) pos.line X.env = pure false := by rfl) : PS X (.Assign [.Attribute o f pos'] e pos) (tS X.K ad J W (sFldM c f mo mv)) := by
  refine ps_imp (ps_fld ho he hs) ?_
  rintro En σ H ⟨S, r, L, O, j, rl, rs, q⟩
  refine ⟨S, r, L, O, j, rl, rs, (bindS j rl q).imp ?_⟩
  rintro y H1 ⟨S1, r1, dy, O1, e1, s1, p1, q1⟩
  refine ⟨S1, r1, L, O1, J.mono e1.s j, rl.mono e1, s1, (bindS (J.mono e1.s j) (rl.mono e1) q1).imp ?_⟩
  rintro x H2 ⟨S2, r2, d, O2, e2, s2, p2, q2⟩
  cases d with
  | hdl n =>
    replace q2 : PostS X.K ad J W S2 r2 En (match O2[n]? with
      | some (.ins c' fs) => if c' = c ∧ fs.length < 1000 then .next L (O2.set n (.ins c' (putD f dy fs))) else .bad
      | _ => .bad) := q2
    split at q2
    · rename_i c' fs ho
      split at q2
      · rename_i hcc
        obtain ⟨rfl, hl⟩ := hcc
        obtain ⟨l, rfl, hr, hz, dx, gs, g1, g2⟩ := hdl_at s2 p2 ho
        refine ⟨l, ad c', dx, gs, rfl, g1, hc, hn, by rw [g2.length]; exact hl, ?_⟩
        exact q2 S2 r2 σ _ (Ext.refl _ _) (J.mono (e1.trans e2).s j) (rl.mono (e1.trans e2)) (s2.write hr hz ⟨hz, dx, _, upd_same, RpP.put (Rp.mono e2 _ _ p1) g2⟩)
      · exact q2.elim
    · exact q2.elim
  | non => exact q2.elim
  | bl i => exact q2.elim
  | int i => exact q2.elim
  | str s => exact q2.elim
  | lst s => exact q2.elim
  | rol s => exact q2.elim
  | tup s => exact q2.elim
/-- a method's call, at the slots -/
theorem meth_run {pins : List (Addr × Obj)} {s : Shared} {σ : L2.St} {H : Hp} {Q : VK} {k : Nat} {g : Addr} {fd : FuncData} {ps : List Str} {sp : Sp} {dvs : List V} {ds : List Value} {E : L2.St → XK} {nm : Str} {C : Addr} {t : TA} {ta : TE} {pl : Sem Bool}
    (he : PE X o ta) (hc : Cls X.K C) (hm : Meth X.K C nm g) (F : FnOk X.prog X.w X.K X.mg X.base (L2.CX X.prog X.w) k g fd ps sp) (hr : Room k X.A) (hb : Binds X.K fd ps ds) (hd : Vals dvs ds) (hx : ∀ σ, PassesAt (L2.CX X.prog X.w) X σ (E σ)) (ha : PA X (e :: es) t)
    (hst : starEach (e :: es) X.env = (false, eval e X.env) :: starEach es X.env) (hpl : (backTo pos (starEach es X.env)).any (·.1) = false)
    (ht : eval (.Call (.Attribute o nm apos) (e :: es) [] pos) X.env = (do
      let ov ← eval o X.env
      standAt apos.atName
      let (f, first) ← holding [ov] (getMethod ov nm pl)
      callWith pos f first (backTo pos (starEach (e :: es) X.env)) (backToKw pos (keywordEach [] X.env))))
    (I : Inv X pins σ H s) (h : ta σ H fun x H1 => ∃ a dx fs, x = .ref a ∧ H1 a = some (.ins C dx fs) ∧ fs.lookup nm = none ∧ t σ H1 fun vs H2 => sp (x :: (vs ++ dvs)) H2 Q (E σ)) :
    wpAny (model X.prog X.w) X.A (eval (.Call (.Attribute o nm apos) (e :: es) [] pos) X.env) (EP X pins σ Q) X.xe s := by
  refine PySem.W.methodCall_KW (pl := pl) (thn (he.run pins s σ H _ I h) ?_) ht
  rintro u s1 ⟨x, H1, I1, rx, a, dx, fs, ex, ea, l, q⟩
  subst ex
  obtain rfl : u = Value.ref a := rx
  refine getmeth_ok I1 ea hc hm l ?_
  refine PySem.W.callWith_K (first := [.ref a]) (h₀ := X.base) I.ok.mod.kin hm.kp (thn (ha.run pos pins s1 σ H1 _ I1 q) ?_) hst hpl
  rintro us s2 ⟨vs, H2, I2, rr, q2⟩
  exact ⟨I2.kIn, run_fnSD (us := .ref a :: us) (vs := .ref a :: vs) F hr hb hd (hx σ) I2 (.cons rfl rr) q2⟩
theorem meth_run0 {pins : List (Addr × Obj)} {s : Shared} {σ : L2.St} {H : Hp} {Q : VK} {k : Nat} {g : Addr} {fd : FuncData} {ps : List Str} {sp : Sp} {dvs : List V} {ds : List Value} {E : L2.St → XK} {nm : Str} {C : Addr} {ta : TE} {pl : Sem Bool}
    (he : PE X o ta) (hc : Cls X.K C) (hm : Meth X.K C nm g) (F : FnOk X.prog X.w X.K X.mg X.base (L2.CX X.prog X.w) k g fd ps sp) (hr : Room k X.A) (hb : Binds X.K fd ps ds) (hd : Vals dvs ds) (hx : ∀ σ, PassesAt (L2.CX X.prog X.w) X σ (E σ))
    (ht : eval (.Call (.Attribute o nm apos) [] [] pos) X.env = (do
      let ov ← eval o X.env
      standAt apos.atName
      let (f, first) ← holding [ov] (getMethod ov nm pl)
      callWith pos f first (backTo pos (starEach [] X.env)) (backToKw pos (keywordEach [] X.env))))
    (I : Inv X pins σ H s) (h : ta σ H fun x H1 => ∃ a dx fs, x = .ref a ∧ H1 a = some (.ins C dx fs) ∧ fs.lookup nm = none ∧ sp (x :: dvs) H1 Q (E σ)) :
    wpAny (model X.prog X.w) X.A (eval (.Call (.Attribute o nm apos) [] [] pos) X.env) (EP X pins σ Q) X.xe s := by
  refine PySem.W.methodCall_KW (pl := pl) (thn (he.run pins s σ H _ I h) ?_) ht
  rintro u s1 ⟨x, H1, I1, rx, a, dx, fs, ex, ea, l, q⟩
  subst ex
  obtain rfl : u = Value.ref a := rx
  refine getmeth_ok I1 ea hc hm l ?_
  exact PySem.W.callWith_K0 (first := [.ref a]) I1.kIn hm.kp (run_fnSD (us := [.ref a]) (vs := [.ref a]) F hr hb hd (hx σ) I1 (.cons rfl .nil) q)
theorem meth_imp {nm : Str} {n : Nat} {fm : FM} {dvs : List V} {dds : List D} (hdd : ∀ S r, RpAll X.K S r dds dvs) : ∀ σ H Q, tE X.K ad J W (mMeth c nm (arity n fm) dds mo mt) σ H Q →
    (tE X.K ad J W mo) σ H fun x H1 => ∃ a dx fs, x = .ref a ∧ H1 a = some (.ins (ad c) dx fs) ∧ fs.lookup nm = none ∧ (tA X.K ad J W mt) σ H1 fun vs H2 => spM X.K ad n fm (x :: (vs ++ dvs)) H2 Q (WE W σ) := by
  rintro σ H Q ⟨S, r, L, O, j, rl, rs, q⟩
  refine ⟨S, r, L, O, j, rl, rs, (Post.bind q).imp ?_⟩
  rintro x H1 ⟨S1, r1, d, O1, e1, s1, p1, q1⟩
  cases d with
  | hdl n' =>
    replace q1 : Post X.K ad (fun S r => Rp X.K S r) W σ S1 r1 Q (match O1[n']? with
      | some (.ins c' fs) => if c' = c ∧ fs.lookup nm = none then (mt L O1).bind fun xs O2 => arity n fm (.hdl n' :: (xs ++ dds)) O2 else .bad
      | _ => .bad) := q1
    split at q1
    · rename_i c' fs ho
      split at q1
      · rename_i hcc
        obtain ⟨rfl, hl⟩ := hcc
        obtain ⟨l, rfl, hr, hz, dx, gs, g1, g2⟩ := hdl_at s1 p1 ho
        refine ⟨l, dx, gs, rfl, g1, g2.lookup0 hl, S1, r1, L, O1, J.mono e1.s j, rl.mono e1, s1, (Post.bind q1).imp ?_⟩
        rintro vs H2 ⟨S2, r2, ds, O2, e2, s2, p2, q2⟩
        exact spM_ar s2 (.cons (Rp.mono e2 (.hdl n') _ p1) (p2.append (hdd S2 r2))) q2
      · exact q1.elim
    · exact q1.elim
  | non => exact q1.elim
  | bl i => exact q1.elim
  | int i => exact q1.elim
  | str s => exact q1.elim
  | lst s => exact q1.elim
  | rol s => exact q1.elim
  | tup s => exact q1.elim
theorem de_meth {nm : Str} {k n : Nat} {g : Addr} {fd : FuncData} {ps : List Str} {fm : FM} {dvs : List V} {dds : List D} {ds : List Value} {pl : Sem Bool} (he : PE X o (tE X.K ad J W mo)) (hc : Cls X.K (ad c)) (hm : Meth X.K (ad c) nm g) (F : FnOk X.prog X.w X.K X.mg X.base (L2.CX X.prog X.w) k g fd ps (spM X.K ad n fm))
    (hr : Room k X.A) (hb : Binds X.K fd ps ds) (hd : Vals dvs ds) (hdd : ∀ S r, RpAll X.K S r dds dvs) (tk : Takes X W) (ha : PA X (e :: es) (tA X.K ad J W mt))
    (hst : starEach (e :: es) X.env = (false, eval e X.env) :: starEach es X.env := by rfl) (hpl : (backTo pos (starEach es X.env)).any (·.1) = false := by rfl)
    (ht : eval (.Call (.Attribute o nm apos) (e :: es) [] pos) X.env = (do
      let ov ← eval o X.env
      standAt apos.atName
      let (f, first) ← holding [ov] (getMethod ov nm pl)
      callWith pos f first (backTo pos (starEach (e :: es) X.env)) (backToKw pos (keywordEach [] X.env))) := by rfl) :
    PE X (.Call (.Attribute o nm apos) (e :: es) [] pos) (tE X.K ad J W (mMeth c nm (arity n fm) dds mo mt)) :=
  ⟨fun pins s σ H Q I h => meth_run he hc hm F hr hb hd (fun σ => passAt tk σ) ha hst hpl ht I (meth_imp hdd σ H Q h)⟩
theorem de_meth0 {nm : Str} {k n : Nat} {g : Addr} {fd : FuncData} {ps : List Str} {fm : FM} {dvs : List V} {dds : List D} {ds : List Value} {pl : Sem Bool} (he : PE X o (tE X.K ad J W mo)) (hc : Cls X.K (ad c)) (hm : Meth X.K (ad c) nm g) (F : FnOk X.prog X.w X.K X.mg X.base (L2.CX X.prog X.w) k g fd ps (spM X.K ad n fm))
    (hr : Room k X.A) (hb : Binds X.K fd ps ds) (hd : Vals dvs ds) (hdd : ∀ S r, RpAll X.K S r dds dvs) (tk : Takes X W)
    (ht : eval (.Call (.Attribute o nm apos) [] [] pos) X.env = (do
      let ov ← eval o X.env
      standAt apos.atName
      let (f, first) ← holding [ov] (getMethod ov nm pl)
      callWith pos f first (backTo pos (starEach [] X.env)) (backToKw pos (keywordEach [] X.env))) := by rfl) :
    PE X (.Call (.Attribute o nm apos) [] [] pos) (tE X.K ad J W (mMeth c nm (arity n fm) dds mo mNil)) :=
  ⟨fun pins s σ H Q I h => meth_run0 he hc hm F hr hb hd (fun σ => passAt tk σ) ht I (by
    obtain ⟨S, r, L, O, j, rl, rs, q⟩ := meth_imp (mt := mNil) hdd σ H Q h
    refine ⟨S, r, L, O, j, rl, rs, q.imp ?_⟩
    rintro x H1 ⟨a, dx, fs, ex, ea, l, S1, r1, L1, O1, j1, rl1, rs1, q1⟩
    exact ⟨a, dx, fs, ex, ea, l, q1 S1 r1 H1 [] (Ext.refl _ _) rs1 rfl⟩)⟩
/-- an object is made, at the slots -/
theorem make_run {pins : List (Addr × Obj)} {s : Shared} {σ : L2.St} {H : Hp} {Q : VK} {k : Nat} {C g : Addr} {fd : FuncData} {ps : List Str} {sp : Sp} {dvs : List V} {ds : List Value} {E : XK} {us : List Value} {vs : List V} (M : Mk X.K C g) (F : FnOk X.prog X.w X.K X.mg X.base (L2.CX X.prog X.w) k g fd ps sp) (hr : Room (k + 1) X.A)
    (hb : Binds X.K fd ps ds) (hd : Vals dvs ds) (hx : PassesAt (L2.CX X.prog X.w) X σ E) (I : Inv X pins σ H s) (rr : Vals vs us)
    (h : ∀ x dx, H x = none → H dx = none → dx ≠ x → sp (.ref x :: (vs ++ dvs)) (upd (upd H dx (.own x)) x (.ins C dx [])) (fun v H2 => v = .non ∧ Q (.ref x) H2) E) :
    wpAny (model X.prog X.w) X.A (call (.ref C) us) (EP X pins σ Q) X.xe s := by
  let n := s.heap.objs.size
  have I2 := Inv.made (C := C) I
  have hq := h (n + 1) n (I.hok.fresh (Nat.le_succ n)) (I.hok.fresh (Nat.le_refl n)) (Nat.ne_of_lt (Nat.lt_succ_self n))
  have r2 : Vals (V.ref (n + 1) :: (vs ++ dvs)) (Value.ref (n + 1) :: (us ++ ds)) := .cons rfl (rr.append hd)
  have hl : ((Value.ref (n + 1) :: us) ++ ds).length = ps.length := by
    rw [← F.len _ _ _ _ hq]
    exact r2.length.symm
  have inner := F.run _ X.stack _ _ ⟨Value.ref (n + 1) :: us, []⟩ (Value.ref (n + 1) :: (us ++ ds)) _ _ E (hr.make C us []) (I2.env0.make C us []) (hb _ (Value.ref (n + 1) :: us) I2.kIn hl) r2 hq
  refine wpAny_call (make_map (f := g) I.kIn M.makes M.init (beq_iff_eq.mp M.fn) (codeAny_mono inner ?_))
  intro res s' hres
  cases res with
  | error e => exact hx pins _ _ e s' I2 hres
  | ok fl =>
    cases fl with
    | ret u =>
      obtain ⟨v, H', I3, rv, ev, q3⟩ := I2.after hres
      subst ev
      exact ⟨rv, V.ref (n + 1), H', I3, rfl, q3⟩
    | next => exact hres.elim
    | brk => exact hres.elim
    | cont => exact hres.elim
/-- the new object joins the store -/
theorem make_post {n : Nat} {fm : FM} {S : Hp} {r : Rg} {O : Store} {H : Hp} {xs : List D} {vs : List V} {σ : L2.St} {Q : VK} (rs : Rs X.K ad S r O H) (p : RpAll X.K S r xs vs)
    (q : Post X.K ad (fun S r => Rp X.K S r) W σ S r Q ((arity n fm (.hdl O.length :: xs) (O ++ [.ins c []])).bind fun d O2 => match d with | .non => .ok (.hdl O.length) O2 | _ => .bad)) :
    ∀ x dx, H x = none → H dx = none → dx ≠ x → spM X.K ad n fm (.ref x :: vs) (upd (upd H dx (.own x)) x (.ins (ad c) dx [])) (fun v H2 => v = .non ∧ Q (.ref x) H2) (WE W σ) := by
  intro x dx hx hdx hne
  have hx2 : (upd H dx (.own x)) x = none := by rw [upd_ne (Ne.symm hne)]; exact hx
  have s2 : Rs X.K ad S (r.push x) (O ++ [.ins c []]) (upd (upd H dx (.own x)) x (.ins (ad c) dx [])) := (rs.junk hdx).push hx2 ⟨rs.fresh hx, dx, [], upd_same, rfl⟩
  have e2 := Ext.push S r x
  have hself : Rp X.K S (r.push x) (.hdl O.length) (.ref x) := by
    refine ⟨x, rfl, ?_⟩
    show (r.l ++ [x])[O.length]? = some x
    rw [← rs.len, List.getElem?_append_right (Nat.le_refl _)]
    simp
  refine spM_ar (σ := σ) s2 (.cons hself (RpAll.mono e2 _ _ p)) ?_
  refine (Post.bind (Post.mono e2 q)).imp ?_
  rintro v H2 ⟨S3, r3, d, O3, e3, s3, p3, q3⟩
  cases d with
  | non => exact ⟨p3, q3 S3 r3 H2 _ (Ext.refl _ _) s3 (Rp.mono e3 (.hdl O.length) _ hself)⟩
  | hdl i => exact q3.elim
  | bl i => exact q3.elim
  | int i => exact q3.elim
  | str s => exact q3.elim
  | lst s => exact q3.elim
  | rol s => exact q3.elim
  | tup s => exact q3.elim
theorem de_make {x : Str} {k n : Nat} {g : Addr} {fd : FuncData} {ps : List Str} {fm : FM} {dvs : List V} {dds : List D} {ds : List Value} (M : Mk X.K (ad c) g) (F : FnOk X.prog X.w X.K X.mg X.base (L2.CX X.prog X.w) k g fd ps (spM X.K ad n fm)) (hr : Room (k + 1) X.A) (hg : Gl X x) (hm : X.mg x = some (.ref (ad c)))
    (hb : Binds X.K fd ps ds) (hd : Vals dvs ds) (hdd : ∀ S r, RpAll X.K S r dds dvs) (tk : Takes X W) (ha : PA X (e :: es) (tA X.K ad J W mt)) (hdb : (x == ("__debug__" : Str)) = false := by decide)
    (he : starEach (e :: es) X.env = (false, eval e X.env) :: starEach es X.env := by rfl) (hpl : (backTo pos (starEach es X.env)).any (·.1) = false := by rfl) : PE X (.Call (.Name x p) (e :: es) [] pos) (tE X.K ad J W (mMake c (arity n fm) dds mt)) := by
  refine ⟨fun pins s σ H Q I h => ?_⟩
  refine wpAny_Call_Name_kw (ld_glob I hg hm ?_ hdb)
  obtain ⟨S, r, L, O, j, rl, rs, q⟩ := h
  refine PySem.W.callWith_K (h₀ := X.base) I.ok.mod.kin M.kp (thn (ha.run pos pins s σ H _ I ⟨S, r, L, O, j, rl, rs, Post.bind q⟩) ?_) he hpl
  rintro us s1 ⟨vs, H1, I1, rr, S1, r1, ds, O1, e1, s1', p1, q1⟩
  exact ⟨I1.kIn, make_run M F hr hb hd (passAt tk σ) I1 rr (make_post s1' (p1.append (hdd S1 r1)) q1)⟩
theorem de_make0 {x : Str} {k n : Nat} {g : Addr} {fd : FuncData} {ps : List Str} {fm : FM} {dvs : List V} {dds : List D} {ds : List Value} (M : Mk X.K (ad c) g) (F : FnOk X.prog X.w X.K X.mg X.base (L2.CX X.prog X.w) k g fd ps (spM X.K ad n fm)) (hr : Room (k + 1) X.A) (hg : Gl X x) (hm : X.mg x = some (.ref (ad c)))
    (hb : Binds X.K fd ps ds) (hd : Vals dvs ds) (hdd : ∀ S r, RpAll X.K S r dds dvs) (tk : Takes X W) (hdb : (x == ("__debug__" : Str)) = false := by decide) : PE X (.Call (.Name x p) [] [] pos) (tE X.K ad J W (mMake c (arity n fm) dds mNil)) := by
  refine ⟨fun pins s σ H Q I h => ?_⟩
  refine wpAny_Call_Name_kw (ld_glob I hg hm ?_ hdb)
  obtain ⟨S, r, L, O, j, rl, rs, q⟩ := h
  refine PySem.W.callWith_K0 I.kIn M.kp ?_
  exact make_run (us := []) (vs := []) M F hr hb hd (passAt tk σ) I .nil (make_post rs (hdd S r) q)
end
end DK
end
section
set_option Elab.async false
set_option linter.all false
set_option autoImplicit false
set_option maxRecDepth 100000
set_option maxHeartbeats 4000000
/-! DKExc: raise, try, comprehensions, by mirrors. -/
namespace DK
open PySem L2
abbrev WF : WX := fun _ _ _ _ => False
theorem takesF {X : Cx} : Takes X WF := takes0
/-! ### raise, try -/
def sRaise (c : Str) (t : AM) : SM := fun L O => ofRes L (t L O) fun ds O1 => if ds.length ≤ 1000 then .exc ⟨c, none⟩ L O1 else .bad
section
variable {X : Cx} {ad : Str → Addr} {J : JP} {W : WX} {pos pos' p p2 np : Pos} {e : Expr} {es : List Expr} {mt : AM} {c : Str} {body suite : List Stmt} {b0 : Stmt} {sb : SM} {ss : Str → SM}
theorem ds_raise {x : Str} {bmB : List Value} {B newId initId : String} (hc : X.calm = true) (tk : Takes X W) (F : ExcBaseFacts B newId initId bmB) (q : PySem.W.excIn X.K (ad c) bmB newId = true) (gC : X.mg x = some (.ref (ad c))) (kC : PySem.W.keepIn X.K (.ref (ad c)) = true) (r : Raises X (.ref (ad c))) (hg : Gl X x)
    (ha : PA X (e :: es) (tA X.K ad J W mt)) (hdb : (x == ("__debug__" : Str)) = false := by decide) (he : starEach (e :: es) X.env = (false, eval e X.env) :: starEach es X.env := by rfl) (hpl : (backTo p2 (starEach es X.env)).any (·.1) = false := by rfl) :
    PS X (.Raise (some (.Call (.Name x p) (e :: es) [] p2)) none pos) (tS X.K ad J W (sRaise c mt)) := by
  refine ps_imp (ps_raise hc tk (pmk_ownA F q gC kC r hg ha hdb he hpl)) ?_
  rintro En σ H ⟨S, r, L, O, j, rl, rs, z⟩
  refine ⟨S, r, L, O, j, rl, rs, (bindS j rl z).imp ?_⟩
  rintro vs H1 ⟨S1, r1, ds, O1, e1, s1, p1, q1⟩
  replace q1 : PostS X.K ad J W S1 r1 En (if ds.length ≤ 1000 then .exc ⟨c, none⟩ L O1 else .bad) := q1
  split at q1
  · rename_i hl
    exact ⟨by rw [p1.length]; exact million (by omega), q1 S1 r1 σ H1 none (Ext.refl _ _) (J.mono e1.s j) (rl.mono e1) s1 rfl⟩
  · exact q1.elim
/-- a statement whose mirror is told by what is at hand -/
theorem pss_ex {α : Type} {st : List Stmt} {P : α → Prop} {t : α → TS} (h : ∀ x, P x → PSs X st (t x)) : PSs X st (fun En σ H => ∃ x, P x ∧ t x En σ H) := ⟨fun pins s σ H En I ⟨x, hp, q⟩ => (h x hp).run pins s σ H En I q⟩
end
/-! ### comprehensions -/
def wipeL (L : Loc) : List Nat → Loc
  | [] => L
  | v :: vs => (wipeL L vs).set v none
def lcTurn (vs : List Nat) (b : BM) (tt : TM) (el : EM) (L : Loc) (d : D) (O : Store) (acc : List D) : Option (Store × List D) := match b d (wipeL L vs) O with
  | some p => match tt p.1 p.2 with
    | .ok true O2 => match el p.1 O2 with
      | .ok y O3 => if acc.length ≤ 900000 then some (O3, acc ++ [y]) else none
      | _ => none
    | .ok false O2 => some (O2, acc)
    | _ => none
  | none => none
def lcG (nx : Nat → Store → Option (Option D)) (turn : D → Store → List D → Option (Store × List D)) : Nat → Nat → Store → List D → Option (Store × List D)
  | 0, i, O, acc => match nx i O with
    | some none => some (O, acc)
    | _ => none
  | k + 1, i, O, acc => match nx i O with
    | some none => some (O, acc)
    | some (some d) => match turn d O acc with
      | some p => lcG nx turn k (i + 1) p.1 p.2
      | none => none
    | none => none
def mYes : TM := fun _ O => .ok true O
def lcEnd (h : Bool) : Option (Store × List D) → Res D
  | some p => newL h p.2 p.1
  | none => .bad
/-- over a list -/
def mLcL (h : Bool) (src : EM) (vs : List Nat) (b : BM) (tt : TM) (el : EM) : EM := fun L O => (src L O).bind fun d O1 => match lsqOf O1 d with
  | some xs => lcEnd h (lcG (fun i O => (lsqOf O d).map (·[i]?)) (lcTurn vs b tt el L) xs.length 0 O1 [])
  | none => .bad
/-- what a block may not touch -/
def Cl (vs : List Nat) (J : JP) : Prop := ∀ (σ : L2.St) (v : V) (S : Hp) (i : Nat), i ∈ vs → J.p σ S → J.p (σ.set i (some v)) S
section
variable {X : Cx} {ad : Str → Addr} {J : JP} {W : WX} {pos p q : Pos} {a b tg elt iter : Expr} {ifs : List Expr} {m me : EM} {mt : AM} {bm : BM} {tm : TM} {own : List (Str × Nat)} {scope : Scope}
theorem wipe_rl {K : PySem.W.Frag} {S : Hp} {r : Rg} {L : Loc} {σ : L2.St} (h : Rl K S r L σ) : ∀ vs : List Nat, Rl K S r (wipeL L vs) (wipe σ vs)
  | [] => h
  | v :: vs => by
    unfold wipeL wipe
    exact (wipe_rl h vs).wipe v none
abbrev Jw (vs : List Nat) (σ0 : L2.St) : JP := ⟨fun σ _ => wipe σ vs = σ0, fun _ h => h⟩
theorem wipe_cl {σ0 : L2.St} {vs : List Nat} : Cl vs (Jw vs σ0) := fun σ v _ i hi h => by
  have key : ∀ (vs : List Nat) (σ : L2.St), i ∈ vs → wipe (σ.set i (some v)) vs = wipe σ vs := fun vs => by
    induction vs with
    | nil => intro σ hi; simp at hi
    | cons w ws ih =>
      intro σ hi
      unfold wipe
      by_cases hw : i ∈ ws
      · rw [ih σ hw]
      · have e : i = w := by
          rcases List.mem_cons.mp hi with e | e
          · exact e
          · exact absurd e hw
        subst e
        have comm : ∀ (us : List Nat) (σ : L2.St), i ∉ us → wipe (σ.set i (some v)) us = (wipe σ us).set i (some v) := fun us => by
          induction us with
          | nil => intro σ _; rfl
          | cons u us ih2 =>
            intro σ hu
            unfold wipe
            rw [ih2 σ (fun z => hu (List.mem_cons_of_mem _ z)), List.set_comm _ _ (fun z => hu (by rw [z]; exact List.mem_cons_self))]
        rw [comm ws σ hw, List.set_set]
  show wipe (σ.set i (some v)) vs = σ0
  rw [key vs σ hi]
  exact h
/-- what is told for every J that lets the block's names change -/
def tGx (K : PySem.W.Frag) (ad : Str → Addr) (vs : List Nat) (b : BM) : TG := fun v σ H Q => ∃ J', Cl vs J' ∧ tG K ad J' b v σ H Q
def tTx (K : PySem.W.Frag) (ad : Str → Addr) (vs : List Nat) (m : TM) : TT := fun σ H Q => ∃ J', Cl vs J' ∧ tT K ad J' WF m σ H Q
def tEx (K : PySem.W.Frag) (ad : Str → Addr) (vs : List Nat) (m : EM) : TE := fun σ H Q => ∃ J', Cl vs J' ∧ tE K ad J' WF m σ H Q
theorem gx_of {Y : Cx} {vs : List Nat} (h : ∀ J', Cl vs J' → PG Y tg (tG Y.K ad J' bm)) : PG Y tg (tGx Y.K ad vs bm) := ⟨fun pins s σ H v u Q I r ⟨J', hJ, z⟩ => (h J' hJ).run pins s σ H v u Q I r z⟩
theorem tx_of {Y : Cx} {vs : List Nat} (h : ∀ J', Cl vs J' → PTs Y ifs (tT Y.K ad J' WF tm)) : PTs Y ifs (tTx Y.K ad vs tm) := ⟨fun pins s σ H Q I ⟨J', hJ, z⟩ => (h J' hJ).run pins s σ H Q I z⟩
theorem ex_of {Y : Cx} {vs : List Nat} (h : ∀ J', Cl vs J' → PE Y elt (tE Y.K ad J' WF me)) : PE Y elt (tEx Y.K ad vs me) := ⟨fun pins s σ H Q I ⟨J', hJ, z⟩ => (h J' hJ).run pins s σ H Q I z⟩
theorem dts_nil {Y : Cx} : PTs Y [] (tT Y.K ad J W mYes) := ⟨fun pins s σ H Q I ⟨S, r, L, O, j, rl, rs, z⟩ => pts_nil.run pins s σ H Q I (z S r H true (Ext.refl _ _) rs rfl)⟩
theorem dts_one {Y : Cx} (h : PT Y a (tT Y.K ad J W tm)) : PTs Y [a] (tT Y.K ad J W tm) := pts_one h
/-- a comprehension's loop -/
theorem lc_post {It' : It} {nx : Nat → Store → Option (Option D)} {hm : Bool} {vs : List Nat} {S1 : Hp} {r1 : Rg} {L : Loc} {σ : L2.St} {Q : VK} {k : Nat} {O1 : Store} {H1 : Hp}
    (hgo : ∀ (i : Nat) (S : Hp) (r : Rg) (O : Store) (H : Hp) (d : D), Same S1 S → r1.l <+: r.l → Rs X.K ad S r O H → nx i O = some (some d) → It'.go i H ∧ ∀ x H', It'.yld i H x H' → H' = H ∧ Rp X.K S r d x)
    (hst : ∀ (i : Nat) (S : Hp) (r : Rg) (O : Store) (H : Hp), Same S1 S → r1.l <+: r.l → Rs X.K ad S r O H → nx i O = some none → It'.stop i H)
    (rl : Rl X.K S1 r1 L σ) (rs : Rs X.K ad S1 r1 O1 H1) (z : Post X.K ad (fun S r => Rp X.K S r) W σ S1 r1 Q (lcEnd hm (lcG nx (lcTurn vs bm tm me L) k 0 O1 []))) :
    ∀ Dn, H1 Dn = none → ∃ W' : Nat → Nat → Hp → Prop, (∃ m, W' 0 m (upd H1 Dn (.lst []))) ∧ ∀ i m H, W' i m H →
      (It'.stop i H ∧ Q (.ref Dn) H) ∨ (It'.go i H ∧ ∃ Nx : Hp → Prop, (∀ H', Nx H' → ∃ m', m' < m ∧ W' (i + 1) m' H') ∧ ∀ x H', It'.yld i H x H' → tGx X.K ad vs bm x (wipe σ vs) H' fun σ2 H2 => wipe σ2 vs = wipe σ vs ∧ tTx X.K ad vs tm σ2 H2 fun b H3 =>
        if b = true then tEx X.K ad vs me σ2 H3 fun y H4 => ∃ acc, H4 Dn = some (.lst acc) ∧ acc.length < sizeLine ∧ Nx (upd H4 Dn (.lst (acc ++ [y]))) else Nx H3) := by
  intro Dn hDn
  have hfr : r1.fr Dn = none := rs.fr.free hDn
  have ww : wipe (wipe σ vs) vs = wipe σ vs := by
    have key : ∀ (us : List Nat) (τ : L2.St), (∀ u ∈ us, ∀ w, τ[u]? = some w → w = none) → wipe τ us = τ := fun us => by
      induction us with
      | nil => intro τ _; rfl
      | cons u us ih =>
        intro τ h
        unfold wipe
        rw [ih τ fun u' hu' => h u' (List.mem_cons_of_mem _ hu')]
        refine List.ext_getElem? fun n => ?_
        by_cases hn : u = n
        · subst hn
          by_cases hl : u < τ.length
          · rw [List.getElem?_set_self hl]
            have := h u List.mem_cons_self τ[u] (List.getElem?_eq_getElem hl)
            rw [List.getElem?_eq_getElem hl, this]
          · rw [List.getElem?_eq_none (by rw [List.length_set]; omega), List.getElem?_eq_none (by omega)]
        · rw [List.getElem?_set_ne hn]
    refine key vs _ fun u hu w hw => ?_
    cases w with
    | none => rfl
    | some w => exact absurd hu (wipe_some hw).2
  refine ⟨fun i m H => ∃ S r O acc us, Same S1 S ∧ r1.l <+: r.l ∧ r.fr = r1.fr ∧ Rs X.K ad S (r.at (upd r1.fr Dn (.lst us))) O H ∧ RpAll X.K S r acc us ∧ Post X.K ad (fun S r => Rp X.K S r) W σ S1 r1 Q (lcEnd hm (lcG nx (lcTurn vs bm tm me L) m i O acc)),
    ⟨k, S1, r1, O1, [], [], Same.refl _, List.prefix_rfl, rfl, rs.hold hDn, rfl, z⟩, ?_⟩
  rintro i m H ⟨S, r, O, acc, us, es, el, ef, rs, ra, z⟩
  have fin : nx i O = some none → Post X.K ad (fun S r => Rp X.K S r) W σ S1 r1 Q (lcEnd hm (some (O, acc))) → It'.stop i H ∧ Q (.ref Dn) H := fun hn z => by
    refine ⟨hst i S (r.at (upd r1.fr Dn (.lst us))) O H es el rs hn, ?_⟩
    have rs' : Rs X.K ad S (r.at (upd r.fr Dn (.lst us))) O H := by rw [ef]; exact rs
    obtain ⟨q1, q2, q3, q4⟩ := rs'.unhold (by rw [ef]; exact hfr)
    have e0 : Ext S1 r1 S r := ⟨es, ef, el⟩
    replace z : Post X.K ad (fun S r => Rp X.K S r) W σ S1 r1 Q (newL hm acc O) := z
    unfold newL at z
    split at z
    · cases hm with
      | true =>
        rw [if_pos rfl] at z
        refine z S (r.push Dn) H _ (e0.trans (Ext.push S r Dn)) (q1.pushAt ⟨q3, us, q2, RpAll.mono (Ext.push S r Dn) _ _ ra⟩ q4 (by rw [ef]; exact hfr)) ⟨Dn, rfl, ?_⟩
        show (r.l ++ [Dn])[O.length]? = some Dn
        rw [← q1.len, List.getElem?_append_right (Nat.le_refl _)]
        simp
      | false =>
        rw [if_neg Bool.false_ne_true] at z
        exact z (upd S Dn (.lst us)) r H _ (e0.trans (Ext.new q3)) (q1.sealAt q2 q3 q4 (by rw [ef]; exact hfr)) ⟨Dn, us, rfl, upd_same, RpAll.mono (Ext.new q3) _ _ ra⟩
    · exact z.elim
  have next : ∀ m', m = m' + 1 → ∀ d, nx i O = some (some d) → Post X.K ad (fun S r => Rp X.K S r) W σ S1 r1 Q (lcEnd hm (match lcTurn vs bm tm me L d O acc with | some p => lcG nx (lcTurn vs bm tm me L) m' (i + 1) p.1 p.2 | none => none)) →
      (It'.go i H ∧ ∃ Nx : Hp → Prop, (∀ H', Nx H' → ∃ m'', m'' < m ∧ (∃ S r O acc us, Same S1 S ∧ r1.l <+: r.l ∧ r.fr = r1.fr ∧ Rs X.K ad S (r.at (upd r1.fr Dn (.lst us))) O H' ∧ RpAll X.K S r acc us ∧ Post X.K ad (fun S r => Rp X.K S r) W σ S1 r1 Q (lcEnd hm (lcG nx (lcTurn vs bm tm me L) m'' (i + 1) O acc)))) ∧
        ∀ x H', It'.yld i H x H' → tGx X.K ad vs bm x (wipe σ vs) H' fun σ2 H2 => wipe σ2 vs = wipe σ vs ∧ tTx X.K ad vs tm σ2 H2 fun b H3 =>
          if b = true then tEx X.K ad vs me σ2 H3 fun y H4 => ∃ acc, H4 Dn = some (.lst acc) ∧ acc.length < sizeLine ∧ Nx (upd H4 Dn (.lst (acc ++ [y]))) else Nx H3) := by
    intro m' hm' d hd z
    obtain ⟨g1, g2⟩ := hgo i S (r.at (upd r1.fr Dn (.lst us))) O H d es el rs hd
    refine ⟨g1, _, fun H' hN => ⟨m', by omega, hN⟩, fun x H' hy => ?_⟩
    obtain ⟨rfl, px⟩ := g2 x H' hy
    let rr := r.at (upd r1.fr Dn (.lst us))
    have rlw : Rl X.K S rr (wipeL L vs) (wipe σ vs) := ⟨(wipe_rl rl vs).len, fun n d hn => by
      obtain ⟨v, q1, q2⟩ := (wipe_rl rl vs).at_ n d hn
      exact ⟨v, q1, Rp.monoW (r' := rr) es el d v q2⟩⟩
    refine ⟨Jw vs (wipe σ vs), wipe_cl, S, rr, wipeL L vs, O, d, ww, rlw, rs, px, ?_⟩
    unfold lcTurn at z
    generalize bm d (wipeL L vs) O = w at z
    cases w with
    | none => exact z.elim
    | some w =>
      intro S2 r2 σ2 H2 e2 j2 l2 s2
      refine ⟨j2, Jw vs (wipe σ vs), wipe_cl, S2, r2, w.1, w.2, j2, l2, s2, ?_⟩
      replace z : Post X.K ad (fun S r => Rp X.K S r) W σ S1 r1 Q (lcEnd hm (match (match tm w.1 w.2 with
        | .ok true O2 => match me w.1 O2 with
          | .ok y O3 => if acc.length ≤ 900000 then some (O3, acc ++ [y]) else none
          | _ => none
        | .ok false O2 => some (O2, acc)
        | _ => none) with | some p => lcG nx (lcTurn vs bm tm me L) m' (i + 1) p.1 p.2 | none => none)) := z
      generalize tm w.1 w.2 = t at z
      cases t with
      | exc x O3 => exact z.elim
      | bad => exact z.elim
      | ok k O3 =>
        intro S3 r3 H3 k' e3 s3 ek
        obtain rfl : k' = k := ek
        cases k' with
        | false =>
          rw [if_neg Bool.false_ne_true]
          have e23 := e2.trans e3
          have hr3 : r3 = (r3.at r1.fr).at (upd r1.fr Dn (.lst us)) := by
            obtain ⟨l3, f3⟩ := r3
            have : f3 = upd r1.fr Dn (.lst us) := e23.f
            subst this
            rfl
          rw [hr3] at s3
          exact ⟨S3, r3.at r1.fr, O3, acc, us, es.trans e23.s, List.IsPrefix.trans el e23.r, rfl, s3, RpAll.monoW (r := r) (r' := r3.at r1.fr) e23.s e23.r _ _ ra, z⟩
        | true =>
          rw [if_pos rfl]
          refine ⟨Jw vs (wipe σ vs), wipe_cl, S3, r3, w.1, O3, j2, l2.mono e3, s3, ?_⟩
          replace z : Post X.K ad (fun S r => Rp X.K S r) W σ S1 r1 Q (lcEnd hm (match (match me w.1 O3 with
            | .ok y O3 => if acc.length ≤ 900000 then some (O3, acc ++ [y]) else none
            | _ => none) with | some p => lcG nx (lcTurn vs bm tm me L) m' (i + 1) p.1 p.2 | none => none)) := z
          generalize me w.1 O3 = t at z
          cases t with
          | exc x O3 => exact z.elim
          | bad => exact z.elim
          | ok y O4 =>
            intro S4 r4 H4 v e4 s4 pv
            have e24 := (e2.trans e3).trans e4
            have hr4 : r4 = (r4.at r1.fr).at (upd r1.fr Dn (.lst us)) := by
              obtain ⟨l4, f4⟩ := r4
              have : f4 = upd r1.fr Dn (.lst us) := e24.f
              subst this
              rfl
            rw [hr4] at s4
            replace z : Post X.K ad (fun S r => Rp X.K S r) W σ S1 r1 Q (lcEnd hm (match (if acc.length ≤ 900000 then some (O4, acc ++ [y]) else none) with | some p => lcG nx (lcTurn vs bm tm me L) m' (i + 1) p.1 p.2 | none => none)) := z
            split at z
            · rename_i hacc
              split at hacc
              · rename_i hlen
                cases hacc
                refine ⟨us, s4.fr Dn _ upd_same, by rw [ra.length]; exact million_lt (by omega), S4, r4.at r1.fr, O4, acc ++ [y], us ++ [v], es.trans e24.s, List.IsPrefix.trans el e24.r, rfl, s4.rehold, ?_, z⟩
                exact (RpAll.monoW (r := r) (r' := r4.at r1.fr) e24.s e24.r _ _ ra).append (.cons (Rp.monoW (r := r4) (r' := r4.at r1.fr) (Same.refl _) List.prefix_rfl _ _ pv) .nil)
              · cases hacc
            · exact z.elim
  cases hn : nx i O with
  | none =>
    have e : lcG nx (lcTurn vs bm tm me L) m i O acc = none := by
      cases m with
      | zero => unfold lcG; rw [hn]
      | succ m => unfold lcG; rw [hn]
    rw [e] at z
    exact z.elim
  | some o =>
    cases o with
    | none =>
      have e : lcG nx (lcTurn vs bm tm me L) m i O acc = some (O, acc) := by
        cases m with
        | zero => unfold lcG; rw [hn]
        | succ m => unfold lcG; rw [hn]
      rw [e] at z
      exact .inl (fin hn z)
    | some d =>
      cases m with
      | zero =>
        have e : lcG nx (lcTurn vs bm tm me L) 0 i O acc = none := by unfold lcG; rw [hn]
        rw [e] at z
        exact z.elim
      | succ m =>
        have e : lcG nx (lcTurn vs bm tm me L) (m + 1) i O acc = (match lcTurn vs bm tm me L d O acc with | some p => lcG nx (lcTurn vs bm tm me L) m (i + 1) p.1 p.2 | none => none) := by
          show (match nx i O with | some none => some (O, acc) | some (some d) => (match lcTurn vs bm tm me L d O acc with | some p => lcG nx (lcTurn vs bm tm me L) m (i + 1) p.1 p.2 | none => none) | none => none) = _
          rw [hn]
        rw [e] at z
        exact .inr (next m rfl d hn z)
theorem lcL_imp {hm : Bool} : ∀ σ H Q, (tE X.K ad J W (mLcL hm m (own.map (·.2)) bm tm me)) σ H Q → tLc (iList X.K (tE X.K ad J W m)) (tGx X.K ad (own.map (·.2)) bm) (tTx X.K ad (own.map (·.2)) tm) (tEx X.K ad (own.map (·.2)) me) (own.map (·.2)) σ H Q := by
  rintro σ H Q ⟨S, r, L, O, j, rl, rs, z⟩
  refine ⟨S, r, L, O, j, rl, rs, (Post.bind z).imp ?_⟩
  rintro x H1 ⟨S1, r1, d, O1, e1, s1, p1, q1⟩
  replace q1 : Post X.K ad (fun S r => Rp X.K S r) W σ S1 r1 Q (match lsqOf O1 d with
    | some xs => lcEnd hm (lcG (fun i O => (lsqOf O d).map (·[i]?)) (lcTurn (own.map (·.2)) bm tm me L) xs.length 0 O1 [])
    | none => .bad) := q1
  split at q1
  · rename_i xs hx
    obtain ⟨a, vs, rfl, h1, h2⟩ := lsqOf_ok s1 p1 hx
    refine ⟨a, rfl, ⟨vs, h1⟩, lc_post (fun i S r O H d' es el rs hn => ?_) (fun i S r O H es el rs hn => ?_) (rl.mono e1) s1 q1⟩
    · obtain ⟨ys, hy, e⟩ := Option.map_eq_some_iff.mp (show (lsqOf O d).map (·[i]?) = some (some d') from hn)
      obtain ⟨a', us, ea, g1, g2⟩ := lsqOf_ok rs (Rp.monoW es el d _ p1) hy
      cases ea
      obtain ⟨v, hv, pv⟩ := g2.get e
      exact ⟨⟨us, v, g1, hv⟩, fun x H' hyy => ⟨hyy.1, by rw [Option.some.inj ((hyy.2 us g1).symm.trans hv)]; exact pv⟩⟩
    · obtain ⟨ys, hy, e⟩ := Option.map_eq_some_iff.mp (show (lsqOf O d).map (·[i]?) = some none from hn)
      obtain ⟨a', us, ea, g1, g2⟩ := lsqOf_ok rs (Rp.monoW es el d _ p1) hy
      cases ea
      exact ⟨us, g1, by rw [g2.length]; exact List.getElem?_eq_none_iff.mp e⟩
  · exact q1.elim
theorem de_lcL {hm : Bool} (hc : X.calm = true) (hN : X.N.Nodup) (hi : PE X iter (tE X.K ad J W m)) (ok : BlkOk X.N X.env.scope scope own)
    (hg : ∀ (s : Shared) (H : Hp) (C : Addr) (cl : List (Str × Addr)) (fp : List Addr) (J' : JP), Cl (own.map (·.2)) J' → PG (X.blk s H scope (PySem.compEnvC scope cl C X.env) fp) tg (tG X.K ad J' bm))
    (ht : ∀ (s : Shared) (H : Hp) (C : Addr) (cl : List (Str × Addr)) (fp : List Addr) (J' : JP), Cl (own.map (·.2)) J' → PTs (X.blk s H scope (PySem.compEnvC scope cl C X.env) fp) ifs (tT X.K ad J' WF tm))
    (he : ∀ (s : Shared) (H : Hp) (C : Addr) (cl : List (Str × Addr)) (fp : List Addr) (J' : JP), Cl (own.map (·.2)) J' → PE (X.blk s H scope (PySem.compEnvC scope cl C X.env) fp) elt (tE X.K ad J' WF me)) (hs : ∀ x, foldedSetIterable iter X.env x = pure x := by intro _; rfl) :
    PE X (.ListComp elt [⟨tg, iter, ifs, 0⟩] scope pos) (tE X.K ad J W (mLcL hm m (own.map (·.2)) bm tm me)) :=
  pe_imp (pe_lc hc hN (pi_list hi) ok (g := tGx X.K ad (own.map (·.2)) bm) (tt := tTx X.K ad (own.map (·.2)) tm) (te := tEx X.K ad (own.map (·.2)) me) (fun s H C cl fp => gx_of (hg s H C cl fp)) (fun s H C cl fp => tx_of (ht s H C cl fp)) (fun s H C cl fp => ex_of (he s H C cl fp)) hs) lcL_imp
theorem ds_setLcL {y : Str} {py spos : Pos} {iy : Nat} {hm : Bool} (hc : X.calm = true) (hN : X.N.Nodup) (hi : PE X iter (tE X.K ad J W m)) (ok : BlkOk X.N X.env.scope scope own)
    (hg : ∀ (s : Shared) (H : Hp) (C : Addr) (cl : List (Str × Addr)) (fp : List Addr) (J' : JP), Cl (own.map (·.2)) J' → PG (X.blk s H scope (PySem.compEnvC scope cl C X.env) fp) tg (tG X.K ad J' bm))
    (ht : ∀ (s : Shared) (H : Hp) (C : Addr) (cl : List (Str × Addr)) (fp : List Addr) (J' : JP), Cl (own.map (·.2)) J' → PTs (X.blk s H scope (PySem.compEnvC scope cl C X.env) fp) ifs (tT X.K ad J' WF tm))
    (he : ∀ (s : Shared) (H : Hp) (C : Addr) (cl : List (Str × Addr)) (fp : List Addr) (J' : JP), Cl (own.map (·.2)) J' → PE (X.blk s H scope (PySem.compEnvC scope cl C X.env) fp) elt (tE X.K ad J' WF me)) (hs : ∀ x, foldedSetIterable iter X.env x = pure x := by intro _; rfl) (hy : X.N[iy]? = some y) (hyl : X.env.scope.names.lookup y = some .local) (hsw : swapsWith (.ListComp elt [⟨tg, iter, ifs, 0⟩] scope pos) (some (.Name y py)) spos.line X.env = pure true) (hJ : ∀ (σ : L2.St) (v : Option V) (S : Hp), J.p σ S → J.p (σ.set iy v) S := by intro _ _ _ _; trivial) :
    PS X (.Assign [.Name y py] (.ListComp elt [⟨tg, iter, ifs, 0⟩] scope pos) spos) (tS X.K ad J W (sAsg (mLcL hm m (own.map (·.2)) bm tm me) (bName iy))) := by
  refine ps_imp (ps_setLc hc hN hy hyl hsw (pi_list hi) ok (g := tGx X.K ad (own.map (·.2)) bm) (tt := tTx X.K ad (own.map (·.2)) tm) (te := tEx X.K ad (own.map (·.2)) me) (fun s H C cl fp => gx_of (hg s H C cl fp)) (fun s H C cl fp => tx_of (ht s H C cl fp)) (fun s H C cl fp => ex_of (he s H C cl fp)) hs) ?_
  rintro En σ H h
  refine lcL_imp (hm := hm) (W := W) (J := J) σ H _ ?_
  refine asg_imp (t := gName iy) ?_ En σ H h
  rintro v σ H Q ⟨S, r, L, O, d, j, rl, rs, rp, p⟩
  exact p S r _ H (Ext.refl _ _) (hJ _ _ _ j) (rl.set iy rp) rs
end
end DK
end
section
set_option Elab.async false
set_option linter.all false
set_option autoImplicit false
set_option maxRecDepth 100000
set_option maxHeartbeats 4000000
/-! DKHead: facts of the head by names, a def's datum, the law's own end. -/
namespace DK
open PySem L2
/-! ### more facts -/
/-- these values are these texts -/
def strsB : List Value → List Str → Bool
  | [], [] => true
  | .str a _ :: vs, b :: bs => decide (a = b) && strsB vs bs
  | _, _ => false
/-- a tuple of texts of the module -/
def tupB (K : PySem.W.Frag) (a : Addr) (xs : List Str) : Bool := match K.lookup a with
  | some o => (o.cls == .type "tuple") && (match o.data with
    | .seq its _ => decide (its.size ≤ sizeLine) && strsB its.toList xs
    | _ => false)
  | none => false
inductive Fx where
  | exc (x : Str)
  | kitR (x y : Str) (b : Bool)
  | kitT (x : Str) (T : String) (b : Bool)
  | own (x : Str)
  | tupS (x : Str) (xs : List Str)
  | tupD (x : Str)
def Fx.ok (K : PySem.W.Frag) : Fx → Bool
  | .exc x => (decide (PySem.W.findIn K (.ref (He.ga K x)) "__getattribute__" = some (some (.builtin "BaseException.__getattribute__")) ∧ PySem.W.findIn K (.ref (He.ga K x)) "__getattr__" = some none ∧ PySem.W.subIn K (.ref (He.ga K x)) (.type "BaseException") = some true ∧ PySem.W.hasDictIn K (He.ga K x) = true ∧ PySem.W.findIn K (.ref (He.ga K x)) "__class__" = some (some (.builtin "object.__class__"))
      ∧ PySem.W.specialIn K (.builtin "object.__class__") "__get__" = some (some (.builtin "getset_descriptor.__get__")) ∧ PySem.W.takesIn K (.builtin "object.__class__") = some true ∧ PySem.W.mroIn K (He.ga K x) (.type "object") = some true))
  | .kitR x y b => decide (PySem.W.kitOne K (.ref (He.ga K x)) (.ref (He.ga K y)) = some b)
  | .kitT x T b => decide (PySem.W.kitOne K (.ref (He.ga K x)) (.type T) = some b)
  | .own x => decide (PySem.W.findIn K (.ref (He.ga K x)) "__class__" = some (some (.builtin "object.__class__")) ∧ PySem.W.specialIn K (.builtin "object.__class__") "__get__" = some (some (.builtin "getset_descriptor.__get__"))
      ∧ PySem.W.takesIn K (.builtin "object.__class__") = some true ∧ PySem.W.mroIn K (He.ga K x) (.type "object") = some true ∧ PySem.W.kitOne K (.ref (He.ga K x)) (.ref (He.ga K x)) = some true ∧ PySem.W.kitOne K (.type "int") (.ref (He.ga K x)) = some false)
  | .tupS x xs => tupB K (He.ga K x) xs
  | .tupD x => (match K.lookup (He.ga K x) with
    | some o => (o.cls == .type "tuple") && o.dict.isNone
    | none => false)
def allFx (fx : List Fx) (K : PySem.W.Frag) : Bool := fx.all fun f => f.ok K
/-- what the head tells of K -/
structure Knows (fa : List He.Fa) (fn : List He.DefD) (fx : List Fx) (K : PySem.W.Frag) (mg : Str → Option Value) : Prop where
  c : He.SaysD fa fn K
  x : allFx fx K = true
  h : ∃ h : Heap, K.In h ∧ h.Ns mainGlobals mg
section
variable {fa : List He.Fa} {fn : List He.DefD} {fx : List Fx} {K : PySem.W.Frag} {mg : Str → Option Value} (k : Knows fa fn fx K mg)
include k
theorem Knows.glo (i : Nat) {x : Str} (e : fa[i]? = some (.glo x) := by rfl) : mg x = some (.ref (He.ga K x)) := by
  obtain ⟨h, X, G⟩ := k.h
  exact He.glo_ok X G (k.c.fact i e)
theorem Knows.free (i : Nat) {x : Str} (e : fa[i]? = some (.free x) := by rfl) : mg x = none := by
  obtain ⟨h, X, G⟩ := k.h
  exact He.free_ok X G (k.c.fact i e)
theorem Knows.int (i : Nat) {x : Str} {z : Int} (e : fa[i]? = some (.int x z) := by rfl) : ∃ t, mg x = some (.int z t) := by
  obtain ⟨h, X, G⟩ := k.h
  exact He.int_ok X G (k.c.fact i e)
theorem Knows.str (i : Nat) {x z : Str} (e : fa[i]? = some (.str x z) := by rfl) : ∃ t, mg x = some (.str z t) := by
  obtain ⟨h, X, G⟩ := k.h
  exact He.str_ok X G (k.c.fact i e)
theorem Knows.cls (i : Nat) {x : Str} (e : fa[i]? = some (.cls x) := by rfl) : Cls K (He.ga K x) := He.cls_ok (k.c.fact i e)
theorem Knows.noat (i : Nat) {x f : Str} (e : fa[i]? = some (.noat x f) := by rfl) : NoAttr K (He.ga K x) f := He.noat_ok (k.c.fact i e)
theorem Knows.meth (i : Nat) {x m : Str} (e : fa[i]? = some (.meth x m) := by rfl) : Meth K (He.ga K x) m (He.fAd K (x, some m)) := He.meth_ok (k.c.fact i e)
theorem Knows.mkr (i : Nat) {x : Str} (e : fa[i]? = some (.mkr x) := by rfl) : Mk K (He.ga K x) (He.fAd K (x, some "__init__")) := He.mkr_ok (k.c.fact i e)
theorem Knows.exc (i : Nat) {x : Str} (e : fa[i]? = some (.exc x) := by rfl) : PySem.W.excIn K (He.ga K x) He.veBase "ValueError.__new__" = true ∧ PySem.W.keepIn K (.ref (He.ga K x)) = true ∧ PySem.W.subIn K (.ref (He.ga K x)) (.type "BaseException") = some true ∧ PySem.W.typeIn K (.ref (He.ga K x)) = some (.type "type") := He.exc_ok (k.c.fact i e)
theorem Knows.exm (i : Nat) {x y : Str} {b : Bool} (e : fa[i]? = some (.exm x y b) := by rfl) : PySem.W.exmOne K (.ref (He.ga K x)) (.ref (He.ga K y)) = some b := He.exm_ok (k.c.fact i e)
end
/-- a def that the mirror tells -/
def Has (P : Program) (w : World) (K : PySem.W.Frag) (mg : Str → Option Value) (base : Heap) (k : Nat) (d : He.DefD) (ps : List Str) (fm : FM) : Prop :=
  ∃ fd, FunD K d.name d.qual d.params d.body d.scope (d.dvs K) (d.kws K) (He.fAd K d.at_) fd ∧ FnOk P w K mg base (L2.CX P w) k (He.fAd K d.at_) fd ps (spM K (He.ga K) ps.length fm)
section
variable {P : Program} {w : World} {K : PySem.W.Frag} {mg : Str → Option Value} {base : Heap} {d : He.DefD} {ps N : List Str} {fm : FM} {b : SM}
theorem has_def {k : Nat} (c : ∃ fd, FunD K d.name d.qual d.params d.body d.scope (d.dvs K) (d.kws K) (He.fAd K d.at_) fd) (sc : FnScope N ps d.scope)
    (hb : ∀ (f : Addr) (cdv : Value) (A : Around) (outer : List Env) (s : Shared) (H : Hp) (E : XK), Room k (A.deeper (PyProof.Rows.envOfC d.qual d.scope s.heap.objs.size f cdv)) →
      PSs (cxOf (L2.CX P w) P w K mg base N d.qual d.scope f cdv A outer s H E) d.body (tS K (He.ga K) JT (fun c d _ H => E c d H) b)) :
    Has P w K mg base (k + 1) d ps (runF N.length b) := by
  obtain ⟨fd, F⟩ := c
  exact ⟨fd, F, fn_def F sc fun cdv A outer s H E hr => hb _ cdv A outer s H E hr⟩
end
/-! ### the law's def: nothing is let out -/
section
variable {P : Program} {w : World} {K : PySem.W.Frag} {mg : Str → Option Value} {base : Heap} {ad : Str → Addr}
/-- the promise: the law gives True -/
def spLaw (K : PySem.W.Frag) (m : FM) : Sp := fun vs H Q _ => ∃ (a : Addr) (ns : List Int), vs = [.ref a] ∧ SqL K H a (ns.map V.int) ∧ ns.length ≤ 63 ∧ (∃ O, m [.rol (ns.map D.int)] [] = .ok (.bl true) O) ∧ ∀ H', Q (.bl true) H'
theorem ints_rp {S : Hp} {r : Rg} : ∀ ns : List Int, RpAll K S r (ns.map D.int) (ns.map V.int)
  | [] => rfl
  | n :: ns => ⟨_, _, rfl, rfl, ints_rp ns⟩
theorem law_def {x qual : Str} {params : Arguments} {bd : List Stmt} {scope : Scope} {f : Addr} {fd : FuncData} {N : List Str} {k : Nat} {b : SM} {y : Str} (F : FunD K x qual params bd scope [] [] f fd) (sc : FnScope N [y] scope)
    (hb : ∀ (cdv : Value) (A : Around) (outer : List Env) (s : Shared) (H : Hp) (E : XK), Room k (A.deeper (PyProof.Rows.envOfC qual scope s.heap.objs.size f cdv)) →
      PSs (cxOf CX0 P w K mg base N qual scope f cdv A outer s H E) bd (tS K ad JT WF b)) :
    FnOk P w K mg base CX0 (k + 1) f fd [y] (spLaw K (runF N.length b)) := by
  have hpl : 1 ≤ N.length := by have := congrArg List.length sc.pre; rw [List.length_take] at this; simp at this; omega
  refine F.ok sc (fun vs H Q E h => ?_) (fun cdv A outer s H vs Q E hr h => ?_)
  · obtain ⟨a, ns, rfl, _⟩ := h
    rfl
  · refine ⟨_, hb cdv A outer s H E hr, ?_⟩
    obtain ⟨a, ns, rfl, hS, hl, ⟨O1, hm⟩, hQ⟩ := h
    have p1 : RpAll K H ⟨[], fun _ => none⟩ [.rol (ns.map D.int)] [.ref a] := ⟨_, _, rfl, ⟨a, _, rfl, hS, ints_rp ns⟩, rfl⟩
    have rs : Rs K ad H ⟨[], fun _ => none⟩ [] H := ⟨Same.refl H, rfl, List.nodup_nil, fun n a o h => (by simp at h), fun b u e => (by cases e), fun a o e => (by cases e)⟩
    refine ⟨H, ⟨[], fun _ => none⟩, _, [], trivial, start_rl (ds := [.rol (ns.map D.int)]) hpl p1, rs, ?_⟩
    unfold runF at hm
    generalize b (([D.rol (ns.map D.int)] : List D).map some ++ List.replicate (N.length - ([D.rol (ns.map D.int)] : List D).length) none) [] = z at hm ⊢
    cases z with
    | next L O => cases hm
    | ret d O =>
      cases hm
      exact fun S' r' H' v e _ p => by
        rw [show v = .bl true from p]
        exact hQ H'
    | brk L O => cases hm
    | cnt L O => cases hm
    | exc x L O => cases hm
    | bad => cases hm
end
/-- one address, one function object -/
theorem fd_eq {K : PySem.W.Frag} {x x' qual qual' : Str} {params params' : Arguments} {bd bd' : List Stmt} {scope scope' : Scope} {dvs dvs' : List V} {kws kws' : List (Str × V)} {f : Addr} {fd fd' : FuncData} (F : FunD K x qual params bd scope dvs kws f fd) (G : FunD K x' qual' params' bd' scope' dvs' kws' f fd') : fd = fd' := by
  obtain ⟨_, _, _, _, _, _, _, _, _, _, rfl, l1, _⟩ := F.ex
  obtain ⟨_, _, _, _, _, _, _, _, _, _, rfl, l2, _⟩ := G.ex
  have e := l1.symm.trans l2
  injection e with e
  injection e with _ _ e _
  injection e
/-! ### small helps -/
theorem tk_of {P : Program} {w : World} {K : PySem.W.Frag} {mg : Str → Option Value} {base : Heap} {N : List Str} {qual : Str} {scope : Scope} {f : Addr} {cdv : Value} {A : Around} {outer : List Env} {s : Shared} {H : Hp} {E : XK} : Takes (cxOf (L2.CX P w) P w K mg base N qual scope f cdv A outer s H E) (fun c d _ H => E c d H) := takes_of rfl rfl rfl rfl
theorem own_of {CX : CXT} {P : Program} {w : World} {K : PySem.W.Frag} {mg : Str → Option Value} {base : Heap} {N : List Str} {qual : Str} {scope : Scope} {f : Addr} {cdv : Value} {A : Around} {outer : List Env} {s : Shared} {H : Hp} {E : XK} : PassesOwn (model P w) (cxOf CX P w K mg base N qual scope f cdv A outer s H E).A (cxOf CX P w K mg base N qual scope f cdv A outer s H E).env (cxOf CX P w K mg base N qual scope f cdv A outer s H E).xe := passes_of rfl
def inC (st : Stmt) (i : Nat) : Stmt := match st with
  | .ClassDef _ _ _ b _ _ _ _ _ _ _ => b.getD i (.Pass ⟨0, 0, 0, 0⟩)
  | _ => .Pass ⟨0, 0, 0, 0⟩
end DK
end
section
set_option Elab.async false
set_option linter.all false
set_option autoImplicit false
set_option maxRecDepth 100000
set_option maxHeartbeats 4000000
/-! DKMore: loops over a text, methods of texts, repr. -/
namespace DK
open PySem L2
def charsD (s : Str) : List D := s.cps.toList.map fun c => .str ⟨#[c]⟩
theorem chars_rp {K : PySem.W.Frag} {S : Hp} {r : Rg} : ∀ cs : List Nat, RpAll K S r (cs.map fun c => D.str ⟨#[c]⟩) (cs.map fun c => V.str ⟨#[c]⟩)
  | [] => rfl
  | _ :: cs => ⟨_, _, rfl, rfl, chars_rp cs⟩
def sForS (m : EM) (b : BM) (body : SM) : SM := fun L O => ofRes L (m L O) fun d O1 => match d with
  | .str s => loopD (turnOf b body) (charsD s) L O1
  | _ => .bad
section
variable {X : Cx} {ad : Str → Addr} {J : JP} {W : WX} {pos : Pos} {a b c e tg iter elt : Expr} {es ifs : List Expr} {m me : EM} {mt : AM} {tm : TM} {st : Stmt} {rest body els : List Stmt} {s1 s2 : SM} {bm : BM} {bs : BsM} {scope : Scope} {own : List (Str × Nat)}
theorem its_at {x : Str} {i : Nat} {v : V} (h : (x.cps.toList.map fun c => V.str ⟨#[c]⟩)[i]? = some v) : ∃ c, x.cps[i]? = some c ∧ v = .str ⟨#[c]⟩ := by
  rw [List.getElem?_map] at h
  obtain ⟨c, hc, rfl⟩ := Option.map_eq_some_iff.mp h
  exact ⟨c, by rw [← Array.getElem?_toList]; exact hc, rfl⟩
theorem ds_forS (hp : PassesOwn (model X.prog X.w) X.A X.env X.xe) (hc : X.calm = true) (hi : PE X iter (tE X.K ad J W m)) (hg : PG X tg (tG X.K ad J bm)) (hb : PSs X body (tS X.K ad J W s1)) (hs : ∀ x, foldedSetIterable iter X.env x = pure x := by intro _; rfl) :
    PS X (.For tg iter body [] pos) (tS X.K ad J W (sForS m bm s1)) := by
  refine ps_imp (ps_for hp hc (pi_str hi) hg hb hs) ?_
  rintro En σ H ⟨S, r, L, O, j, rl, rs, p⟩
  refine ⟨S, r, L, O, j, rl, rs, (bindS j rl p).imp ?_⟩
  rintro x H1 ⟨S1, r1, d, O1, e1, q1, p1, k1⟩
  have rl1 := rl.mono e1
  cases d with
  | str s =>
    refine ⟨s, p1, for_still (It' := Its s) (charsD s) (chars_rp s.cps.toList) (fun i H S x e e' hx => ?_) (fun i H S x y H' e e' hx hy => ?_) (fun i H S e e' hl => ?_) (J.mono e1.s j) rl1 q1 k1⟩
    · obtain ⟨c, hc, _⟩ := its_at hx
      exact (Array.getElem?_eq_some_iff.mp hc).1
    · obtain ⟨c, hc, rfl⟩ := its_at hx
      obtain ⟨h1, c2, h2, h3⟩ := hy
      rw [hc] at h2
      cases h2
      exact ⟨h3, h1⟩
    · rw [List.length_map] at hl
      exact hl
  | hdl n => exact k1.elim
  | lst n => exact k1.elim
  | rol n => exact k1.elim
  | tup n => exact k1.elim
  | non => exact k1.elim
  | bl b => exact k1.elim
  | int i => exact k1.elim
/-! ### repr -/
end
/-! ### methods of texts -/
end DK
end
section
set_option Elab.async false
set_option linter.all false
set_option autoImplicit false
set_option maxRecDepth 100000
set_option maxHeartbeats 4000000
/-! DKMeth: methods of a list of the store (pop, insert, extend, remove, reverse), by mirrors. -/
namespace DK
open PySem L2
structure MethL (X : Cx) (ad : Str → Addr) (id : String) (g : Store → Nat → List D → List D → Option (D × Store)) : Prop where
  ok : ∃ rr, MtR X id rr ∧ ∀ (S : Hp) (r : Rg) (O : Store) (H : Hp) (n : Nat) (a : Addr) (xs : List D) (us vs : List V) (ds : List D) (W : WX) (σ : L2.St) (Q : VK), Rs X.K ad S r O H → r.l[n]? = some a → lstOf O (.hdl n) = some xs →
    H a = some (.lst us) → S a = none → RpAll X.K S r xs us → RpAll X.K S r ds vs → Post X.K ad (fun S r => Rp X.K S r) W σ S r Q (ofO (g O n xs ds)) → rr (.ref a) vs H Q
def mBL (g : Store → Nat → List D → List D → Option (D × Store)) (mo : EM) (mt : AM) : EM := fun L O => (mo L O).bind fun d O1 => match d with
  | .hdl n => match lstOf O1 (.hdl n) with
    | some _ => (mt L O1).bind fun ds O2 => match lstOf O2 (.hdl n) with
      | some xs => ofO (g O2 n xs ds)
      | none => .bad
    | none => .bad
  | _ => .bad
/-- the last item taken off -/
def gPop : Store → Nat → List D → List D → Option (D × Store) := fun O n xs ds => match ds with
  | [] => match xs[xs.length - 1]? with
    | some y => some (y, O.set n (.lst xs.dropLast))
    | none => none
  | _ => none
section
variable {X : Cx} {ad : Str → Addr} {J : JP} {W : WX} {pos p p2 apos cpos : Pos} {a b e o : Expr} {es : List Expr} {m me mo mi : EM} {mt : AM}
theorem rp_take {K : PySem.W.Frag} {S : Hp} {r : Rg} : ∀ {ds : List D} {vs : List V} (k : Nat), RpAll K S r ds vs → RpAll K S r (ds.take k) (vs.take k)
  | [], vs, k, h => by rw [show vs = [] from h, List.take_nil, List.take_nil]; rfl
  | d :: ds, vs, 0, h => rfl
  | d :: ds, vs, k + 1, h => by
    obtain ⟨v, vr, rfl, h1, h2⟩ := h
    exact ⟨v, _, rfl, h1, rp_take k h2⟩
theorem rp_getI {K : PySem.W.Frag} {S : Hp} {r : Rg} : ∀ {ds : List D} {vs : List V} {k : Nat} {y : D}, RpAll K S r ds vs → ds[k]? = some y → ∃ v, vs[k]? = some v ∧ Rp K S r y v
  | [], vs, k, y, h, e => by simp at e
  | d :: ds, vs, 0, y, h, e => by
    obtain ⟨v, vr, rfl, h1, h2⟩ := h
    cases e
    exact ⟨v, rfl, h1⟩
  | d :: ds, vs, k + 1, y, h, e => by
    obtain ⟨v, vr, rfl, h1, h2⟩ := h
    exact rp_getI (ds := ds) (k := k) h2 (by simpa using e)
theorem rp_rev {K : PySem.W.Frag} {S : Hp} {r : Rg} : ∀ {ds : List D} {vs : List V}, RpAll K S r ds vs → RpAll K S r ds.reverse vs.reverse
  | [], vs, h => by rw [show vs = [] from h]; rfl
  | d :: ds, vs, h => by
    obtain ⟨v, vr, rfl, h1, h2⟩ := h
    rw [List.reverse_cons, List.reverse_cons]
    exact (rp_rev h2).append (.cons h1 .nil)
theorem de_bL0 {name : Str} {id : String} {g : Store → Nat → List D → List D → Option (D × Store)} (pa : PlainAttrs "list") (slot : Slot "list" name id) (hty : typeOf (.builtin id) = pure (.type "method_descriptor")) (hm : MethL X ad id g) (ho : PE X o (tE X.K ad J W mo))
    (hbase : attributeBase o name X.env (eval o X.env) = eval o X.env := by rfl) (hline : (apos.endLine == cpos.line) = true := by rfl) :
    PE X (.Call (.Attribute o name apos) [] [] cpos) (tE X.K ad J W (mBL g mo mNil)) := by
  obtain ⟨rr, h1, h2⟩ := hm.ok
  refine pe_imp (pe_bm0 pa slot hty h1 ho hbase hline) ?_
  rintro σ H Q ⟨S, r, L, O, j, rl, rs, q⟩
  refine ⟨S, r, L, O, j, rl, rs, (Post.bind q).imp ?_⟩
  rintro x H1 ⟨S1, r1, d, O1, e1, s1, p1, q1⟩
  cases d with
  | hdl n =>
    obtain ⟨l, rfl, hl⟩ := p1
    replace q1 : Post X.K ad (fun S r => Rp X.K S r) W σ S1 r1 Q (match lstOf O1 (.hdl n) with
      | some _ => (match lstOf O1 (.hdl n) with | some xs => ofO (g O1 n xs []) | none => .bad)
      | none => .bad) := q1
    split at q1
    · rename_i zs hz
      replace q1 : Post X.K ad (fun S r => Rp X.K S r) W σ S1 r1 Q (ofO (g O1 n zs [])) := q1
      obtain ⟨z, us, g1, g2⟩ := hdl_lst s1 hl hz
      exact ⟨.inl ⟨rfl, us, .of g1⟩, h2 S1 r1 O1 H1 n l zs us [] [] W σ Q s1 hl hz g1 z g2 rfl q1⟩
    · exact q1.elim
  | lst n => exact q1.elim
  | rol n => exact q1.elim
  | tup n => exact q1.elim
  | non => exact q1.elim
  | bl b => exact q1.elim
  | int i => exact q1.elim
  | str i => exact q1.elim
theorem rp_dropLast {K : PySem.W.Frag} {S : Hp} {r : Rg} {ds : List D} {vs : List V} (h : RpAll K S r ds vs) : RpAll K S r ds.dropLast vs.dropLast := by
  rw [List.dropLast_eq_take, List.dropLast_eq_take, h.length]
  exact rp_take _ h
theorem ml_pop : MethL X ad "list.pop" gPop where
  ok := ⟨_, mt_pop, fun S r O H n a xs us vs ds W σ Q rs hl hx hH z h p q => by
    unfold gPop at q
    split at q
    · cases (show vs = [] from p)
      split at q
      · rename_i y hy
        obtain ⟨v, hv, rv⟩ := rp_getI h hy
        rw [← h.length] at hv
        exact ⟨a, us, v, rfl, rfl, hH, hv, q S r _ _ (Ext.refl _ _) (set_lst (vs := us) rs hl z (rp_dropLast h)) rv⟩
      · exact q.elim
    · exact q.elim⟩
end
end DK
end
section
set_option Elab.async false
set_option linter.all false
set_option autoImplicit false
set_option maxRecDepth 100000
set_option maxHeartbeats 4000000
/-! DKDict: dicts of the store, sorting. -/
namespace DK
open PySem L2
def keyD : D → Option Key
  | .int i => some (.inl i)
  | .str s => some (.inr s)
  | _ => none
def kD : Key → D
  | .inl i => .int i
  | .inr s => .str s
def valD (kvs : List (Key × D)) (k : Key) : Option D := (kvs.find? fun kv => decide (kv.1 = k)).map (·.2)
def putKD (kvs : List (Key × D)) (k : Key) (d : D) : List (Key × D) := if (kvs.any fun kv => decide (kv.1 = k)) = true then kvs.map (fun kv => if kv.1 = k then (kv.1, d) else kv) else kvs ++ [(k, d)]
def dropKD (kvs : List (Key × D)) (k : Key) : List (Key × D) := kvs.filter fun kv => decide (kv.1 ≠ k)
def dctOf (O : Store) : D → Option (List (Key × D))
  | .hdl n => match O[n]? with
    | some (.dct kvs) => some kvs
    | _ => none
  | _ => none
def mDNew : EM := fun _ O => .ok (.hdl O.length) (O ++ [.dct []])
def mDGet (mo mi : EM) : EM := fun L O => (mo L O).bind fun x O1 => (mi L O1).bind fun y O2 => match dctOf O2 x, keyD y with
  | some kvs, some k => match valD kvs k with
    | some d => .ok d O2
    | none => .bad
  | _, _ => .bad
def mDIn (yes : Bool) (mi mo : EM) : EM := fun L O => (mi L O).bind fun y O1 => (mo L O1).bind fun x O2 => match dctOf O2 x, keyD y with
  | some kvs, some k => .ok (.bl ((valD kvs k).isSome == yes)) O2
  | _, _ => .bad
def mDGet1 (mo mi : EM) : EM := fun L O => (mo L O).bind fun x O1 => match dctOf O1 x with
  | some _ => (mi L O1).bind fun y O2 => match dctOf O2 x, keyD y with
    | some kvs, some k => .ok ((valD kvs k).getD .non) O2
    | _, _ => .bad
  | none => .bad
def hdlN : D → Nat
  | .hdl n => n
  | _ => 0
def sDPutM (mo mi mv : EM) : SM := fun L O => ofRes L (mv L O) fun v O1 => ofRes L (mo L O1) fun x O2 => ofRes L (mi L O2) fun y O3 => match dctOf O3 x, keyD y with
  | some kvs, some k => if kvs.length ≤ 1000000 then .next L (O3.set (hdlN x) (.dct (putKD kvs k v))) else .bad
  | _, _ => .bad
section
variable {K : PySem.W.Frag} {ad : Str → Addr} {S : Hp} {r : Rg} {O : Store} {H : Hp}
theorem keyD_rp {d : D} {v : V} {k : Key} (h : keyD d = some k) (p : Rp K S r d v) : v = kV k := by
  cases d <;> cases h
  · exact p
  · exact p
theorem RpP.val {k : Key} : ∀ {fs : List (Key × D)} {gs : List (Key × V)}, RpP K S r fs gs → (∀ d, valD fs k = some d → ∃ v, valV gs k = some v ∧ Rp K S r d v) ∧ (valD fs k = none → valV gs k = none)
  | [], gs, h => by
    rw [show gs = [] from h]
    exact ⟨fun d e => (by cases e), fun _ => rfl⟩
  | (g, x) :: fs, gs, h => by
    obtain ⟨v, gr, rfl, h1, h2⟩ := h
    obtain ⟨i1, i2⟩ := RpP.val (k := k) h2
    by_cases e : g = k
    · have e1 : valD ((g, x) :: fs) k = some x := by simp [valD, List.find?_cons, e]
      have e2 : valV ((g, v) :: gr) k = some v := valV_pos e
      exact ⟨fun d hd => ⟨v, e2, by rw [e1] at hd; cases hd; exact h1⟩, fun hn => by rw [e1] at hn; cases hn⟩
    · have e1 : valD ((g, x) :: fs) k = valD fs k := by simp [valD, List.find?_cons, e]
      have e2 : valV ((g, v) :: gr) k = valV gr k := valV_neg e
      rw [e1, e2]
      exact ⟨i1, i2⟩
theorem RpP.keys {κ : Type} : ∀ {fs : List (κ × D)} {gs : List (κ × V)}, RpP K S r fs gs → gs.map (·.1) = fs.map (·.1)
  | [], gs, h => by rw [show gs = [] from h]; rfl
  | (g, x) :: fs, gs, h => by
    obtain ⟨v, gr, rfl, h1, h2⟩ := h
    rw [List.map_cons, List.map_cons, RpP.keys h2]
theorem any_keys {α β : Type} {k : Key} {fs : List (Key × α)} {gs : List (Key × β)} (h : gs.map (·.1) = fs.map (·.1)) : (gs.any fun kv => decide (kv.1 = k)) = (fs.any fun kv => decide (kv.1 = k)) := by
  have e : ∀ {γ : Type} (l : List (Key × γ)), (l.any fun kv => decide (kv.1 = k)) = (l.map (·.1)).any fun x => decide (x = k) := fun l => by rw [List.any_map]; rfl
  rw [e, e, h]
theorem RpP.mapPut {k : Key} {d : D} {v : V} (hv : Rp K S r d v) : ∀ {fs : List (Key × D)} {gs : List (Key × V)}, RpP K S r fs gs → RpP K S r (fs.map fun kv => if kv.1 = k then (kv.1, d) else kv) (gs.map fun kv => if kv.1 = k then (kv.1, v) else kv)
  | [], gs, h => by rw [show gs = [] from h]; exact rfl
  | (g, x) :: fs, gs, h => by
    obtain ⟨u, gr, rfl, h1, h2⟩ := h
    rw [List.map_cons, List.map_cons]
    by_cases e : g = k
    · exact ⟨v, _, by simp [e], by simpa [e] using hv, RpP.mapPut hv h2⟩
    · exact ⟨u, _, by simp [e], by simpa [e] using h1, RpP.mapPut hv h2⟩
theorem RpP.snoc {k : Key} {d : D} {v : V} (hv : Rp K S r d v) : ∀ {fs : List (Key × D)} {gs : List (Key × V)}, RpP K S r fs gs → RpP K S r (fs ++ [(k, d)]) (gs ++ [(k, v)])
  | [], gs, h => by rw [show gs = [] from h]; exact ⟨v, [], rfl, hv, rfl⟩
  | (g, x) :: fs, gs, h => by
    obtain ⟨u, gr, rfl, h1, h2⟩ := h
    exact ⟨u, gr ++ [(k, v)], rfl, h1, RpP.snoc hv h2⟩
theorem RpP.putK {k : Key} {d : D} {v : V} {fs : List (Key × D)} {gs : List (Key × V)} (hv : Rp K S r d v) (h : RpP K S r fs gs) : RpP K S r (putKD fs k d) (L2.putK gs k v) := by
  unfold putKD L2.putK
  rw [any_keys (RpP.keys h)]
  split
  · exact RpP.mapPut hv h
  · exact RpP.snoc hv h
theorem dct_at (rs : Rs K ad S r O H) {d : D} {x : V} {kvs : List (Key × D)} (p : Rp K S r d x) (h : dctOf O d = some kvs) : ∃ n a ks, d = .hdl n ∧ x = .ref a ∧ r.l[n]? = some a ∧ S a = none ∧ H a = some (.dK ks) ∧ RpP K S r kvs ks := by
  cases d with
  | hdl n =>
    replace h : (match O[n]? with | some (.dct kvs) => some kvs | _ => none) = some kvs := h
    split at h
    · rename_i ks hk
      cases h
      obtain ⟨a, rfl, h1, h2, us, h3, h4⟩ := hdl_at rs p hk
      exact ⟨n, a, us, rfl, rfl, h1, h2, h3, h4⟩
    · cases h
  | non => cases h
  | bl b => cases h
  | int i => cases h
  | str s => cases h
  | lst s => cases h
  | rol s => cases h
  | tup s => cases h
end
section
variable {X : Cx} {ad : Str → Addr} {J : JP} {W : WX} {pos p p2 apos cpos tpos pos' : Pos} {a b e o i value f : Expr} {es : List Expr} {m me mo mi mv mf : EM} {mt : AM}
theorem de_dnew : PE X (.Dict [] [] pos) (tE X.K ad J W mDNew) := by
  refine pe_imp pe_dnewK ?_
  rintro σ H Q ⟨S, r, L, O, j, rl, rs, q⟩ p hp
  replace q : Post X.K ad (fun S r => Rp X.K S r) W σ S r Q (.ok (.hdl O.length) (O ++ [.dct []])) := q
  refine q S (r.push p) _ _ (Ext.push S r p) (rs.push hp ⟨rs.fresh hp, [], upd_same, rfl⟩) ⟨p, rfl, ?_⟩
  show (r.l ++ [p])[O.length]? = some p
  rw [← rs.len, List.getElem?_append_right (Nat.le_refl _)]
  simp
theorem de_dget (hu : X.A.units + 1 < cLine) (ho : PE X o (tE X.K ad J W mo)) (hi : PE X i (tE X.K ad J W mi)) (hs : NoSl i := by intro _ _; rfl) : PE X (.Subscript o i pos) (tE X.K ad J W (mDGet mo mi)) := by
  refine pe_imp (pe_dget hu ho hi hs) ?_
  rintro σ H Q ⟨S, r, L, O, j, rl, rs, q⟩
  refine ⟨S, r, L, O, j, rl, rs, (Post.bind q).imp ?_⟩
  rintro x H1 ⟨S1, r1, d, O1, e1, s1, p1, q1⟩
  refine ⟨S1, r1, L, O1, J.mono e1.s j, rl.mono e1, s1, (Post.bind q1).imp ?_⟩
  rintro y H2 ⟨S2, r2, d2, O2, e2, s2, p2, q2⟩
  split at q2
  · rename_i kvs k hk hy
    obtain ⟨n, a, ks, rfl, rfl, h1, h2, h3, h4⟩ := dct_at s2 (Rp.mono e2 _ _ p1) hk
    split at q2
    · rename_i v hv
      obtain ⟨u, hu1, hu2⟩ := h4.val.1 v hv
      exact ⟨a, u, rfl, by rw [keyD_rp hy p2, ← hu1]; exact DGet.k h3, q2 S2 r2 H2 u (Ext.refl _ _) s2 hu2⟩
    · exact q2.elim
  · exact q2.elim
theorem din_imp {yes : Bool} : ∀ σ H Q, tE X.K ad J W (mDIn yes mi mo) σ H Q → (tE X.K ad J W mi) σ H fun y H1 => (tE X.K ad J W mo) σ H1 fun x H2 => ∃ a o, x = .ref a ∧ DGet H2 a y o ∧ Q (.bl (o.isSome == yes)) H2 := by
  rintro σ H Q ⟨S, r, L, O, j, rl, rs, q⟩
  refine ⟨S, r, L, O, j, rl, rs, (Post.bind q).imp ?_⟩
  rintro y H1 ⟨S1, r1, d, O1, e1, s1, p1, q1⟩
  refine ⟨S1, r1, L, O1, J.mono e1.s j, rl.mono e1, s1, (Post.bind q1).imp ?_⟩
  rintro x H2 ⟨S2, r2, d2, O2, e2, s2, p2, q2⟩
  split at q2
  · rename_i kvs k hk hy
    obtain ⟨n, a, ks, rfl, rfl, h1, h2, h3, h4⟩ := dct_at s2 p2 hk
    refine ⟨a, valV ks k, rfl, by rw [keyD_rp hy (Rp.mono e2 _ _ p1)]; exact DGet.k h3, ?_⟩
    have es : (valV ks k).isSome = (valD kvs k).isSome := by
      cases hv : valD kvs k with
      | some v =>
        obtain ⟨u, hu1, _⟩ := h4.val.1 v hv
        rw [hu1]; rfl
      | none => rw [h4.val.2 hv]; rfl
    rw [es]
    exact q2 S2 r2 H2 _ (Ext.refl _ _) s2 rfl
  · exact q2.elim
theorem dt_din (hu : X.A.units + 1 < cLine) (hi : PE X i (tE X.K ad J W mi)) (ho : PE X o (tE X.K ad J W mo)) (hm : behindInMarks .In o = false) : PT X (.Compare i [.In] [o] pos) (tT X.K ad J W (mTest (mDIn true mi mo))) := by
  refine pt_imp (pt_cmp (pc_din hu hi ho) hm) (test_imp (t := tDIn (tE X.K ad J W mi) (tE X.K ad J W mo)) fun σ H Q h => ?_)
  obtain ⟨S, r, L, O, j, rl, rs, q⟩ := din_imp σ H Q h
  refine ⟨S, r, L, O, j, rl, rs, q.imp ?_⟩
  rintro y H1 ⟨S1, r1, L1, O1, j1, rl1, rs1, q1⟩
  refine ⟨S1, r1, L1, O1, j1, rl1, rs1, q1.imp ?_⟩
  rintro x H2 ⟨a, v, e1, e2, e3⟩
  exact ⟨a, v, e1, e2, by cases v <;> exact e3⟩
theorem dt_dnotin (hu : X.A.units + 1 < cLine) (hi : PE X i (tE X.K ad J W mi)) (ho : PE X o (tE X.K ad J W mo)) (hm : behindInMarks .NotIn o = false) : PT X (.Compare i [.NotIn] [o] pos) (tT X.K ad J W (mTest (mDIn false mi mo))) := by
  refine pt_imp (pt_cmp (pc_dnotin hu hi ho) hm) (test_imp (t := tDNotIn (tE X.K ad J W mi) (tE X.K ad J W mo)) fun σ H Q h => ?_)
  obtain ⟨S, r, L, O, j, rl, rs, q⟩ := din_imp σ H Q h
  refine ⟨S, r, L, O, j, rl, rs, q.imp ?_⟩
  rintro y H1 ⟨S1, r1, L1, O1, j1, rl1, rs1, q1⟩
  refine ⟨S1, r1, L1, O1, j1, rl1, rs1, q1.imp ?_⟩
  rintro x H2 ⟨a, v, e1, e2, e3⟩
  exact ⟨a, v, e1, e2, by cases v <;> exact e3⟩
theorem ds_dput (hu : X.A.units + 1 < cLine) (ho : PE X o (tE X.K ad J W mo)) (hi : PE X i (tE X.K ad J W mi)) (hv : PE X value (tE X.K ad J W mv)) (hs : swapsWith value (some (.Subscript o i pos')) pos.line X.env = pure false := by rfl) :
    PS X (.Assign [.Subscript o i pos'] value pos) (tS X.K ad J W (sDPutM mo mi mv)) := by
  refine ps_imp (ps_dput hu ho hi hv hs) ?_
  rintro En σ H ⟨S, r, L, O, j, rl, rs, q⟩
  refine ⟨S, r, L, O, j, rl, rs, (bindS j rl q).imp ?_⟩
  rintro v H1 ⟨S1, r1, dv, O1, e1, s1, p1, q1⟩
  refine ⟨S1, r1, L, O1, J.mono e1.s j, rl.mono e1, s1, (bindS (J.mono e1.s j) (rl.mono e1) q1).imp ?_⟩
  rintro x H2 ⟨S2, r2, dx, O2, e2, s2, p2, q2⟩
  refine ⟨S2, r2, L, O2, J.mono (e1.trans e2).s j, rl.mono (e1.trans e2), s2, (bindS (J.mono (e1.trans e2).s j) (rl.mono (e1.trans e2)) q2).imp ?_⟩
  rintro y H3 ⟨S3, r3, dy, O3, e3, s3, p3, q3⟩
  split at q3
  · rename_i kvs k hk hy
    obtain ⟨n, a, ks, rfl, rfl, h1, h2, h3, h4⟩ := dct_at s3 (Rp.mono e3 _ _ p2) hk
    split at q3
    · rename_i hl
      have pv := Rp.mono (e2.trans e3) _ _ p1
      refine ⟨a, _, rfl, by rw [keyD_rp hy p3]; exact DPut.k h3 (by rw [RpP.length h4]; exact million_lt hl), ?_⟩
      exact q3 S3 r3 σ _ (Ext.refl _ _) (J.mono (e1.trans (e2.trans e3)).s j) (rl.mono (e1.trans (e2.trans e3))) (s3.write h1 h2 ⟨h2, _, upd_same, h4.putK pv⟩)
    · exact q3.elim
  · exact q3.elim
end
/-! ### list, dict, sorted -/
def inrs : List Key → Option (List Str)
  | [] => some []
  | .inr s :: ks => (inrs ks).map (s :: ·)
  | .inl _ :: _ => none
def strsD : List D → Option (List Str)
  | [] => some []
  | .str s :: ds => (strsD ds).map (s :: ·)
  | _ => none
/-- texts in order -/
def leS (a b : Str) : Bool := !decide (b.cps.toList < a.cps.toList)
def sortS (l : List Str) : List Str := l.mergeSort leS
def sortI (l : List Int) : List Int := l.mergeSort fun a b => decide (a ≤ b)
/-- sorted: of a list of texts (fewer than 64), of ints, of a dict by texts -/
def gSorted (h : Bool) : Store → D → Option (D × Store) := fun O d => match dctOf O d with
  | some kvs => match inrs (kvs.map (·.1)) with
    | some ks => if ks.length < 64 then newLO h ((sortS ks).map .str) O else none
    | none => none
  | none => match lsqOf O d with
    | some xs => match intsOf xs with
      | some ns => if ns.length ≤ 1000000 then newLO h ((sortI ns).map .int) O else none
      | none => match strsD xs with
        | some ks => if ks.length < 64 then newLO h ((sortS ks).map .str) O else none
        | none => none
    | none => none
theorem strsD_rp {K : PySem.W.Frag} {S : Hp} {r : Rg} : ∀ {ds : List D} {vs : List V} {ns : List Str}, RpAll K S r ds vs → strsD ds = some ns → vs = ns.map V.str
  | [], vs, ns, h, e => by cases e; exact h
  | .str i :: ds, vs, ns, h, e => by
    obtain ⟨v, vr, rfl, rfl, h2⟩ := h
    have e : (strsD ds).map (i :: ·) = some ns := e
    obtain ⟨ms, e1, rfl⟩ := Option.map_eq_some_iff.mp e
    rw [strsD_rp h2 e1]
    rfl
  | .non :: _, _, _, _, e => by cases e
  | .int _ :: _, _, _, _, e => by cases e
  | .bl _ :: _, _, _, _, e => by cases e
  | .lst _ :: _, _, _, _, e => by cases e
  | .rol _ :: _, _, _, _, e => by cases e
  | .tup _ :: _, _, _, _, e => by cases e
  | .hdl _ :: _, _, _, _, e => by cases e
theorem strV_rp {K : PySem.W.Frag} {S : Hp} {r : Rg} : ∀ ys : List Str, RpAll K S r (ys.map D.str) (ys.map V.str)
  | [] => rfl
  | _ :: ys => ⟨_, _, rfl, rfl, strV_rp ys⟩
theorem intV_rp {K : PySem.W.Frag} {S : Hp} {r : Rg} : ∀ ys : List Int, RpAll K S r (ys.map D.int) (ys.map V.int)
  | [] => rfl
  | _ :: ys => ⟨_, _, rfl, rfl, intV_rp ys⟩
theorem inrs_map : ∀ {ks : List Key} {ns : List Str}, inrs ks = some ns → ks = ns.map Sum.inr
  | [], ns, e => by cases e; rfl
  | .inr s :: ks, ns, e => by
    have e : (inrs ks).map (s :: ·) = some ns := e
    obtain ⟨ms, e1, rfl⟩ := Option.map_eq_some_iff.mp e
    rw [inrs_map e1]
    rfl
  | .inl _ :: _, _, e => by cases e
/-- two orders of the same things are one, if the order is total -/
theorem perm_sorted {α : Type} {le : α → α → Prop} (anti : ∀ a b, le a b → le b a → a = b) : ∀ (l m : List α), l.Perm m → l.Pairwise le → m.Pairwise le → l = m
  | [], m, p, _, _ => (List.nil_perm.mp p).symm ▸ rfl
  | a :: l, [], p, _, _ => by cases List.perm_nil.mp p
  | a :: l, b :: m, p, hl, hm => by
    obtain ⟨l1, l2⟩ := List.pairwise_cons.mp hl
    obtain ⟨m1, m2⟩ := List.pairwise_cons.mp hm
    have e : a = b := by
      have ha := (p.mem_iff (a := a)).mp List.mem_cons_self
      have hb := (p.mem_iff (a := b)).mpr List.mem_cons_self
      rcases List.mem_cons.mp ha with e | ha
      · exact e
      · rcases List.mem_cons.mp hb with e | hb
        · exact e.symm
        · exact anti a b (l1 b hb) (m1 a ha)
    subst e
    rw [perm_sorted anti l m (List.Perm.cons_inv p) l2 m2]
theorem leS_total (a b : Str) : (leS a b || leS b a) = true := by
  unfold leS
  by_cases h : b.cps.toList < a.cps.toList
  · have : ¬ a.cps.toList < b.cps.toList := fun z => (List.lt_asymm h) z
    simp [h, this]
  · simp [h]
theorem leS_anti (a b : Str) (h1 : leS a b = true) (h2 : leS b a = true) : a = b := by
  unfold leS at h1 h2
  have e : a.cps.toList = b.cps.toList := List.le_antisymm (by simpa using h1) (by simpa using h2)
  obtain ⟨⟨x⟩⟩ := a
  obtain ⟨⟨y⟩⟩ := b
  cases e
  rfl
theorem leS_iff (a b : Str) : leS a b = true ↔ ¬ b.cps.toList < a.cps.toList := by
  unfold leS
  by_cases h : b.cps.toList < a.cps.toList
  · rw [decide_eq_true h]
    exact ⟨fun z => (by cases z), fun z => absurd h z⟩
  · rw [decide_eq_false h]
    exact ⟨fun _ => h, fun _ => rfl⟩
theorem leS_trans (a b c : Str) (h1 : leS a b = true) (h2 : leS b c = true) : leS a c = true := by
  rw [leS_iff] at *
  exact List.not_lt.mpr (List.le_trans (List.not_lt.mp h1) (List.not_lt.mp h2))
theorem ltCps_lt : ∀ a b : List Nat, PySem.Spec.ltCps a b = decide (a < b)
  | [], [] => by simp [PySem.Spec.ltCps]
  | [], _ :: _ => by simp [PySem.Spec.ltCps]
  | _ :: _, [] => by simp [PySem.Spec.ltCps]
  | x :: a, y :: b => by
    rw [PySem.Spec.ltCps, ltCps_lt a b]
    by_cases h : x < y
    · simp [List.cons_lt_cons_iff, h]
    · by_cases h2 : x = y
      · subst h2
        simp [List.cons_lt_cons_iff]
      · simp [List.cons_lt_cons_iff, h, h2]
theorem risingS_pw : ∀ (p : Str) (l : List Str), PyProof.Rows.risingS p l = true → l.Pairwise (fun a b => leS a b = true) ∧ ∀ x ∈ l, leS p x = true
  | p, [], _ => ⟨.nil, fun x h => by cases h⟩
  | p, x :: l, h => by
    have h' : (!PySem.Spec.ltCps x.cps.toList p.cps.toList && PyProof.Rows.risingS x l) = true := h
    obtain ⟨h1, h2⟩ := Bool.and_eq_true_iff.mp h'
    rw [ltCps_lt] at h1
    obtain ⟨i1, i2⟩ := risingS_pw x l h2
    refine ⟨List.pairwise_cons.mpr ⟨i2, i1⟩, fun y hy => ?_⟩
    rcases List.mem_cons.mp hy with rfl | hy
    · exact h1
    · exact leS_trans _ _ _ h1 (i2 y hy)
theorem sortedS_pw : ∀ (l : List Str), PyProof.Rows.sortedS l = true → l.Pairwise (fun a b => leS a b = true)
  | [], _ => .nil
  | x :: l, h => by
    obtain ⟨i1, i2⟩ := risingS_pw x l h
    exact List.pairwise_cons.mpr ⟨i2, i1⟩
theorem sortS_is {ys ks : List Str} (p : ys.Perm ks) (h : PyProof.Rows.sortedS ys = true) : ys = sortS ks :=
  perm_sorted (le := fun a b => leS a b = true) leS_anti ys (sortS ks) (p.trans (List.mergeSort_perm ks leS).symm) (sortedS_pw ys h) (List.pairwise_mergeSort leS_trans leS_total ks)
theorem sortI_is {ys ks : List Int} (p : ys.Perm ks) (h : ys.Pairwise (· ≤ ·)) : ys = sortI ks :=
  perm_sorted (le := fun a b : Int => a ≤ b) (fun a b => Int.le_antisymm) ys (sortI ks) (p.trans (List.mergeSort_perm ks _).symm) h
    ((List.pairwise_mergeSort (le := fun a b : Int => decide (a ≤ b)) (fun a b c h1 h2 => decide_eq_true (Int.le_trans (of_decide_eq_true h1) (of_decide_eq_true h2))) (fun a b => by
      rcases Int.le_total a b with h | h
      · simp [h]
      · simp [h]) ks).imp fun h => of_decide_eq_true h)
section
variable {X : Cx} {ad : Str → Addr} {J : JP} {W : WX}
theorem cd_sorted (h : Bool) (hc : X.calm = true) : CallD X ad (.builtin "sorted") (g1 (gSorted h)) := cd_1 (CallR.or (call_sortedD hc) (CallR.or cr_sortedI cr_sortedS)) fun S r O H x d W σ Q rs p q => by
  unfold gSorted at q
  split at q
  · rename_i kvs hk
    obtain ⟨n, a, ks, rfl, rfl, h1, h2, h3, h4⟩ := dct_at rs p hk
    split at q
    · rename_i zs hz
      split at q
      · rename_i hl
        rw [ofO_newLO] at q
        refine .inl ⟨a, ks, zs, rfl, .inl h3, by rw [RpP.keys h4, inrs_map hz], hl, fun ys p hp hs hn => ?_⟩
        rw [sortS_is hp hs]
        exact (newL_post rs (strV_rp _) q).2 p hn
      · exact q.elim
    · exact q.elim
  · split at q
    · rename_i xs hx
      obtain ⟨a, vs, rfl, h1, h2⟩ := lsqOf_ok rs p hx
      split at q
      · rename_i ns hn
        split at q
        · rw [ofO_newLO] at q
          rw [intsOf_rp h2 hn] at h1
          refine .inr (.inl ⟨a, ns, rfl, h1, fun ys p hp hs hnn => ?_⟩)
          rw [sortI_is hp hs]
          exact (newL_post rs (intV_rp _) q).2 p hnn
        · exact q.elim
      · split at q
        · rename_i ks hks
          split at q
          · rename_i hl
            rw [ofO_newLO] at q
            rw [strsD_rp h2 hks] at h1
            refine .inr (.inr ⟨a, ks, rfl, h1, hl, fun ys p hp hs hn => ?_⟩)
            rw [sortS_is hp hs]
            exact (newL_post rs (strV_rp _) q).2 p hn
          · exact q.elim
        · exact q.elim
    · exact q.elim
end
end DK
end
section
set_option Elab.async false
set_option linter.all false
set_option autoImplicit false
set_option maxRecDepth 100000
set_option maxHeartbeats 4000000
/-! DKConv: tuple(list), and other conversions, by mirrors. -/
namespace DK
open PySem L2
theorem un1 {k : Nat} {A : Around} (r : Room k A) : A.units + 1 < cLine := by have := r.un; omega
end DK
end
section
set_option Elab.async false
set_option linter.all false
set_option autoImplicit false
set_option maxRecDepth 100000
set_option maxHeartbeats 4000000
/-! DKMin: min and max of two texts, by mirrors. -/
namespace DK
open PySem PySem.Spec PyProof.Rows L2
def ltSV (a b : Str) : Bool := decide (a.cps.toList < b.cps.toList)
theorem rcGt_strD (A : Around) (s : Shared) (x : Str) (t : Tok) (y : Str) (u : Tok) (prog : Program) (w : World) (E : Value → Shared → Prop) (Q : Value → Shared → Prop) (h : Q (.bool (decide (y.cps.toList < x.cps.toList))) s) :
    wpAny (model prog w) A (richCompare .Gt (.str x t) (.str y u)) Q E s :=
  (PySem.P.gt_str h : wpAny (model prog w) A (compareOp .Gt (.str x t) (.str y u)) Q E s)
theorem rcLt_strD (A : Around) (s : Shared) (x : Str) (t : Tok) (y : Str) (u : Tok) (prog : Program) (w : World) (E : Value → Shared → Prop) (Q : Value → Shared → Prop) (h : Q (.bool (decide (x.cps.toList < y.cps.toList))) s) :
    wpAny (model prog w) A (richCompare .Lt (.str x t) (.str y u)) Q E s :=
  (PyProof.Rows.lt_str h : wpAny (model prog w) A (compareOp .Lt (.str x t) (.str y u)) Q E s)
def strAt (vs : Array (Str × Tok)) (i : Nat) : Str := ((vs[i]?).map (·.1)).getD ⟨#[]⟩
def strItems (vs : Array (Str × Tok)) : Array Value := vs.map fun p => .str p.1 p.2
section
variable {prog : Program} {w : World} {A : Around}
theorem strItems_at {vs : Array (Str × Tok)} {i : Nat} {v : Value} (h : (strItems vs)[i]? = some v) : ∃ t, v = .str (strAt vs i) t := by
  unfold strItems at h
  rw [Array.getElem?_map] at h
  obtain ⟨p, hp, rfl⟩ := Option.map_eq_some_iff.mp h
  refine ⟨p.2, ?_⟩
  unfold strAt
  rw [hp]
  rfl
theorem cmpS_lt (vs : Array (Str × Tok)) : CmpOf prog w A .Lt (fun i v => (strItems vs)[i]? = some v) (fun i j => ltSV (strAt vs i) (strAt vs j)) := fun i j vi vj s Q E hi hj h => by
  obtain ⟨t, rfl⟩ := strItems_at hi
  obtain ⟨u, rfl⟩ := strItems_at hj
  exact rcLt_strD _ _ _ _ _ _ _ _ _ _ h
theorem cmpS_gt (vs : Array (Str × Tok)) : CmpOf prog w A .Gt (fun i v => (strItems vs)[i]? = some v) (fun i j => ltSV (strAt vs j) (strAt vs i)) := fun i j vi vj s Q E hi hj h => by
  obtain ⟨t, rfl⟩ := strItems_at hi
  obtain ⟨u, rfl⟩ := strItems_at hj
  exact rcGt_strD _ _ _ _ _ _ _ _ _ _ h
theorem two_str {E : Value → Shared → Prop} {s : Shared} {a b : Str} {t u : Tok} {Q : Value → Shared → Prop} (hh : A.handled = none) (mx : Bool)
    (h : ∀ h' tk, (∀ c o, s.heap.get? c = some o → h'.get? c = some o) → Q (if (if mx = true then ltSV a b else ltSV b a) = true then .str b u else .str a t) { s with heap := h', toks := tk }) :
    wpAny (model prog w) A (call (.builtin (if mx = true then "max" else "min")) [.str a t, .str b u]) Q E s := by
  have hT : (s.heap.push { cls := .type "tuple", data := .seq #[.str a t, .str b u] }).IsTuple s.heap.objs.size (strItems #[(a, t), (b, u)]) := ⟨_, Heap.get?_push_size _ rfl, rfl, 0, by simp [strItems]⟩
  have hsz : (s.heap.push { cls := .type "tuple", data := .seq #[.str a t, .str b u] }).objs.size = s.heap.objs.size + 1 := Heap.size_push ..
  cases mx with
  | false =>
    show wpAny (model prog w) A (call (.builtin "min") [.str a t, .str b u]) Q E s
    refine call_min_two (wpAny_pyIter_tuple hT ?_)
    refine ⟨_, [_, s.heap.objs.size], [_], _, _, _, _, rfl, Walks.tuple (A := A.in1) hh _ s.heap.objs.size (by rw [hsz]; exact Nat.ne_of_lt (Nat.lt_succ_self _)) (strItems #[(a, t), (b, u)]),
      ⟨⟨_, Heap.get?_push_size _ rfl, rfl, rfl⟩, hT.push _⟩, fun c hc => ?_, by simp [strItems], cmpS_lt #[(a, t), (b, u)], fun v h' tk hP hk => ?_⟩
    · show c < ((s.heap.push _).push _).objs.size
      rw [Heap.size_push, hsz]
      rcases List.mem_cons.mp hc with rfl | hc
      · rw [hsz]; exact Nat.lt_succ_self _
      · rcases List.mem_cons.mp hc with rfl | hc
        · exact Nat.lt_succ_of_lt (Nat.lt_succ_self _)
        · cases hc
    · have hold : ∀ c o, s.heap.get? c = some o → h'.get? c = some o := fun c o e => by
        refine hk c o (fun hm => ?_) (Heap.get?_push_of_some _ (Heap.get?_push_of_some _ e))
        rcases List.mem_cons.mp hm with e1 | hm
        · have := Heap.lt_size e; rw [e1, hsz] at this; exact Nat.lt_irrefl _ (Nat.lt_of_succ_lt this)
        · cases hm
      have := h h' tk hold
      have hv : v = if ltSV b a = true then Value.str b u else Value.str a t := by
        have hP' : (strItems #[(a, t), (b, u)])[argBest (fun i j => ltSV (strAt #[(a, t), (b, u)] i) (strAt #[(a, t), (b, u)] j)) 1]? = some v := by
          have hsz2 : (strItems #[(a, t), (b, u)]).size - 1 = 1 := by simp [strItems]
          rw [← hsz2]; exact hP
        cases hc : ltSV b a <;> simp [argBest, strAt, strItems, hc] at hP' <;> simp [hP']
      rw [hv]; exact this
  | true =>
    show wpAny (model prog w) A (call (.builtin "max") [.str a t, .str b u]) Q E s
    refine call_max_two (wpAny_pyIter_tuple hT ?_)
    refine ⟨_, [_, s.heap.objs.size], [_], _, _, _, _, rfl, Walks.tuple (A := A.in1) hh _ s.heap.objs.size (by rw [hsz]; exact Nat.ne_of_lt (Nat.lt_succ_self _)) (strItems #[(a, t), (b, u)]),
      ⟨⟨_, Heap.get?_push_size _ rfl, rfl, rfl⟩, hT.push _⟩, fun c hc => ?_, by simp [strItems], cmpS_gt #[(a, t), (b, u)], fun v h' tk hP hk => ?_⟩
    · show c < ((s.heap.push _).push _).objs.size
      rw [Heap.size_push, hsz]
      rcases List.mem_cons.mp hc with rfl | hc
      · rw [hsz]; exact Nat.lt_succ_self _
      · rcases List.mem_cons.mp hc with rfl | hc
        · exact Nat.lt_succ_of_lt (Nat.lt_succ_self _)
        · cases hc
    · have hold : ∀ c o, s.heap.get? c = some o → h'.get? c = some o := fun c o e => by
        refine hk c o (fun hm => ?_) (Heap.get?_push_of_some _ (Heap.get?_push_of_some _ e))
        rcases List.mem_cons.mp hm with e1 | hm
        · have := Heap.lt_size e; rw [e1, hsz] at this; exact Nat.lt_irrefl _ (Nat.lt_of_succ_lt this)
        · cases hm
      have := h h' tk hold
      have hv : v = if ltSV a b = true then Value.str b u else Value.str a t := by
        have hP' : (strItems #[(a, t), (b, u)])[argBest (fun i j => ltSV (strAt #[(a, t), (b, u)] j) (strAt #[(a, t), (b, u)] i)) 1]? = some v := by
          have hsz2 : (strItems #[(a, t), (b, u)]).size - 1 = 1 := by simp [strItems]
          rw [← hsz2]; exact hP
        cases hc : ltSV a b <;> simp [argBest, strAt, strItems, hc] at hP' <;> simp [hP']
      rw [hv]; exact this
end
section
variable {X : Cx} {ad : Str → Addr}
theorem call_min2S (hc : X.calm = true) : CallR X (.builtin "min") (fun xs H Q => ∃ i j, xs = [.str i, .str j] ∧ Q (.str (if ltSV j i = true then j else i)) H) := by
  intro pins s σ H xs us Q I r h
  obtain ⟨i, j, rfl, q⟩ := h
  obtain ⟨u, w', rfl, ⟨t, rfl⟩, ⟨t', rfl⟩⟩ := vals2 r
  refine two_str (I.ok.hd hc) false fun h' tk k => ⟨_, H, I.kept k, ?_, q⟩
  cases hj : ltSV j i
  · exact ⟨_, rfl⟩
  · exact ⟨_, rfl⟩
theorem call_max2S (hc : X.calm = true) : CallR X (.builtin "max") (fun xs H Q => ∃ i j, xs = [.str i, .str j] ∧ Q (.str (if ltSV i j = true then j else i)) H) := by
  intro pins s σ H xs us Q I r h
  obtain ⟨i, j, rfl, q⟩ := h
  obtain ⟨u, w', rfl, ⟨t, rfl⟩, ⟨t', rfl⟩⟩ := vals2 r
  refine two_str (I.ok.hd hc) true fun h' tk k => ⟨_, H, I.kept k, ?_, q⟩
  cases hj : ltSV i j
  · exact ⟨_, rfl⟩
  · exact ⟨_, rfl⟩
/-- min and max of two whole numbers or two texts -/
def gMinA : Store → D → D → Option (D × Store) := fun O d e => match d, e with
  | .int i, .int j => some (.int (if j < i then j else i), O)
  | .str i, .str j => some (.str (if ltSV j i = true then j else i), O)
  | _, _ => none
def gMaxA : Store → D → D → Option (D × Store) := fun O d e => match d, e with
  | .int i, .int j => some (.int (if j > i then j else i), O)
  | .str i, .str j => some (.str (if ltSV i j = true then j else i), O)
  | _, _ => none
theorem cd_minA (hc : X.calm = true) : CallD X ad (.builtin "min") (g2 gMinA) := cd_2 (CallR.or (call_min2 hc) (call_min2S hc)) fun S r O H x y d e W σ Q rs p1 p2 q => by
  unfold gMinA at q
  split at q
  · rename_i i j
    rw [show x = .int i from p1, show y = .int j from p2]
    exact .inl ⟨i, j, rfl, q S r H _ (Ext.refl _ _) rs rfl⟩
  · rename_i i j
    rw [show x = .str i from p1, show y = .str j from p2]
    exact .inr ⟨i, j, rfl, q S r H _ (Ext.refl _ _) rs rfl⟩
  · exact q.elim
theorem cd_maxA (hc : X.calm = true) : CallD X ad (.builtin "max") (g2 gMaxA) := cd_2 (CallR.or (call_max2 hc) (call_max2S hc)) fun S r O H x y d e W σ Q rs p1 p2 q => by
  unfold gMaxA at q
  split at q
  · rename_i i j
    rw [show x = .int i from p1, show y = .int j from p2]
    exact .inl ⟨i, j, rfl, q S r H _ (Ext.refl _ _) rs rfl⟩
  · rename_i i j
    rw [show x = .str i from p1, show y = .str j from p2]
    exact .inr ⟨i, j, rfl, q S r H _ (Ext.refl _ _) rs rfl⟩
  · exact q.elim
end
end DK
end
section
set_option Elab.async false
set_option linter.all false
set_option autoImplicit false
set_option maxRecDepth 100000
set_option maxHeartbeats 4000000
/-! DKFrz: a list of the store that nobody writes any more is let be for good. -/
namespace DK
open PySem L2
def frzD (x : D) (O1 : Store) : Res D := match x with
  | .hdl n => match O1[n]? with
    | some (.lst xs) => .ok (.lst xs) (O1.set n .dead)
    | _ => .bad
  | d => .ok d O1
def mFrz (m : EM) : EM := fun L O => (m L O).bind frzD
section
variable {X : Cx} {ad : Str → Addr} {J : JP} {W : WX} {e : Expr} {m : EM}
theorem de_frz (h : PE X e (tE X.K ad J W m)) : PE X e (tE X.K ad J W (mFrz m)) := by
  refine pe_imp h ?_
  rintro σ H Q ⟨S, r, L, O, j, rl, rs, q⟩
  refine ⟨S, r, L, O, j, rl, rs, (Post.bind q).imp ?_⟩
  rintro x H1 ⟨S1, r1, d, O1, e1, s1, p1, q1⟩
  unfold frzD at q1
  split at q1
  · rename_i n
    split at q1
    · rename_i xs hx
      obtain ⟨a, rfl, hl, hz, vs, ha, hp⟩ := hdl_at s1 p1 hx
      have e2 : Ext S1 r1 (upd S1 a (.lst vs)) r1 := Ext.new hz
      exact q1.fin e2 (s1.freeze hl hz ha) ⟨a, vs, rfl, upd_same, RpAll.mono e2 _ _ hp⟩
    · exact q1.elim
  · exact q1.fin (Ext.refl _ _) s1 p1
end
end DK
end
section
set_option Elab.async false
set_option linter.all false
set_option autoImplicit false
set_option maxRecDepth 100000
set_option maxHeartbeats 4000000
/-! DKRev: list(reversed(a list)), by mirrors. -/
namespace DK
open PySem PySem.Spec PyProof.Rows L2 RT
section
variable {prog : Program} {w : World} {A : Around} {E : Value → Shared → Prop} {s : Shared}
theorem extend_rev {R : Result → Shared → Prop} {it l : Addr} {items : Array Value} (hh : A.handled = none) (hit : s.heap.IsRevIter it l ((items.size : Int) - 1)) (hl : s.heap.IsList l items) (hne : l ≠ it) (hn : items.size ≤ sizeLine) (S : Addr) (hSi : S ≠ it) (hSl : S ≠ l) (res : Value) (c₀ : Nat)
    (hS : s.heap.get? S = some { cls := .type "list", data := .seq #[] c₀ })
    (hR : ∀ h' tk acc' c', (∀ b o, b ≠ S → b ≠ it → s.heap.get? b = some o → h'.get? b = some o) → h'.get? S = some { cls := .type "list", dict := none, data := .seq acc' c', slots := #[] } →
      ItemsOf (fun i v => items[items.size - 1 - i]? = some v) acc' items.size → R (.ok (.ret res)) { s with heap := h', toks := tk }) :
    wpAny (model prog w) A.in1 (Builtin.List.listExtendWith (.ref S) (.ref it) res)
      (fun fin s' => match fin with | .done f => R (.ok f) s' | .again c' => c'.quiet = true ∧ codeAny (model prog w) A c' R s') (fun e s' => R (.error e) s') s := by
  have W := (Walks.listRev (prog := prog) (w := w) (A := A.in1) hh it l hne items).toS
  have hSf : S ∉ [it, l] := by simp only [List.mem_cons, List.not_mem_nil, or_false, not_or]; exact ⟨hSi, hSl⟩
  have hT : s.TypeIs (.ref it) "list_reverseiterator" := hit.typeIs
  have h1 : Builtin.List.listSameRef (.ref S) (.ref it) = false := by simp [Builtin.List.listSameRef, hSi]
  unfold Builtin.List.listExtendWith
  refine wpAny_bind (wpAny_typeOf hT ?_)
  rw [if_neg (by rw [h1]; decide)]
  refine wpAny_bind (wpAny_pyIter_revIter hit ?_)
  refine wpAny_bind (wpAny_holding ?_)
  unfold Builtin.List.listLengthHint
  refine wpAny_bind (wpAny_specialOf hT nolen_lri ?_)
  show wpAny _ A.in1 (specialOf (Value.ref it) (Str.ofString "__length_hint__") >>= _) _ _ _
  refine wpAny_bind (wpAny_specialOf hT hint_lri ?_)
  generalize hid : ("list_reverseiterator.__length_hint__" : String) = id0
  wp_delta
  rw [show splitId id0 = some ("list_reverseiterator", "__length_hint__") from by subst hid; decide +kernel]
  subst hid
  refine wpAny_bind (wpAny_isInstance (b := true) hT (by rw [isSubtype_type]; kernel_rfl) ?_)
  refine wpAny_pure ?_
  rw [if_neg (by decide)]
  have e0 : ((items.size : Nat) : Int) - 1 - ((0 : Nat) : Int) = (items.size : Int) - 1 := by omega
  refine wpAny_pure ⟨plainId_quiet F.plain_extend_loop _, codeAny_extend_loopS W hn _ hSf _ items.size 0 _ _ _ rfl (Nat.zero_le _) ⟨Nat.zero_le _, by rw [e0]; exact hit, hl⟩ hS (ItemsOf.nil _) fun s' acc' c' hm hS' hacc => ?_⟩
  rw [Moved.eq_with hm]
  refine hR s'.heap s'.toks acc' c' (fun b o hb hb2 e => hm.heap b o (fun hmem => ?_) e) hS' hacc
  rcases List.mem_cons.mp hmem with e' | hmem
  · exact hb e'
  · exact hb2 (List.mem_singleton.mp hmem)
theorem init_rev {R : Result → Shared → Prop} {it l : Addr} {items : Array Value} (hh : A.handled = none) (hit : s.heap.IsRevIter it l ((items.size : Int) - 1)) (hl : s.heap.IsList l items) (hne : l ≠ it) (hn : items.size ≤ sizeLine) (S : Addr) (hSi : S ≠ it) (hSl : S ≠ l)
    (hS : s.heap.get? S = some { cls := .type "list", data := .seq #[] })
    (hR : ∀ h' tk acc' c', (∀ b o, b ≠ S → b ≠ it → s.heap.get? b = some o → h'.get? b = some o) → h'.get? S = some { cls := .type "list", dict := none, data := .seq acc' c', slots := #[] } →
      ItemsOf (fun i v => items[items.size - 1 - i]? = some v) acc' items.size → R (.ok (.ret .none)) { s with heap := h', toks := tk }) :
    wpAny (model prog w) A.in1 (Builtin.«list.__init__» ⟨[.ref S, .ref it], []⟩)
      (fun fin s' => match fin with | .done f => R (.ok f) s' | .again c' => c'.quiet = true ∧ codeAny (model prog w) A c' R s') (fun e s' => R (.error e) s') s := by
  show wpAny _ _ (do let old ← Builtin.List.listItems (.ref S); Builtin.List.listUpdate (.ref S) (fun _ => #[]); letGo old.toList.reverse; Builtin.List.listExtendWith (.ref S) (.ref it) .none) _ _ s
  refine wpAny_bind ?_
  unfold Builtin.List.listItems
  refine wpAny_bind (wpAny_seqItems hS rfl (wpAny_pure ?_))
  show wpAny _ _ (updateSeq S (fun _ => #[]) >>= fun _ => letGo (#[] : Array Value).toList.reverse >>= fun _ => Builtin.List.listExtendWith (.ref S) (.ref it) .none) _ _ s
  refine wpAny_bind (wpAny_updateSeq hS rfl ?_)
  have hS₂ := Heap.get?_update_self (Obj.mapSeq (fun _ => (#[] : Array Value))) hS rfl
  have oth : ∀ b o, b ≠ S → s.heap.get? b = some o → (s.heap.update S (Obj.mapSeq (fun _ => (#[] : Array Value)))).get? b = some o :=
    fun b o hb e => (Heap.get?_update_other _ _ (Ne.symm hb)).trans e
  refine wpAny_bind (wpAny_letGo ?_)
  have hl2 : (s.heap.update S (Obj.mapSeq (fun _ => (#[] : Array Value)))).IsList l items := by
    obtain ⟨o, e, r⟩ := hl
    exact ⟨o, oth l o (Ne.symm hSl) e, r⟩
  refine extend_rev hh (hit.at fun o e => oth it o (Ne.symm hSi) e) hl2 hne hn S hSi hSl .none _ hS₂ fun h' tk acc' c' hk hS' hacc => ?_
  exact hR h' tk acc' c' (fun b o hb hb2 e => hk b o hb hb2 (oth b o hb e)) hS' hacc
theorem call_list_rev {Q : Value → Shared → Prop} {it l : Addr} {items : Array Value} (hh : A.handled = none) (hit : s.heap.IsRevIter it l ((items.size : Int) - 1)) (hl : s.heap.IsList l items) (hne : l ≠ it) (hn : items.size ≤ sizeLine)
    (hQ : ∀ h' tk acc' c', (∀ b o, b ≠ it → s.heap.get? b = some o → h'.get? b = some o) →
      h'.get? s.heap.objs.size = some { cls := .type "list", dict := none, data := .seq acc' c', slots := #[] } → ItemsOf (fun i v => items[items.size - 1 - i]? = some v) acc' items.size → Q (.ref s.heap.objs.size) { s with heap := h', toks := tk }) :
    wpAny (model prog w) A (call (.type "list") [.ref it]) Q E s := by
  refine callType_codes (Q₁ := fun obj s₁ => obj = .ref s.heap.objs.size ∧ s₁ = { s with heap := s.heap.push { cls := .type "list", data := .seq #[] } }) F.called_list (F.typeCall_list_1 _) F.entry_list_init
    (code_list_new _ ⟨rfl, rfl⟩) fun obj s₁ h₁ => ?_
  obtain ⟨rfl, rfl⟩ := h₁
  obtain ⟨oi, hoi, _⟩ := id hit
  obtain ⟨ol, hol, _⟩ := id hl
  have hS : (s.heap.push { cls := .type "list", data := .seq #[] }).get? s.heap.objs.size = some { cls := .type "list", data := .seq #[] } := Heap.get?_push_size _ rfl
  refine ⟨⟨_, hS, rfl⟩, F.args_list_init_2 _ _, init_rev (A := A.in1) hh (hit.at fun o e => Heap.get?_push_of_some _ e) (hl.push _) hne hn _ (Nat.ne_of_gt (Heap.lt_size hoi)) (Nat.ne_of_gt (Heap.lt_size hol)) hS fun h' tk acc' c' hk hS' hacc => ?_⟩
  exact ⟨rfl, hQ h' tk acc' c' (fun b o hb e => hk b o (Nat.ne_of_lt (Heap.lt_size e)) hb (Heap.get?_push_of_some _ e)) hS' hacc⟩
end
def tLstRev (K : PySem.W.Frag) (te : TE) : TE := fun σ H Q => te σ H fun v H1 => ∃ (a : Addr) (xs : List V), v = .ref a ∧ SqL K H1 a xs ∧ ∀ q, H1 q = none → Q (.ref q) (upd H1 q (.lst xs.reverse))
section
variable {X : Cx}
theorem pe_lstRev {e : Expr} {te : TE} {p p2 pos pos2 : Pos} (hc : X.calm = true) (hg : Gl X "list") (hm : X.mg "list" = none) (hg2 : Gl X "reversed") (hm2 : X.mg "reversed" = none) (he : PE X e te)
    (hs : starEach [e] X.env = (false, eval e X.env) :: starEach [] X.env := by rfl)
    (hs2 : starEach [.Call (.Name "reversed" p2) [e] [] pos2] X.env = (false, eval (.Call (.Name "reversed" p2) [e] [] pos2) X.env) :: starEach [] X.env := by rfl) :
    PE X (.Call (.Name "list" p) [.Call (.Name "reversed" p2) [e] [] pos2] [] pos) (tLstRev X.K te) := by
  refine ⟨fun pins s σ H Q I h => ?_⟩
  refine Call_ (ld_blt I hg hm boot_list (PyProof.Rows.callWith_type1 (args_cons (Call_ (ld_blt I hg2 hm2 PyProof.Rows.boot_reversed (PyProof.Rows.callWith_type1 (args_cons (thn (he.run pins s σ H _ I h) fun u s1 ⟨v, H1, I1, r1, q1⟩ => args_nil ?_) hs) hs rfl))) hs2) hs2 rfl))
  obtain ⟨a, xs, ev, hq, q⟩ := q1
  subst ev
  obtain rfl : u = Value.ref a := r1
  obtain ⟨its, rv, p', hz⟩ := I1.list hq
  refine call_reversed_list p'.isList (args_nil ?_)
  have k0 : ∀ b o, s1.heap.get? b = some o → (s1.heap.push (revObj a ((its.toArray.size : Int) - 1))).get? b = some o := fun b o e => Heap.get?_push_of_some _ e
  have I2 : Inv X pins σ H1 { s1 with heap := s1.heap.push (revObj a ((its.toArray.size : Int) - 1)) } := I1.kept (t' := s1.toks) k0
  obtain ⟨f0, f1, f2, f3, f4, f5⟩ := I1.fpOk (H' := H1) (b := s1.heap.objs.size) (Nat.le_refl _) (I1.hok.fresh (Nat.le_refl _))
  have hl := p'.isList
  obtain ⟨ol, hol, _⟩ := id hl
  have hne : a ≠ s1.heap.objs.size := Nat.ne_of_lt (Heap.lt_size hol)
  have hn : its.toArray.size ≤ sizeLine := by rw [List.size_toArray, ← rv.length]; exact hz
  have hl2 := hl.push (revObj a ((its.toArray.size : Int) - 1))
  refine call_list_rev (s := { s1 with heap := s1.heap.push (revObj a ((its.toArray.size : Int) - 1)) }) (I1.ok.hd hc) ⟨_, Heap.get?_push_size _ rfl, rfl, rfl⟩ hl2 hne hn fun h' tk acc c' hk hS' hi => ?_
  have hk' : ∀ b o, s1.heap.get? b = some o → h'.get? b = some o := fun b o e => hk b o (Nat.ne_of_lt (Heap.lt_size e)) (k0 b o e)
  have hsz : s1.heap.objs.size ≤ (s1.heap.push (revObj a ((its.toArray.size : Int) - 1))).objs.size := by rw [Heap.size_push]; exact Nat.le_succ _
  refine ⟨.ref (s1.heap.push (revObj a ((its.toArray.size : Int) - 1))).objs.size, upd H1 (s1.heap.push (revObj a ((its.toArray.size : Int) - 1))).objs.size (.lst xs.reverse), I1.laid (t' := tk) hk' hsz (show ObjOk X.prog X.w _ _ _ (.lst xs.reverse) from ⟨by rw [List.length_reverse]; exact hz, acc.toList, c', vals_rev rv hi, ?_⟩), rfl, q _ (I1.hok.fresh hsz)⟩
  rw [Array.toArray_toList]
  exact hS'
/-- list(reversed(x)) -/
def mLRev (h : Bool) (m : EM) : EM := fun L O => (m L O).bind fun d O1 => match lsqOf O1 d with
  | some xs => newL h xs.reverse O1
  | none => .bad
theorem de_lrev {ad : Str → Addr} {J : JP} {W : WX} {e : Expr} {m : EM} {p p2 pos pos2 : Pos} (hm0 : Bool) (hc : X.calm = true) (hg : Gl X "list") (hm : X.mg "list" = none) (hg2 : Gl X "reversed") (hm2 : X.mg "reversed" = none) (he : PE X e (tE X.K ad J W m))
    (hs : starEach [e] X.env = (false, eval e X.env) :: starEach [] X.env := by rfl)
    (hs2 : starEach [.Call (.Name "reversed" p2) [e] [] pos2] X.env = (false, eval (.Call (.Name "reversed" p2) [e] [] pos2) X.env) :: starEach [] X.env := by rfl) :
    PE X (.Call (.Name "list" p) [.Call (.Name "reversed" p2) [e] [] pos2] [] pos) (tE X.K ad J W (mLRev hm0 m)) := by
  refine pe_imp (pe_lstRev hc hg hm hg2 hm2 he hs hs2) ?_
  rintro σ H Q ⟨S, r, L, O, j, rl, rs, q⟩
  refine ⟨S, r, L, O, j, rl, rs, (Post.bind q).imp ?_⟩
  rintro x H1 ⟨S1, r1, d, O1, e1, s1, p1, q1⟩
  split at q1
  · rename_i xs hx
    obtain ⟨a, vs, rfl, h1, h2⟩ := lsqOf_ok s1 p1 hx
    exact ⟨a, vs, rfl, h1, (newL_post s1 (rp_rev h2) q1).2⟩
  · exact q1.elim
end
end DK
end
section
set_option Elab.async false
set_option linter.all false
set_option autoImplicit false
set_option maxRecDepth 100000
set_option maxHeartbeats 4000000
/-! DKOwn: == by an own __eq__, isinstance of an own class, remove from a list of texts; by mirrors. -/
namespace DK
open PySem L2
/-! ### remove from a list of texts -/
end DK
end
section
set_option Elab.async false
set_option linter.all false
set_option autoImplicit false
set_option maxRecDepth 100000
set_option maxHeartbeats 4000000
/-! DKMany: several except clauses, by mirrors; suites that are never asked. -/
namespace DK
open PySem L2
/-- a clause: which classes it takes, and its suite's mirrors -/
structure HdM where
  sub : Str → Option Bool
  ss : Str → SM
def cleanS : SR → SR
  | .next L O => .next L O
  | .ret d O => .ret d O
  | .brk L O => .brk L O
  | .cnt L O => .cnt L O
  | _ => .bad
def manyM : List HdM → Str → SM
  | [], c => fun L O => .exc ⟨c, none⟩ L O
  | h :: r, c => fun L O => match h.sub c with
    | some true => cleanS (h.ss c L O)
    | some false => manyM r c L O
    | none => .bad
def sTryM (hs : List HdM) (b : SM) : SM := fun L O => match b L O with
  | .next L1 O1 => .next L1 O1
  | .ret d O1 => .ret d O1
  | .brk L1 O1 => .brk L1 O1
  | .cnt L1 O1 => .cnt L1 O1
  | .exc ⟨c, none⟩ L1 O1 => manyM hs c L1 O1
  | .exc ⟨_, some _⟩ _ _ => .bad
  | .bad => .bad
section
variable {X : Cx} {ad : Str → Addr} {J : JP} {W : WX} {pos : Pos} {body : List Stmt} {sb : SM} {st : List Stmt}
/-- the clauses, one by one -/
inductive HdsD (X : Cx) (ad : Str → Addr) : List ExceptHandler → List HdM → List (Value × (Addr → Value → Option Addr → TS)) → Prop
  | nil : HdsD X ad [] [] []
  | cons {x : Str} {cv : Value} {h : HdM} {b0 : Stmt} {suite : List Stmt} {np pos' : Pos} {hds : List ExceptHandler} {ms : List HdM} {l : List (Value × (Addr → Value → Option Addr → TS))} (hc : Names X x cv)
      (hsub : ∀ nm b, h.sub nm = some b → PySem.W.exmOne X.K (.ref (ad nm)) cv = some b)
      (hsu : ∀ (nm : Str) (a : Addr) (oe : Obj) (pn : List (Addr × Obj)), h.sub nm = some true → Zc (.ref (ad nm)) none oe → (∃ vs, oe.data = .fields vs) → PSs (X.suite a ((a, oe) :: pn)) (b0 :: suite) (tS X.K ad JT WF (h.ss nm)))
      (r : HdsD X ad hds ms l) : HdsD X ad (.ExceptHandler (some (.Name x np)) none (b0 :: suite) pos' :: hds) (h :: ms)
        ((cv, fun a cls d En σ H => ∃ nm : Str, (cls = .ref (ad nm) ∧ d = none ∧ h.sub nm = some true) ∧ tS X.K ad JT WF (h.ss nm) En σ H) :: l)
theorem HdsD.ok {hds : List ExceptHandler} {ms : List HdM} {l : List (Value × (Addr → Value → Option Addr → TS))} (k : HdsD X ad hds ms l) : HdsOk X hds l := by
  induction k with
  | nil => exact .nil
  | cons hc hsub hsu r ih =>
    refine .cons hc (fun a oe cls d pn hz hfl => ?_) ih
    exact pss_ex fun nm hp => by
      obtain ⟨rfl, rfl, h3⟩ := hp
      exact hsu nm a oe pn h3 hz hfl
theorem many_imp {hds : List ExceptHandler} {ms : List HdM} {l : List (Value × (Addr → Value → Option Addr → TS))} (k : HdsD X ad hds ms l) {S : Hp} {r : Rg} {En : Ends} {nm : Str} {L1 : Loc} {O1 : Store}
    (z : PostS X.K ad JT W S r En (manyM ms nm L1 O1)) {S1 : Hp} {r1 : Rg} {σ1 : L2.St} {H1 : Hp} (e1 : Ext S r S1 r1) (l1 : Rl X.K S1 r1 L1 σ1) (s1 : Rs X.K ad S1 r1 O1 H1) : wMany X.K W En l (.ref (ad nm)) none σ1 H1 := by
  induction k with
  | nil => exact z S1 r1 σ1 H1 none e1 trivial l1 s1 rfl
  | @cons x cv h b0 suite np pos' hds ms l hc hsub hsu rr ih =>
    replace z : PostS X.K ad JT W S r En (match h.sub nm with
      | some true => cleanS (h.ss nm L1 O1)
      | some false => manyM ms nm L1 O1
      | none => .bad) := z
    cases hsc : h.sub nm with
    | none => rw [hsc] at z; exact z.elim
    | some b =>
      rw [hsc] at z
      refine ⟨b, hsub nm b hsc, fun hbt a ha => ?_, fun hbf => ?_⟩
      · subst hbt
        replace z : PostS X.K ad JT W S r En (cleanS (h.ss nm L1 O1)) := z
        refine ⟨nm, ⟨rfl, rfl, hsc⟩, S1, r1, L1, O1, trivial, l1, s1, ?_⟩
        generalize h.ss nm L1 O1 = y at z
        cases y with
        | next L2 O2 => exact fun S2 r2 σ2 H2 e2 j2 l2 s2 => z S2 r2 _ H2 (e1.trans e2) trivial l2 s2
        | ret d O2 => exact fun S2 r2 H2 v e2 s2 p2 => z S2 r2 H2 v (e1.trans e2) s2 p2
        | brk L2 O2 => exact fun S2 r2 σ2 H2 e2 j2 l2 s2 => z S2 r2 _ H2 (e1.trans e2) trivial l2 s2
        | cnt L2 O2 => exact fun S2 r2 σ2 H2 e2 j2 l2 s2 => z S2 r2 _ H2 (e1.trans e2) trivial l2 s2
        | exc x L2 O2 => exact z.elim
        | bad => exact z.elim
      · subst hbf
        exact ih z
theorem ds_try_many {h0 : ExceptHandler} {hds : List ExceptHandler} {ms : List HdM} {l : List (Value × (Addr → Value → Option Addr → TS))} (hs : X.stack = X.env :: X.outer) (hf : X.env.frame = some X.env.locals) (tk : Takes X W)
    (hb : ∀ (W : WX) (pn : List (Addr × Obj)) (xe : Value → Shared → Prop), Takes (X.tr pn xe) W → PassesOwn (model X.prog X.w) X.A X.env xe → PSs (X.tr pn xe) body (tS X.K ad JT W sb))
    (hh : HdsD X ad (h0 :: hds) ms l) : PS X (.Try body (h0 :: hds) [] [] pos) (tS X.K ad JT W (sTryM ms sb)) := by
  refine ps_imp (ps_try_many (tb := fun W => tS X.K ad JT W sb) hs hf tk hb hh.ok) ?_
  rintro En σ H ⟨S, r, L, O, j, rl, rs, z⟩
  refine ⟨S, r, L, O, j, rl, rs, ?_⟩
  unfold sTryM at z
  generalize sb L O = y at z
  cases y with
  | next L O => exact z
  | ret L O => exact z
  | brk L O => exact z
  | cnt L O => exact z
  | bad => exact z.elim
  | exc x L1 O1 =>
    obtain ⟨nm, fs⟩ := x
    cases fs with
    | some fs => exact z.elim
    | none =>
      replace z : PostS X.K ad JT W S r En (manyM ms nm L1 O1) := z
      intro S1 r1 σ1 H1 d e1 j1 l1 s1 hd
      obtain rfl : d = none := hd
      exact many_imp hh z e1 l1 s1
end
end DK
end
section
set_option Elab.async false
set_option linter.all false
set_option autoImplicit false
set_option maxRecDepth 100000
set_option maxHeartbeats 4000000
/-! DKSortD: sorted and min of lists of alike data (tuples of ints and texts, any length), by mirrors. -/
namespace DK
open PySem PySem.Spec PyProof.Rows L2 PySem.W
abbrev encD (O : Store) (d : D) : PyData := (deep O 20 d).getD .none
def alikeB (ds : List PyData) : Bool := ds.all fun d => ds.all fun d' => alike d d'
def isTup1 : PyData → Bool
  | .tuple (_ :: _) => true
  | _ => false
def isOth : PyData → Bool
  | .tuple _ => false
  | .none => false
  | _ => true
def sortB (ds : List PyData) : Bool := ds.all isTup1 || ds.all isOth
/-- sorted: of a list of alike data -/
def gSortD (h : Bool) : Store → D → Option (D × Store) := fun O d => match lsqOf O d with
  | some xs => if (xs.all fun x => (deep O 20 x).isSome) = true ∧ alikeB (xs.map (encD O)) = true ∧ sortB (xs.map (encD O)) = true ∧ (xs.all fun x => decide ((encD O x).depth ≤ 40)) = true
      then newLO h (xs.mergeSort (dataLe false (encD O))) O else none
  | none => none
/-! ### min -/
def decA : PyData → Option D
  | .none => some .non
  | .bool b => some (.bl b)
  | .int i => some (.int i)
  | .str s => some (.str s)
  | _ => none
def decD : PyData → Option D
  | .tuple ps => (ps.mapM decA).map .tup
  | p => decA p
def atomB : D → Bool
  | .non => true
  | .bl _ => true
  | .int _ => true
  | .str _ => true
  | _ => false
def flatT : D → Bool
  | .tup xs => xs.all atomB
  | d => atomB d
def minOk (O : Store) (xs : List D) : Bool := xs.all flatT && alikeB (xs.map (encD O)) && sortB (xs.map (encD O)) && decide (PyData.depthAll (xs.map (encD O)) ≤ 40)
/-- min: of a list of alike data, each a tuple of scalars or a scalar -/
def gMinD : Store → D → Option (D × Store) := fun O d => match lsqOf O d with
  | some (x :: xs) => if minOk O (x :: xs) = true then (decD (minD (encD O x) (xs.map (encD O)))).map fun b => (b, O) else none
  | _ => none
/-! ### sorted of a dict by texts, any length -/
end DK
end
section
set_option Elab.async false
set_option linter.all false
set_option autoImplicit false
set_option maxRecDepth 100000
set_option maxHeartbeats 4000000
/-! DKLock: comprehensions over a dict of the store, which is locked meanwhile; by mirrors. -/
namespace DK
open PySem L2
/-- .. for x in a dict of the store, locked meanwhile -/
def unlockR (n : Nat) : Res D → Res D
  | .ok d O => match O[n]? with
    | some (.fdc kvs) => .ok d (O.set n (.dct kvs))
    | _ => .bad
  | _ => .bad
def mLcD (h : Bool) (src : EM) (vs : List Nat) (b : BM) (tt : TM) (el : EM) : EM := fun L O => match src L O with
  | .ok (.hdl n) _ => match O[n]? with
    | some (.dct kvs) => match src L (O.set n (.fdc kvs)) with
      | .ok (.hdl n') O1 => if n' = n then unlockR n (lcEnd h (lcG (fun i _ => some (kvs.map fun kv => kD kv.1)[i]?) (lcTurn vs b tt el L) kvs.length 0 O1 [])) else .bad
      | _ => .bad
    | _ => .bad
  | _ => .bad
end DK
end
section
set_option Elab.async false
set_option linter.all false
set_option autoImplicit false
set_option maxRecDepth 100000
set_option maxHeartbeats 4000000
/-! DKDictC: dict comprehensions, by mirrors. -/
namespace DK
open PySem L2
end DK
end
section
set_option Elab.async false
set_option linter.all false
set_option autoImplicit false
set_option maxRecDepth 100000
set_option maxHeartbeats 4000000
/-! DKIdx: index of a text in a list of texts, by mirrors. -/
namespace DK
open PySem L2
end DK
end
section
set_option Elab.async false
set_option linter.all false
set_option autoImplicit false
set_option maxRecDepth 100000
set_option maxHeartbeats 4000000
/-! DKSetC: sorted({.. for ..}) over ints, by a mirror. -/
namespace DK
open PySem L2 PyProof.Rows
/-! ### a set comprehension over any kind of sets -/
abbrev noSet (w : World) : Obj := { cls := .type "set", dict := none, data := .set #[] 0 (.fresh 0 0 (!w.params.followText "set-order")) }
structure SetFam (prog : Program) (w : World) (β : Type) where
  ob : Addr → β → HO
  nil : β
  put : V → β → β → Prop
  new : ∀ (G : Hp) (h : Heap), ObjOk prog w G (h.push (noSet w)) h.objs.size (ob h.objs.size nil)
  add : ∀ {Y : Cx}, Y.prog = prog → Y.w = w → ∀ {pn : List (Addr × Obj)} {τ : L2.St} {G : Hp} {t : Shared} {E : Value → Shared → Prop} {D : Addr} {c c' : β} {y : V} {u : Value} {Q : Value → Shared → Prop}, Inv Y pn τ G t → G D = some (ob D c) → put y c c' → RelV y u →
    (∀ t', Inv Y pn τ (upd G D (ob D c')) t' → Q .none t') → wpAny (model Y.prog Y.w) Y.A (call (.builtin "set.add") [.ref D, u]) Q E t
/-- {elt for target in iter if ..}: D the new set, what a turn puts in told by the kind -/
def tScF {β : Type} (ob : Addr → β → HO) (nil : β) (put : V → β → β → Prop) (wi : TI) (g : TG) (tt : TT) (te : TE) (vs : List Nat) : TE := fun σ H Q => wi σ H fun J H1 =>
  ∀ D, H1 D = none → ∃ V' : Nat → Nat → Hp → Prop, (∃ m, V' 0 m (upd H1 D (ob D nil))) ∧ ∀ i m G, V' i m G →
    (J.stop i G ∧ Q (.ref D) G) ∨ (J.go i G ∧ ∃ N' : Hp → Prop, (∀ G', N' G' → ∃ m', m' < m ∧ V' (i + 1) m' G') ∧
      ∀ x G', J.yld i G x G' → g x (wipe σ vs) G' fun τ G2 => wipe τ vs = wipe σ vs ∧ tt τ G2 fun b G3 => if b = true then te τ G3 fun y G4 => ∃ c c', put y c c' ∧ G4 D = some (ob D c) ∧ N' (upd G4 D (ob D c')) else N' G3)
section
variable {X : Cx} {β : Type} (F : SetFam X.prog X.w β) {elt tg iter : Expr} {ifs : List Expr} {scope : Scope} {own : List (Str × Nat)} {pos : Pos} {wi : TI} {g : TG} {tt : TT} {te : TE}
theorem pe_scF (calm : X.calm = true) (nd : X.N.Nodup) (hi : PI X tg iter wi) (blk : BlkOk X.N X.env.scope scope own)
    (hg : ∀ (s : Shared) (G : Hp) (C : Addr) (cl : List (Str × Addr)) (fp : List Addr), PG (X.blk s G scope (PySem.compEnvC scope cl C X.env) fp) tg g)
    (ht : ∀ (s : Shared) (G : Hp) (C : Addr) (cl : List (Str × Addr)) (fp : List Addr), PTs (X.blk s G scope (PySem.compEnvC scope cl C X.env) fp) ifs tt)
    (he : ∀ (s : Shared) (G : Hp) (C : Addr) (cl : List (Str × Addr)) (fp : List Addr), PE (X.blk s G scope (PySem.compEnvC scope cl C X.env) fp) elt te)
    (unf : ∀ x, foldedSetIterable iter X.env x = pure x := by intro _; rfl) : PE X (.SetComp elt [⟨tg, iter, ifs, 0⟩] scope pos) (tScF F.ob F.nil F.put wi g tt te (own.map (·.2))) := by
  refine ⟨fun pn s σ H Q inv pre => ?_⟩
  rw [PpSet.eval_SetComp]
  have free : ∀ y ∈ scope.names, y.2 = .free → ∃ c, X.env.cells.lookup y.1 = some c := fun y hy e => (blk.free y hy e).elim (fun k => inv.ok.has _ (.inl k)) fun k => inv.ok.has _ (.inr k)
  refine wpAny_comprehension_free rfl unf (closure_ok free) blk.kind (fun y hy e => by rw [blk.uniq y hy, e]) (thn (hi.run pn s σ H _ inv pre) fun xv s1 h1 => thn h1 fun itv s2 h2 => ?_)
  obtain ⟨it, fp, tn, J, H2, rfl, inv2, T, at2, ok2, rest⟩ := h2
  refine PpSet.newSet_ok (newEnv_comp ?_)
  obtain ⟨D, hD⟩ : ∃ D, s2.heap.objs.size = D := ⟨_, rfl⟩
  have none2 : H2 D = none := inv2.hok.fresh (Nat.le_of_eq hD)
  obtain ⟨V', ⟨m0, start⟩, turn⟩ := rest D none2
  obtain ⟨s3, hs3⟩ : ∃ s3 : Shared, { s2 with heap := s2.heap.push (noSet X.w) } = s3 := ⟨_, rfl⟩
  have hp3 : s3.heap = s2.heap.push (noSet X.w) := by rw [← hs3]
  have inv3 : Inv X pn σ (upd H2 D (F.ob D F.nil)) s3 := by
    have := inv2.laid (t' := s2.toks) (a := s2.heap.objs.size) (o := F.ob s2.heap.objs.size F.nil) (h' := s2.heap.push (noSet X.w)) (fun b o e => Heap.get?_push_of_some _ e) (Nat.le_refl _) (F.new _ _)
    rw [hD] at this
    rw [← hs3]
    exact this
  have keep3 : ∀ {b : Addr} {o : Obj}, s2.heap.get? b = some o → s3.heap.get? b = some o := fun e => by rw [hp3]; exact Heap.get?_push_of_some _ e
  have ok3 : ∀ b ∈ fp, FpOk X pn (upd H2 D (F.ob D F.nil)) b ∧ b < s3.heap.objs.size := fun b hb => by
    obtain ⟨o, e, _⟩ := T.obj _ _ at2 b hb
    have lt := Heap.lt_size e
    obtain ⟨k1, k2⟩ := ok2 b hb
    exact ⟨⟨by rw [upd_ne (Nat.ne_of_lt (hD ▸ lt))]; exact k1, k2⟩, by rw [hp3, Heap.size_push]; exact Nat.lt_succ_of_lt lt⟩
  have at3 : tn 0 s3.heap := T.keep _ _ _ at2 fun b _ o e => keep3 e
  have inv4 := block_start inv3 blk nd ok3
  let H3 : Hp := upd H2 D (F.ob D F.nil)
  let C := s3.heap.objs.size
  let cs := cellsFrom (C + 1) scope.names (cloFrom X.env.cells scope.names [])
  have Pg := hg s3 H3 C cs fp
  have Pt := ht s3 H3 C cs fp
  have Pe := he s3 H3 C cs fp
  have emp : ∀ b ∈ fp, H3 b = none := fun b hb => (ok3 b hb).1.1
  show codeAny _ _ (.compStart (.SetComp elt [⟨tg, iter, ifs, 0⟩] scope pos) 0 (.ref it) (.ref s2.heap.objs.size) (compEnvC scope (cellsFrom ((s2.heap.push (noSet X.w)).objs.size + 1) scope.names (cloFrom X.env.cells scope.names [])) (s2.heap.push (noSet X.w)).objs.size X.env))
    (PySem.compPost (model X.prog X.w) X.A X.xe none _ (.ref s2.heap.objs.size) (s2.heap.push (noSet X.w)).objs.size) { s2 with heap := pushCells ((s2.heap.push (noSet X.w)).push { cls := .type "dict", data := .dict #[] }) scope.names }
  have e4 : ({ s2 with heap := pushCells ((s2.heap.push (noSet X.w)).push { cls := .type "dict", data := .dict #[] }) scope.names } : Shared) = { s3 with heap := pushCells (s3.heap.push { cls := .type "dict", data := .dict #[] }) scope.names } := by rw [← hs3]
  rw [e4, ← hp3, hD]
  show codeAny _ _ (.compStart (.SetComp elt [⟨tg, iter, ifs, 0⟩] scope pos) 0 (.ref it) (.ref D) (compEnvC scope cs C X.env)) (PySem.compPost (model X.prog X.w) X.A X.xe none _ (.ref D) C) _
  obtain ⟨env4, henv⟩ : ∃ env4, compEnvC scope cs C X.env = env4 := ⟨_, rfl⟩
  have loc4 : env4.locals = C := by rw [← henv]; rfl
  obtain ⟨s4, hs4⟩ : ∃ s4 : Shared, { s3 with heap := pushCells (s3.heap.push { cls := .type "dict", data := .dict #[] }) scope.names } = s4 := ⟨_, rfl⟩
  have at4 : tn 0 s4.heap := T.keep _ _ _ at3 fun b _ o e => by rw [← hs4]; exact pushCells_keeps _ _ _ _ (Heap.get?_push_of_some _ e)
  change Inv (X.blk s3 H3 scope (compEnvC scope cs C X.env) fp) _ _ _ _ at inv4
  rw [hs4] at inv4 ⊢
  rw [henv] at inv4 Pg Pt Pe ⊢
  have hold : ∀ {τ : L2.St} {G : Hp} {t : Shared}, Inv (X.blk s3 H3 scope env4 fp) [] τ G t → (∀ b ∈ fp, G b = none) → ∀ b ∈ fp, FpOk (X.blk s3 H3 scope env4 fp) [] G b := fun {τ G t} I n b hb =>
    ⟨n b hb, (I.ok.exf b hb).1, I.ok.exfs b hb, .inl hb, fun x c e => (I.ok.exf b hb).2 x c e, fun p hp => absurd (show p ∈ ([] : List (Addr × Obj)) ++ [] from hp) (by simp)⟩
  have all : codeAny (model X.prog X.w) X.A (.compLoop (.SetComp elt [⟨tg, iter, ifs, 0⟩] scope pos) 0 (.ref it) (.ref D) env4) (PySem.compPost (model X.prog X.w) X.A X.xe none (fun v s' => ∃ x H', Inv X pn σ H' s' ∧ RelV x v ∧ Q x H') (.ref D) C) s4 := by
    refine PpSet.compLoopS_any (fun n t => ∃ i G, Inv (X.blk s3 H3 scope env4 fp) [] (wipe σ (own.map (·.2))) G t ∧ tn i t.heap ∧ (∀ b ∈ fp, G b = none) ∧ V' i n G) ?_ m0 ⟨0, H3, inv4, at4, emp, start⟩
    rintro n t5 ⟨i, G5, inv5, at5, emp5, v5⟩
    rcases turn i n G5 v5 with ⟨stop, post⟩ | ⟨go, N', hN, step⟩
    · refine thnF (T.done (X.blk s3 H3 scope env4 fp) rfl rfl rfl calm i [] t5 _ G5 (fun _ _ => False) inv5 (hold inv5 emp5) at5 stop) fun r t6 ⟨hr, inv6⟩ => ?_
      subst hr
      have inv7 : Inv X pn σ G5 t6 := inv3.call' (ch := fp) inv6.os inv6.base inv6.hok inv6.bare fun b hb => by
        obtain ⟨_, k2, _, k4, k5, k6⟩ := (ok3 b hb).1
        exact ⟨k4, k2, k5, k6⟩
      have noC : G5 C = none := by
        have z : G5 env4.locals = none := inv6.free
        rwa [loc4] at z
      obtain ⟨mc, hmc, _⟩ := inv6.loc
      have hmc : t6.heap.Ns env4.locals mc := hmc
      rw [loc4] at hmc
      obtain ⟨f0, f1, f2, f3, f4, f5⟩ := inv3.fpOk (Nat.le_refl _) noC
      exact ⟨mc, hmc, fun h'' sb => ⟨.ref D, G5, inv7.turned (t' := t6.toks) (fun b o hb e => (sb.2 b hb).trans e) f0 f1 f3 f4 f5, rfl, post⟩⟩
    · refine thnF (T.item (X.blk s3 H3 scope env4 fp) rfl rfl rfl calm i [] t5 _ G5 (fun _ _ => False) inv5 (hold inv5 emp5) at5 go) fun r t6 ⟨u, hr, k6⟩ => ?_
      subst hr
      refine thnF k6 fun _ t7 ⟨x, G7, inv7, rel7, y7, at7, emp7⟩ => ?_
      have pin7 := inv7.pinned (hold inv7 emp7) (T.obj _ _ at7)
      refine thnF (Pg.run _ t7 _ G7 x u _ pin7 rel7 (step x G7 y7)) fun _ t8 ⟨τ, G8, inv8, w8, q8⟩ => ?_
      refine thnF (Pt.run _ t8 τ G8 _ inv8 q8) fun b t9 ⟨G9, inv9, q9⟩ => ?_
      have again : ∀ {t : Shared} {G : Hp}, Inv (X.blk s3 H3 scope env4 fp) ([] ++ pinsAt fp t7.heap) τ G t → N' G → ∃ m, m < n ∧ ∃ i G, Inv (X.blk s3 H3 scope env4 fp) [] (wipe σ (own.map (·.2))) G t ∧ tn i t.heap ∧ (∀ b ∈ fp, G b = none) ∧ V' i m G := fun {t G} I nx => by
        obtain ⟨m', lt, v'⟩ := hN G nx
        have pin : ∀ b ∈ fp, ∀ o, t7.heap.get? b = some o → t.heap.get? b = some o ∧ G b = none := fun b hb o e => by
          obtain ⟨z1, z2, _⟩ := I.pin (b, o) (List.mem_append_right _ (List.mem_append_right _ (mem_pinsAt hb e)))
          exact ⟨z1, z2⟩
        refine ⟨m', lt, i + 1, G, (I.unpinned (pins := [])).weak (by rw [← w8, wipe_length]) (fun j v e => ?_), T.keep _ _ _ at7 fun b hb o e => (pin b hb o e).1, fun b hb => ?_, v'⟩
        · rw [← w8] at e
          exact (wipe_some e).1
        · obtain ⟨o, e, _⟩ := T.obj _ _ at7 b hb
          exact (pin b hb o e).2
      cases b with
      | false => exact again inv9 (by simpa using q9)
      | true =>
        simp only [if_true] at q9 ⊢
        refine thnF (Pe.run _ t9 τ G9 _ inv9 q9) fun z t10 ⟨yv, G10, inv10, rel10, c, c', hput, hD10, nx⟩ => ?_
        exact F.add (Y := X.blk s3 H3 scope env4 fp) rfl rfl inv10 hD10 hput rel10 fun t11 inv11 => again inv11 nx
  exact PpSet.codeAny_compStart_set all (T.self X.A 0 _ _ _ at4 all)
end
/-! ### ints -/
/-! ### the mirror -/
end DK
end
section
set_option Elab.async false
set_option linter.all false
set_option autoImplicit false
set_option maxRecDepth 100000
set_option maxHeartbeats 4000000
/-! DKIsB: `is True`, `is False` of truth values. -/
namespace DK
open PySem L2
end DK
end
section
set_option Elab.async false
set_option linter.all false
set_option autoImplicit false
set_option maxRecDepth 100000
set_option maxHeartbeats 4000000
/-! DKOrdD: < > <= >= of data that are alike (tuples), in and not in with data, by mirrors. -/
namespace DK
open PySem PySem.Spec PyProof.Rows L2 PySem.W
end DK
end
section
set_option Elab.async false
set_option linter.all false
set_option autoImplicit false
set_option maxRecDepth 100000
set_option maxHeartbeats 4000000
/-! DKForD: `for x in d`, d a dict of the store, which is locked meanwhile, by mirrors. -/
namespace DK
open PySem PySem.Spec PyProof.Rows L2 PySem.W
end DK
end
section
set_option Elab.async false
set_option linter.all false
set_option autoImplicit false
set_option maxRecDepth 100000
set_option maxHeartbeats 4000000
/-! DKEqV: == of lists and dicts that are equal, whatever stands within. -/
namespace DK
open PySem L2
end DK
end
section
set_option Elab.async false
set_option linter.all false
set_option autoImplicit false
set_option maxRecDepth 100000
set_option maxHeartbeats 4000000
/-! DKPopD: d.pop(k) of a dict, by mirrors. -/
namespace DK
open PySem L2
end DK
end
section
set_option Elab.async false
set_option linter.all false
set_option autoImplicit false
set_option maxRecDepth 100000
set_option maxHeartbeats 4000000
/-! DKSetT: len({.. for ..}) over texts, by a mirror. -/
namespace DK
open PySem L2 PyProof.Rows
/-! ### texts -/
def addT (us : List Str) (k : Str) : List Str := if k ∈ us then us else us ++ [k]
/-- each once -/
def distT (ns : List Str) : List Str := ns.foldl addT []
theorem addT_mem {us : List Str} {k j : Str} : j ∈ addT us k ↔ j ∈ us ∨ j = k := by
  unfold addT
  by_cases c : k ∈ us
  · rw [if_pos c]
    exact ⟨.inl, fun h => h.elim id fun e => e ▸ c⟩
  · rw [if_neg c, List.mem_append, List.mem_singleton]
theorem foldT_mem {j : Str} : ∀ {ns us : List Str}, j ∈ ns.foldl addT us ↔ j ∈ us ∨ j ∈ ns
  | [], us => by simp
  | n :: ns, us => by
    rw [List.foldl_cons, foldT_mem (ns := ns), addT_mem, List.mem_cons, or_assoc]
theorem foldT_len : ∀ {ns us : List Str}, (ns.foldl addT us).length ≤ us.length + ns.length
  | [], us => by simp
  | n :: ns, us => by
    have := foldT_len (ns := ns) (us := addT us n)
    have h : (addT us n).length ≤ us.length + 1 := by
      unfold addT
      split
      · omega
      · rw [List.length_append, List.length_singleton]
        exact Nat.le_refl _
    rw [List.foldl_cons, List.length_cons]
    omega
theorem distT_mem {ns : List Str} {j : Str} : j ∈ distT ns ↔ j ∈ ns := by
  unfold distT
  rw [foldT_mem]
  simp
theorem distT_len (ns : List Str) : (distT ns).length ≤ ns.length := by
  have := foldT_len (ns := ns) (us := [])
  rw [List.length_nil, Nat.zero_add] at this
  exact this
theorem distT_snoc (ns : List Str) (k : Str) : distT (ns ++ [k]) = addT (distT ns) k := by
  unfold distT
  rw [List.foldl_append]
  rfl
section
variable {prog : Program} {w : World}
def keyS (us : List Str) : Key → Bool
  | .inr s => decide (s ∈ us)
  | .inl _ => false
def putS (y : V) (us us' : List Str) : Prop := ∃ k, y = .str k ∧ us.length < 4000 ∧ us' = addT us k
def famS (prog : Program) (w : World) : SetFam prog w (List Str) where
  ob D us := SetK prog w D (keyS us) us.length
  nil := []
  put := putS
  new G h := by
    have e : keyS [] = fun _ => false := by
      funext j
      cases j with
      | inl i => rfl
      | inr s => simp [keyS]
    show ObjOk prog w G _ _ (SetK prog w _ (keyS []) 0)
    rw [e]
    exact setK_new ⟨_, #[], 0, _, Heap.get?_push_size _ rfl, ⟨rfl, rfl, rfl⟩, rfl, (fun e he => by simp at he), (fun k => by simp), (by decide), (by rfl), rfl⟩
  add := by
    intro Y hp hw pn τ G t E D us us' y u Q I hD hput hrel h
    subst hp
    subst hw
    obtain ⟨k, rfl, hl, rfl⟩ := hput
    have R := setK_get I hD
    have sc : u.scannable = true := key_scan (k := .inr k) hrel
    refine call_set_add (kV_is (k := .inr k) hrel) sc R (by unfold scanBound; omega) fun h' sb new => ?_
    have he : ∃ u, h'.get? D = some u := by
      obtain ⟨o, _, _, _, ho, _⟩ := id new
      exact ⟨o, ho⟩
    have e1 : (fun j => keyS us j || decide (j = Sum.inr k)) = keyS (addT us k) := by
      funext j
      cases j with
      | inl i => simp [keyS]
      | inr s =>
        show (decide (s ∈ us) || decide ((Sum.inr s : Key) = Sum.inr k)) = decide (s ∈ addT us k)
        rw [← Bool.decide_or]
        refine decide_eq_decide.mpr ?_
        rw [addT_mem]
        exact or_congr Iff.rfl ⟨fun h => Sum.inr.inj h, fun h => congrArg _ h⟩
    have e2 : (if keyS us (Sum.inr k) = true then us.length else us.length + 1) = (addT us k).length := by
      unfold keyS addT
      by_cases c : k ∈ us
      · rw [if_pos (decide_eq_true c), if_pos c]
      · rw [if_neg (fun z => c (of_decide_eq_true z)), if_neg c, List.length_append]
        rfl
    rw [e1, e2] at new
    exact h _ (I.write (e := D) (t' := t.toks + 1) (by rw [hD]; trivial) (.inl rfl) (fun b u hb hu => (sb.2 b hb).trans hu) he (setK_new new))
def rLenSetK (prog : Program) (w : World) : List V → Hp → VK → Prop := fun vs H Q => ∃ (a : Addr) (S : Key → Bool) (n : Nat), vs = [V.ref a] ∧ H a = some (SetK prog w a S n) ∧ Q (.int n) H
theorem cr_lenSetK {X : Cx} : CallR X (.builtin "len") (rLenSetK X.prog X.w) := by
  intro pins s σ H vs us Q I r h
  obtain ⟨a, S, n, rfl, ha, q⟩ := h
  obtain ⟨o, es, ep, t, ho, hex, hd, _, _, hb, hf, hn⟩ := setK_get I ha
  rw [Vals.ref1 r]
  have hfit : (es.size : Int) < 2 ^ 63 := by
    unfold scanBound at hb
    omega
  refine call_len_set ho hex hd hf hfit ?_
  subst hn
  exact ⟨.int _, H, (I.tok _).tok _, ⟨_, rfl⟩, q⟩
end
/-! ### the mirror -/
def stTurn (vs : List Nat) (b : BM) (tt : TM) (el : EM) (L : Loc) (d : D) (O : Store) (acc : List D) : Option (Store × List D) := match b d (wipeL L vs) O with
  | some p => match tt p.1 p.2 with
    | .ok true O2 => match el p.1 O2 with
      | .ok (.str k) O3 => if acc.length < 4000 then some (O3, acc ++ [.str k]) else none
      | _ => none
    | .ok false O2 => some (O2, acc)
    | _ => none
  | none => none
def stEnd : Option (Store × List D) → Res D
  | some p => match strsD p.2 with
    | some ns => .ok (.int (distT ns).length) p.1
    | none => .bad
  | none => .bad
/-- len({el for target in src if ..}), of texts -/
def mLenSet (src : EM) (vs : List Nat) (b : BM) (tt : TM) (el : EM) : EM := fun L O => (src L O).bind fun d O1 => match lsqOf O1 d with
  | some xs => stEnd (lcG (fun i O => (lsqOf O d).map (·[i]?)) (stTurn vs b tt el L) xs.length 0 O1 [])
  | none => .bad
theorem strsD_ns : ∀ ns : List Str, strsD (ns.map D.str) = some ns
  | [] => rfl
  | n :: ns => by
    show (strsD (ns.map D.str)).map (n :: ·) = _
    rw [strsD_ns]
    rfl
section
variable {X : Cx} {ad : Str → Addr} {J : JP} {W : WX} {m : EM} {bm : BM} {tm : TM} {me : EM} {elt tg iter : Expr} {ifs : List Expr} {scope : Scope} {own : List (Str × Nat)} {pos : Pos}
theorem st_post {It' : It} {nx : Nat → Store → Option (Option D)} {vs : List Nat} {S1 : Hp} {r1 : Rg} {L : Loc} {σ : L2.St} {Q : VK} {k : Nat} {O1 : Store} {H1 : Hp}
    (hgo : ∀ (i : Nat) (S : Hp) (r : Rg) (O : Store) (H : Hp) (d : D), Same S1 S → r1.l <+: r.l → Rs X.K ad S r O H → nx i O = some (some d) → It'.go i H ∧ ∀ x H', It'.yld i H x H' → H' = H ∧ Rp X.K S r d x)
    (hst : ∀ (i : Nat) (S : Hp) (r : Rg) (O : Store) (H : Hp), Same S1 S → r1.l <+: r.l → Rs X.K ad S r O H → nx i O = some none → It'.stop i H)
    (rl : Rl X.K S1 r1 L σ) (rs : Rs X.K ad S1 r1 O1 H1) (z : Post X.K ad (fun S r => Rp X.K S r) W σ S1 r1 Q (stEnd (lcG nx (stTurn vs bm tm me L) k 0 O1 []))) :
    ∀ Dn, H1 Dn = none → ∃ V' : Nat → Nat → Hp → Prop, (∃ m, V' 0 m (upd H1 Dn (SetK X.prog X.w Dn (keyS []) 0))) ∧ ∀ i m H, V' i m H →
      (It'.stop i H ∧ rLenSetK X.prog X.w [.ref Dn] H Q) ∨ (It'.go i H ∧ ∃ N' : Hp → Prop, (∀ H', N' H' → ∃ m', m' < m ∧ V' (i + 1) m' H') ∧ ∀ x H', It'.yld i H x H' → tGx X.K ad vs bm x (wipe σ vs) H' fun σ2 H2 => wipe σ2 vs = wipe σ vs ∧ tTx X.K ad vs tm σ2 H2 fun b H3 =>
        if b = true then tEx X.K ad vs me σ2 H3 fun y H4 => ∃ c c', putS y c c' ∧ H4 Dn = some (SetK X.prog X.w Dn (keyS c) c.length) ∧ N' (upd H4 Dn (SetK X.prog X.w Dn (keyS c') c'.length)) else N' H3) := by
  intro Dn hDn
  have hfr : r1.fr Dn = none := rs.fr.free hDn
  have ww : wipe (wipe σ vs) vs = wipe σ vs := by
    have key : ∀ (us : List Nat) (τ : L2.St), (∀ u ∈ us, ∀ w, τ[u]? = some w → w = none) → wipe τ us = τ := fun us => by
      induction us with
      | nil => intro τ _; rfl
      | cons u us ih =>
        intro τ h
        unfold wipe
        rw [ih τ fun u' hu' => h u' (List.mem_cons_of_mem _ hu')]
        refine List.ext_getElem? fun n => ?_
        by_cases hn : u = n
        · subst hn
          by_cases hl : u < τ.length
          · rw [List.getElem?_set_self hl]
            have := h u List.mem_cons_self τ[u] (List.getElem?_eq_getElem hl)
            rw [List.getElem?_eq_getElem hl, this]
          · rw [List.getElem?_eq_none (by rw [List.length_set]; omega), List.getElem?_eq_none (by omega)]
        · rw [List.getElem?_set_ne hn]
    refine key vs _ fun u hu w hw => ?_
    cases w with
    | none => rfl
    | some w => exact absurd hu (wipe_some hw).2
  let so : List Str → HO := fun ns => SetK X.prog X.w Dn (keyS (distT ns)) (distT ns).length
  refine ⟨fun i m H => ∃ (S : Hp) (r : Rg) (O : Store) (ns : List Str), Same S1 S ∧ r1.l <+: r.l ∧ r.fr = r1.fr ∧ Rs X.K ad S (r.at (upd r1.fr Dn (so ns))) O H ∧ Post X.K ad (fun S r => Rp X.K S r) W σ S1 r1 Q (stEnd (lcG nx (stTurn vs bm tm me L) m i O (ns.map D.str))),
    ⟨k, S1, r1, O1, [], Same.refl _, List.prefix_rfl, rfl, rs.hold hDn, z⟩, ?_⟩
  rintro i m H ⟨S, r, O, ns, es, el, ef, rs, z⟩
  have fin : nx i O = some none → Post X.K ad (fun S r => Rp X.K S r) W σ S1 r1 Q (stEnd (some (O, ns.map .str))) → It'.stop i H ∧ rLenSetK X.prog X.w [.ref Dn] H Q := fun hn z => by
    refine ⟨hst i S (r.at (upd r1.fr Dn (so ns))) O H es el rs hn, ?_⟩
    have rs' : Rs X.K ad S (r.at (upd r.fr Dn (so ns))) O H := by rw [ef]; exact rs
    obtain ⟨q1, q2, q3, q4⟩ := rs'.unhold (by rw [ef]; exact hfr)
    have e0 : Ext S1 r1 S r := ⟨es, ef, el⟩
    replace z : Post X.K ad (fun S r => Rp X.K S r) W σ S1 r1 Q (match strsD (ns.map D.str) with
      | some ns => .ok (.int (distT ns).length) O
      | none => .bad) := z
    rw [strsD_ns] at z
    replace z : Post X.K ad (fun S r => Rp X.K S r) W σ S1 r1 Q (.ok (.int (distT ns).length) O) := z
    exact ⟨Dn, keyS (distT ns), (distT ns).length, rfl, q2, z S _ H _ e0 q1 rfl⟩
  have next : ∀ m', m = m' + 1 → ∀ d, nx i O = some (some d) → Post X.K ad (fun S r => Rp X.K S r) W σ S1 r1 Q (stEnd (match stTurn vs bm tm me L d O (ns.map D.str) with | some p => lcG nx (stTurn vs bm tm me L) m' (i + 1) p.1 p.2 | none => none)) →
      (It'.go i H ∧ ∃ N' : Hp → Prop, (∀ H', N' H' → ∃ m'', m'' < m ∧ (∃ (S : Hp) (r : Rg) (O : Store) (ns : List Str), Same S1 S ∧ r1.l <+: r.l ∧ r.fr = r1.fr ∧ Rs X.K ad S (r.at (upd r1.fr Dn (so ns))) O H' ∧ Post X.K ad (fun S r => Rp X.K S r) W σ S1 r1 Q (stEnd (lcG nx (stTurn vs bm tm me L) m'' (i + 1) O (ns.map D.str))))) ∧
        ∀ x H', It'.yld i H x H' → tGx X.K ad vs bm x (wipe σ vs) H' fun σ2 H2 => wipe σ2 vs = wipe σ vs ∧ tTx X.K ad vs tm σ2 H2 fun b H3 =>
          if b = true then tEx X.K ad vs me σ2 H3 fun y H4 => ∃ c c', putS y c c' ∧ H4 Dn = some (SetK X.prog X.w Dn (keyS c) c.length) ∧ N' (upd H4 Dn (SetK X.prog X.w Dn (keyS c') c'.length)) else N' H3) := by
    intro m' hm' d hd z
    obtain ⟨g1, g2⟩ := hgo i S (r.at (upd r1.fr Dn (so ns))) O H d es el rs hd
    refine ⟨g1, _, fun H' hN => ⟨m', by omega, hN⟩, fun x H' hy => ?_⟩
    obtain ⟨rfl, px⟩ := g2 x H' hy
    let rr := r.at (upd r1.fr Dn (so ns))
    have rlw : Rl X.K S rr (wipeL L vs) (wipe σ vs) := ⟨(wipe_rl rl vs).len, fun n d hn => by
      obtain ⟨v, q1, q2⟩ := (wipe_rl rl vs).at_ n d hn
      exact ⟨v, q1, Rp.monoW (r' := rr) es el d v q2⟩⟩
    refine ⟨Jw vs (wipe σ vs), wipe_cl, S, rr, wipeL L vs, O, d, ww, rlw, rs, px, ?_⟩
    unfold stTurn at z
    generalize bm d (wipeL L vs) O = w at z
    cases w with
    | none => exact z.elim
    | some w =>
      intro S2 r2 σ2 H2 e2 j2 l2 s2
      refine ⟨j2, Jw vs (wipe σ vs), wipe_cl, S2, r2, w.1, w.2, j2, l2, s2, ?_⟩
      replace z : Post X.K ad (fun S r => Rp X.K S r) W σ S1 r1 Q (stEnd (match (match tm w.1 w.2 with
        | .ok true O2 => match me w.1 O2 with
          | .ok (.str k) O3 => if (ns.map D.str).length < 4000 then some (O3, ns.map D.str ++ [D.str k]) else none
          | _ => none
        | .ok false O2 => some (O2, ns.map D.str)
        | _ => none) with | some p => lcG nx (stTurn vs bm tm me L) m' (i + 1) p.1 p.2 | none => none)) := z
      generalize tm w.1 w.2 = t at z
      cases t with
      | exc x O3 => exact z.elim
      | bad => exact z.elim
      | ok k O3 =>
        intro S3 r3 H3 k' e3 s3 ek
        obtain rfl : k' = k := ek
        cases k' with
        | false =>
          rw [if_neg Bool.false_ne_true]
          have e23 := e2.trans e3
          have hr3 : r3 = (r3.at r1.fr).at (upd r1.fr Dn (so ns)) := by
            obtain ⟨l3, f3⟩ := r3
            have : f3 = upd r1.fr Dn (so ns) := e23.f
            subst this
            rfl
          rw [hr3] at s3
          exact ⟨S3, r3.at r1.fr, O3, ns, es.trans e23.s, List.IsPrefix.trans el e23.r, rfl, s3, z⟩
        | true =>
          rw [if_pos rfl]
          refine ⟨Jw vs (wipe σ vs), wipe_cl, S3, r3, w.1, O3, j2, l2.mono e3, s3, ?_⟩
          replace z : Post X.K ad (fun S r => Rp X.K S r) W σ S1 r1 Q (stEnd (match (match me w.1 O3 with
            | .ok (.str k) O3 => if (ns.map D.str).length < 4000 then some (O3, ns.map D.str ++ [D.str k]) else none
            | _ => none) with | some p => lcG nx (stTurn vs bm tm me L) m' (i + 1) p.1 p.2 | none => none)) := z
          generalize me w.1 O3 = t at z
          cases t with
          | exc x O3 => exact z.elim
          | bad => exact z.elim
          | ok y O4 =>
            intro S4 r4 H4 v e4 s4 pv
            have e24 := (e2.trans e3).trans e4
            have hr4 : r4 = (r4.at r1.fr).at (upd r1.fr Dn (so ns)) := by
              obtain ⟨l4, f4⟩ := r4
              have : f4 = upd r1.fr Dn (so ns) := e24.f
              subst this
              rfl
            rw [hr4] at s4
            cases y with
            | str k =>
              replace z : Post X.K ad (fun S r => Rp X.K S r) W σ S1 r1 Q (stEnd (match (if (ns.map D.str).length < 4000 then some (O4, ns.map D.str ++ [D.str k]) else none) with | some p => lcG nx (stTurn vs bm tm me L) m' (i + 1) p.1 p.2 | none => none)) := z
              rw [List.length_map] at z
              by_cases hlen : ns.length < 4000
              · rw [if_pos hlen] at z
                have hv : v = .str k := pv
                have hd := distT_len ns
                refine ⟨distT ns, distT (ns ++ [k]), ⟨k, hv, by omega, distT_snoc ns k⟩, s4.fr Dn _ upd_same, S4, r4.at r1.fr, O4, ns ++ [k], es.trans e24.s, List.IsPrefix.trans el e24.r, rfl, s4.rehold, ?_⟩
                rw [List.map_append]
                exact z
              · rw [if_neg hlen] at z
                exact z.elim
            | hdl n => exact z.elim
            | lst n => exact z.elim
            | rol n => exact z.elim
            | tup n => exact z.elim
            | non => exact z.elim
            | bl b => exact z.elim
            | int b => exact z.elim
  cases hn : nx i O with
  | none =>
    have e : lcG nx (stTurn vs bm tm me L) m i O (ns.map D.str) = none := by
      cases m with
      | zero => unfold lcG; rw [hn]
      | succ m => unfold lcG; rw [hn]
    rw [e] at z
    exact z.elim
  | some o =>
    cases o with
    | none =>
      have e : lcG nx (stTurn vs bm tm me L) m i O (ns.map D.str) = some (O, ns.map .str) := by
        cases m with
        | zero => unfold lcG; rw [hn]
        | succ m => unfold lcG; rw [hn]
      rw [e] at z
      exact .inl (fin hn z)
    | some d =>
      cases m with
      | zero =>
        have e : lcG nx (stTurn vs bm tm me L) 0 i O (ns.map D.str) = none := by unfold lcG; rw [hn]
        rw [e] at z
        exact z.elim
      | succ m =>
        have e : lcG nx (stTurn vs bm tm me L) (m + 1) i O (ns.map D.str) = (match stTurn vs bm tm me L d O (ns.map D.str) with | some p => lcG nx (stTurn vs bm tm me L) m (i + 1) p.1 p.2 | none => none) := by
          show (match nx i O with | some none => some (O, ns.map D.str) | some (some d) => (match stTurn vs bm tm me L d O (ns.map D.str) with | some p => lcG nx (stTurn vs bm tm me L) m (i + 1) p.1 p.2 | none => none) | none => none) = _
          rw [hn]
        rw [e] at z
        exact .inr (next m rfl d hn z)
theorem st_imp : ∀ σ H Q, (tE X.K ad J W (mLenSet m (own.map (·.2)) bm tm me)) σ H Q → tCB (rLenSetK X.prog X.w) (tCons (tScF (famS X.prog X.w).ob (famS X.prog X.w).nil (famS X.prog X.w).put (iList X.K (tE X.K ad J W m)) (tGx X.K ad (own.map (·.2)) bm) (tTx X.K ad (own.map (·.2)) tm) (tEx X.K ad (own.map (·.2)) me) (own.map (·.2))) tNil) σ H Q := by
  rintro σ H Q ⟨S, r, L, O, j, rl, rs, z⟩
  refine ⟨S, r, L, O, j, rl, rs, (Post.bind z).imp ?_⟩
  rintro x H1 ⟨S1, r1, d, O1, e1, s1, p1, q1⟩
  replace q1 : Post X.K ad (fun S r => Rp X.K S r) W σ S1 r1 Q (match lsqOf O1 d with
    | some xs => stEnd (lcG (fun i O => (lsqOf O d).map (·[i]?)) (stTurn (own.map (·.2)) bm tm me L) xs.length 0 O1 [])
    | none => .bad) := q1
  split at q1
  · rename_i xs hx
    obtain ⟨a, vs, rfl, h1, h2⟩ := lsqOf_ok s1 p1 hx
    refine ⟨a, rfl, ⟨vs, h1⟩, st_post (fun i S r O H d' es el rs hn => ?_) (fun i S r O H es el rs hn => ?_) (rl.mono e1) s1 q1⟩
    · obtain ⟨ys, hy, e⟩ := Option.map_eq_some_iff.mp (show (lsqOf O d).map (·[i]?) = some (some d') from hn)
      obtain ⟨a', us, ea, g1, g2⟩ := lsqOf_ok rs (Rp.monoW es el d _ p1) hy
      cases ea
      obtain ⟨v, hv, pv⟩ := g2.get e
      exact ⟨⟨us, v, g1, hv⟩, fun x H' hyy => ⟨hyy.1, by rw [Option.some.inj ((hyy.2 us g1).symm.trans hv)]; exact pv⟩⟩
    · obtain ⟨ys, hy, e⟩ := Option.map_eq_some_iff.mp (show (lsqOf O d).map (·[i]?) = some none from hn)
      obtain ⟨a', us, ea, g1, g2⟩ := lsqOf_ok rs (Rp.monoW es el d _ p1) hy
      cases ea
      exact ⟨us, g1, by rw [g2.length]; exact List.getElem?_eq_none_iff.mp e⟩
  · exact q1.elim
theorem de_lenSet {x : Str} {p pos' : Pos} (hc : X.calm = true) (hN : X.N.Nodup) (hx : Gl X x) (hmg : X.mg x = none) (hv : bootBuiltins x = some (.builtin "len")) (hi : PE X iter (tE X.K ad J W m)) (ok : BlkOk X.N X.env.scope scope own)
    (hg : ∀ (s : Shared) (H : Hp) (C : Addr) (cl : List (Str × Addr)) (fp : List Addr) (J' : JP), Cl (own.map (·.2)) J' → PG (X.blk s H scope (PySem.compEnvC scope cl C X.env) fp) tg (tG X.K ad J' bm))
    (ht : ∀ (s : Shared) (H : Hp) (C : Addr) (cl : List (Str × Addr)) (fp : List Addr) (J' : JP), Cl (own.map (·.2)) J' → PTs (X.blk s H scope (PySem.compEnvC scope cl C X.env) fp) ifs (tT X.K ad J' WF tm))
    (he : ∀ (s : Shared) (H : Hp) (C : Addr) (cl : List (Str × Addr)) (fp : List Addr) (J' : JP), Cl (own.map (·.2)) J' → PE (X.blk s H scope (PySem.compEnvC scope cl C X.env) fp) elt (tE X.K ad J' WF me)) (hs : ∀ x, foldedSetIterable iter X.env x = pure x := by intro _; rfl)
    (hn : x ≠ "__name__" := by decide) (hdb : (x == ("__debug__" : Str)) = false := by decide) (hst : starEach [.SetComp elt [⟨tg, iter, ifs, 0⟩] scope pos] X.env = (false, eval (.SetComp elt [⟨tg, iter, ifs, 0⟩] scope pos) X.env) :: starEach [] X.env := by rfl) (hpl : (backTo pos' (starEach [] X.env)).any (·.1) = false := by rfl) :
    PE X (.Call (.Name x p) [.SetComp elt [⟨tg, iter, ifs, 0⟩] scope pos] [] pos') (tE X.K ad J W (mLenSet m (own.map (·.2)) bm tm me)) :=
  pe_imp (pe_callB cr_lenSetK hx hmg hv (pa_cons (pe_scF (famS X.prog X.w) hc hN (pi_list hi) ok (g := tGx X.K ad (own.map (·.2)) bm) (tt := tTx X.K ad (own.map (·.2)) tm) (te := tEx X.K ad (own.map (·.2)) me) (fun s H C cl fp => gx_of (hg s H C cl fp)) (fun s H C cl fp => tx_of (ht s H C cl fp)) (fun s H C cl fp => ex_of (he s H C cl fp)) hs) pa_nil hst) hn hdb hst hpl) st_imp
end
end DK
end
section
set_option Elab.async false
set_option linter.all false
set_option autoImplicit false
set_option maxRecDepth 100000
set_option maxHeartbeats 4000000
/-! DKIsN: `is not True`, `is not False` of truth values. -/
namespace DK
open PySem L2
end DK
end
section
set_option Elab.async false
set_option linter.all false
set_option autoImplicit false
set_option maxRecDepth 100000
set_option maxHeartbeats 4000000
/-! DKMaxD: max of alike data, by a mirror. -/
namespace DK
open PySem PySem.Spec PyProof.Rows L2 PySem.W
end DK
end
section
set_option Elab.async false
set_option linter.all false
set_option autoImplicit false
set_option maxRecDepth 100000
set_option maxHeartbeats 4000000
/-! DKInR: `k in d` of a dict that may be locked, by a mirror. -/
namespace DK
open PySem L2
end DK
end
section
set_option Elab.async false
set_option linter.all false
set_option autoImplicit false
set_option maxRecDepth 100000
set_option maxHeartbeats 4000000
/-! DKNeV: != of two lists that are the same, their items lists or dicts or flat; != of such dicts: False. -/
namespace DK
open PySem L2
end DK
end
section
set_option Elab.async false
set_option linter.all false
set_option autoImplicit false
set_option maxRecDepth 100000
set_option maxHeartbeats 4000000
/-! DKDOne: {k: v}, a dict of one pair, by mirrors. -/
namespace DK
open PySem L2
end DK
end
section
set_option Elab.async false
set_option linter.all false
set_option autoImplicit false
set_option maxRecDepth 100000
set_option maxHeartbeats 4000000
/-! The walk of darkrise_k41_pieces_sectors_and_ties: printed by gen.py. -/
namespace DK.k41
open PySem L2 DK
def top (i : Nat) : Stmt := PySem.Challenge.pw_darkrise_k41_pieces_sectors_and_ties.main.body.getD i (.Pass ⟨0, 0, 0, 0⟩)
abbrev s_law_cell : Stmt := top 28
abbrev s_law_take : Stmt := top 29
abbrev s_law_plant : Stmt := top 31
abbrev s_law_line : Stmt := top 30
abbrev s_law_world : Stmt := top 32
abbrev s_land_init : Stmt := inC (top 21) 0
abbrev s_is_name : Stmt := top 15
abbrev s_checked_name : Stmt := top 16
abbrev s_land_kind : Stmt := inC (top 21) 4
abbrev s_land_free : Stmt := inC (top 21) 1
abbrev s_land_room : Stmt := inC (top 21) 3
abbrev s_land_add_station : Stmt := inC (top 21) 5
abbrev s_land_there : Stmt := inC (top 21) 2
abbrev s_is_number : Stmt := top 17
abbrev s_checked_number : Stmt := top 18
abbrev s_land_add_line : Stmt := inC (top 21) 6
abbrev s_land_add_self : Stmt := inC (top 21) 7
abbrev s_land_add_plant : Stmt := inC (top 21) 8
abbrev s_law_build : Stmt := top 33
abbrev s_land_plants : Stmt := inC (top 21) 11
abbrev s_land_lines : Stmt := inC (top 21) 10
abbrev s_land_rows : Stmt := inC (top 21) 23
abbrev s_land_stations : Stmt := inC (top 21) 9
abbrev s_land_line : Stmt := inC (top 21) 13
abbrev s_moment_mark : Stmt := inC (top 10) 1
abbrev s_moment_init : Stmt := inC (top 10) 0
abbrev s_moment_known : Stmt := inC (top 10) 2
abbrev s_moment_island : Stmt := inC (top 10) 7
abbrev s_moment_islands : Stmt := inC (top 10) 8
abbrev s_pieces : Stmt := top 23
abbrev s_law_pieces : Stmt := top 34
abbrev s_checked : Stmt := top 24
abbrev s_ties : Stmt := top 26
abbrev s_sector : Stmt := top 25
abbrev s_law_raised : Stmt := top 35
abbrev s_law : Stmt := top 36
def d_law_cell : He.DefD := ⟨("_law_cell", none), "_law_cell", "_law_cell", defArgs s_law_cell, defBody s_law_cell, defScope s_law_cell, [], []⟩
theorem sc_law_cell : FnScope ["script", "k"] ["script", "k"] (defScope s_law_cell) := ⟨rfl, rfl, rfl, by decide +kernel, rfl, by decide +kernel, by decide +kernel⟩
def d_law_take : He.DefD := ⟨("_law_take", none), "_law_take", "_law_take", defArgs s_law_take, defBody s_law_take, defScope s_law_take, [], []⟩
theorem sc_law_take : FnScope ["state", "limit", "found", "cell"] ["state", "limit"] (defScope s_law_take) := ⟨rfl, rfl, rfl, by decide +kernel, rfl, by decide +kernel, by decide +kernel⟩
def d_law_plant : He.DefD := ⟨("_law_plant", none), "_law_plant", "_law_plant", defArgs s_law_plant, defBody s_law_plant, defScope s_law_plant, [], []⟩
theorem sc_law_plant : FnScope ["state", "name", "stations", "station", "gives", "minutes", "need", "quick", "hot", "cool"] ["state", "name", "stations"] (defScope s_law_plant) := ⟨rfl, rfl, rfl, by decide +kernel, rfl, by decide +kernel, by decide +kernel⟩
def d_law_line : He.DefD := ⟨("_law_line", none), "_law_line", "_law_line", defArgs s_law_line, defBody s_law_line, defScope s_law_line, [], []⟩
theorem sc_law_line : FnScope ["state", "name", "stations", "one", "other", "need"] ["state", "name", "stations"] (defScope s_law_line) := ⟨rfl, rfl, rfl, by decide +kernel, rfl, by decide +kernel, by decide +kernel⟩
def d_law_world : He.DefD := ⟨("_law_world", none), "_law_world", "_law_world", defArgs s_law_world, defBody s_law_world, defScope s_law_world, [], []⟩
theorem sc_law_world : FnScope ["state", "stations", "lines", "k", "plants"] ["state"] (defScope s_law_world) := ⟨rfl, rfl, rfl, by decide +kernel, rfl, by decide +kernel, by decide +kernel⟩
def d_land_init : He.DefD := ⟨("Land", some "__init__"), "__init__", "Land.__init__", defArgs s_land_init, defBody s_land_init, defScope s_land_init, [], []⟩
theorem sc_land_init : FnScope ["self"] ["self"] (defScope s_land_init) := ⟨rfl, rfl, rfl, by decide +kernel, rfl, by decide +kernel, by decide +kernel⟩
def d_is_name : He.DefD := ⟨("is_name", none), "is_name", "is_name", defArgs s_is_name, defBody s_is_name, defScope s_is_name, [], []⟩
theorem sc_is_name : FnScope ["word", "sign"] ["word"] (defScope s_is_name) := ⟨rfl, rfl, rfl, by decide +kernel, rfl, by decide +kernel, by decide +kernel⟩
def d_checked_name : He.DefD := ⟨("checked_name", none), "checked_name", "checked_name", defArgs s_checked_name, defBody s_checked_name, defScope s_checked_name, [], []⟩
theorem sc_checked_name : FnScope ["word"] ["word"] (defScope s_checked_name) := ⟨rfl, rfl, rfl, by decide +kernel, rfl, by decide +kernel, by decide +kernel⟩
def d_land_kind : He.DefD := ⟨("Land", some "kind"), "kind", "Land.kind", defArgs s_land_kind, defBody s_land_kind, defScope s_land_kind, [], []⟩
theorem sc_land_kind : FnScope ["self", "word"] ["self", "word"] (defScope s_land_kind) := ⟨rfl, rfl, rfl, by decide +kernel, rfl, by decide +kernel, by decide +kernel⟩
def d_land_free : He.DefD := ⟨("Land", some "_free"), "_free", "Land._free", defArgs s_land_free, defBody s_land_free, defScope s_land_free, [], []⟩
theorem sc_land_free : FnScope ["self", "word"] ["self", "word"] (defScope s_land_free) := ⟨rfl, rfl, rfl, by decide +kernel, rfl, by decide +kernel, by decide +kernel⟩
def d_land_room : He.DefD := ⟨("Land", some "_room"), "_room", "Land._room", defArgs s_land_room, defBody s_land_room, defScope s_land_room, [], []⟩
theorem sc_land_room : FnScope ["self", "rows"] ["self", "rows"] (defScope s_land_room) := ⟨rfl, rfl, rfl, by decide +kernel, rfl, by decide +kernel, by decide +kernel⟩
def d_land_add_station : He.DefD := ⟨("Land", some "add_station"), "add_station", "Land.add_station", defArgs s_land_add_station, defBody s_land_add_station, defScope s_land_add_station, [], []⟩
theorem sc_land_add_station : FnScope ["self", "word"] ["self", "word"] (defScope s_land_add_station) := ⟨rfl, rfl, rfl, by decide +kernel, rfl, by decide +kernel, by decide +kernel⟩
def d_land_there : He.DefD := ⟨("Land", some "_there"), "_there", "Land._there", defArgs s_land_there, defBody s_land_there, defScope s_land_there, [], []⟩
theorem sc_land_there : FnScope ["self", "word"] ["self", "word"] (defScope s_land_there) := ⟨rfl, rfl, rfl, by decide +kernel, rfl, by decide +kernel, by decide +kernel⟩
def d_is_number : He.DefD := ⟨("is_number", none), "is_number", "is_number", defArgs s_is_number, defBody s_is_number, defScope s_is_number, [.int 0, .int 1000000], []⟩
theorem sc_is_number : FnScope ["value", "least", "most"] ["value", "least", "most"] (defScope s_is_number) := ⟨rfl, rfl, rfl, by decide +kernel, rfl, by decide +kernel, by decide +kernel⟩
def d_checked_number : He.DefD := ⟨("checked_number", none), "checked_number", "checked_number", defArgs s_checked_number, defBody s_checked_number, defScope s_checked_number, [.int 0, .int 1000000], []⟩
theorem sc_checked_number : FnScope ["value", "least", "most"] ["value", "least", "most"] (defScope s_checked_number) := ⟨rfl, rfl, rfl, by decide +kernel, rfl, by decide +kernel, by decide +kernel⟩
def d_land_add_line : He.DefD := ⟨("Land", some "add_line"), "add_line", "Land.add_line", defArgs s_land_add_line, defBody s_land_add_line, defScope s_land_add_line, [], []⟩
theorem sc_land_add_line : FnScope ["self", "word", "one", "other", "need", "minutes"] ["self", "word", "one", "other", "need", "minutes"] (defScope s_land_add_line) := ⟨rfl, rfl, rfl, by decide +kernel, rfl, by decide +kernel, by decide +kernel⟩
def d_land_add_self : He.DefD := ⟨("Land", some "add_self"), "add_self", "Land.add_self", defArgs s_land_add_self, defBody s_land_add_self, defScope s_land_add_self, [], []⟩
theorem sc_land_add_self : FnScope ["self", "word", "station", "gives", "minutes"] ["self", "word", "station", "gives", "minutes"] (defScope s_land_add_self) := ⟨rfl, rfl, rfl, by decide +kernel, rfl, by decide +kernel, by decide +kernel⟩
def d_land_add_plant : He.DefD := ⟨("Land", some "add_plant"), "add_plant", "Land.add_plant", defArgs s_land_add_plant, defBody s_land_add_plant, defScope s_land_add_plant, [], []⟩
theorem sc_land_add_plant : FnScope ["self", "word", "station", "need", "gives", "quick", "hot", "cool", "slow", "value"] ["self", "word", "station", "need", "gives", "quick", "hot", "cool", "slow"] (defScope s_land_add_plant) := ⟨rfl, rfl, rfl, by decide +kernel, rfl, by decide +kernel, by decide +kernel⟩
def d_law_build : He.DefD := ⟨("_law_build", none), "_law_build", "_law_build", defArgs s_law_build, defBody s_law_build, defScope s_law_build, [], []⟩
theorem sc_law_build : FnScope ["world", "land", "name", "one", "other", "need", "minutes", "station", "gives", "quick", "hot", "cool", "slow", "alone"] ["world"] (defScope s_law_build) := ⟨rfl, rfl, rfl, by decide +kernel, rfl, by decide +kernel, by decide +kernel⟩
def d_land_plants : He.DefD := ⟨("Land", some "plants"), "plants", "Land.plants", defArgs s_land_plants, defBody s_land_plants, defScope s_land_plants, [], []⟩
theorem sc_land_plants : FnScope ["self"] ["self"] (defScope s_land_plants) := ⟨rfl, rfl, rfl, by decide +kernel, rfl, by decide +kernel, by decide +kernel⟩
def d_land_lines : He.DefD := ⟨("Land", some "lines"), "lines", "Land.lines", defArgs s_land_lines, defBody s_land_lines, defScope s_land_lines, [], []⟩
theorem sc_land_lines : FnScope ["self"] ["self"] (defScope s_land_lines) := ⟨rfl, rfl, rfl, by decide +kernel, rfl, by decide +kernel, by decide +kernel⟩
def d_land_rows : He.DefD := ⟨("Land", some "rows"), "rows", "Land.rows", defArgs s_land_rows, defBody s_land_rows, defScope s_land_rows, [], []⟩
theorem sc_land_rows : FnScope ["self", "found", "word", "kind", "parts"] ["self"] (defScope s_land_rows) := ⟨rfl, rfl, rfl, by decide +kernel, rfl, by decide +kernel, by decide +kernel⟩
def d_land_stations : He.DefD := ⟨("Land", some "stations"), "stations", "Land.stations", defArgs s_land_stations, defBody s_land_stations, defScope s_land_stations, [], []⟩
theorem sc_land_stations : FnScope ["self"] ["self"] (defScope s_land_stations) := ⟨rfl, rfl, rfl, by decide +kernel, rfl, by decide +kernel, by decide +kernel⟩
def d_land_line : He.DefD := ⟨("Land", some "line"), "line", "Land.line", defArgs s_land_line, defBody s_land_line, defScope s_land_line, [], []⟩
theorem sc_land_line : FnScope ["self", "word"] ["self", "word"] (defScope s_land_line) := ⟨rfl, rfl, rfl, by decide +kernel, rfl, by decide +kernel, by decide +kernel⟩
def d_moment_mark : He.DefD := ⟨("Moment", some "_mark"), "_mark", "Moment._mark", defArgs s_moment_mark, defBody s_moment_mark, defScope s_moment_mark, [], []⟩
theorem sc_moment_mark : FnScope ["self", "near", "word", "one", "other", "need", "minutes", "first", "waiting"] ["self"] (defScope s_moment_mark) := ⟨rfl, rfl, rfl, by decide +kernel, rfl, by decide +kernel, by decide +kernel⟩
def d_moment_init : He.DefD := ⟨("Moment", some "__init__"), "__init__", "Moment.__init__", defArgs s_moment_init, defBody s_moment_init, defScope s_moment_init, [], []⟩
theorem sc_moment_init : FnScope ["self", "land", "lit", "closed", "running", "word"] ["self", "land", "lit", "closed", "running"] (defScope s_moment_init) := ⟨rfl, rfl, rfl, by decide +kernel, rfl, by decide +kernel, by decide +kernel⟩
def d_moment_known : He.DefD := ⟨("Moment", some "_known"), "_known", "Moment._known", defArgs s_moment_known, defBody s_moment_known, defScope s_moment_known, [], []⟩
theorem sc_moment_known : FnScope ["self", "station"] ["self", "station"] (defScope s_moment_known) := ⟨rfl, rfl, rfl, by decide +kernel, rfl, by decide +kernel, by decide +kernel⟩
def d_moment_island : He.DefD := ⟨("Moment", some "island"), "island", "Moment.island", defArgs s_moment_island, defBody s_moment_island, defScope s_moment_island, [], []⟩
theorem sc_moment_island : FnScope ["self", "station", "root", "word"] ["self", "station"] (defScope s_moment_island) := ⟨rfl, rfl, rfl, by decide +kernel, rfl, by decide +kernel, by decide +kernel⟩
def d_moment_islands : He.DefD := ⟨("Moment", some "islands"), "islands", "Moment.islands", defArgs s_moment_islands, defBody s_moment_islands, defScope s_moment_islands, [], []⟩
theorem sc_moment_islands : FnScope ["self", "word"] ["self"] (defScope s_moment_islands) := ⟨rfl, rfl, rfl, by decide +kernel, rfl, by decide +kernel, by decide +kernel⟩
def d_pieces : He.DefD := ⟨("pieces", none), "pieces", "pieces", defArgs s_pieces, defBody s_pieces, defScope s_pieces, [], []⟩
theorem sc_pieces : FnScope ["land", "moment"] ["land"] (defScope s_pieces) := ⟨rfl, rfl, rfl, by decide +kernel, rfl, by decide +kernel, by decide +kernel⟩
def d_law_pieces : He.DefD := ⟨("_law_pieces", none), "_law_pieces", "_law_pieces", defArgs s_law_pieces, defBody s_law_pieces, defScope s_law_pieces, [], []⟩
theorem sc_law_pieces : FnScope ["world", "mark", "name", "line", "old", "found", "row", "other"] ["world"] (defScope s_law_pieces) := ⟨rfl, rfl, rfl, by decide +kernel, rfl, by decide +kernel, by decide +kernel⟩
def d_checked : He.DefD := ⟨("_checked", none), "_checked", "_checked", defArgs s_checked, defBody s_checked, defScope s_checked, [], []⟩
theorem sc_checked : FnScope ["land", "stations", "word"] ["land", "stations"] (defScope s_checked) := ⟨rfl, rfl, rfl, by decide +kernel, rfl, by decide +kernel, by decide +kernel⟩
def d_ties : He.DefD := ⟨("ties", none), "ties", "ties", defArgs s_ties, defBody s_ties, defScope s_ties, [], []⟩
theorem sc_ties : FnScope ["land", "stations", "found", "word", "one", "other", "need", "minutes"] ["land", "stations"] (defScope s_ties) := ⟨rfl, rfl, rfl, by decide +kernel, rfl, by decide +kernel, by decide +kernel⟩
def d_sector : He.DefD := ⟨("sector", none), "sector", "sector", defArgs s_sector, defBody s_sector, defScope s_sector, [], []⟩
theorem sc_sector : FnScope ["land", "stations", "found", "kind", "word", "parts"] ["land", "stations"] (defScope s_sector) := ⟨rfl, rfl, rfl, by decide +kernel, rfl, by decide +kernel, by decide +kernel⟩
def d_law_raised : He.DefD := ⟨("_law_raised", none), "_law_raised", "_law_raised", defArgs s_law_raised, defBody s_law_raised, defScope s_law_raised, [], []⟩
theorem sc_law_raised : FnScope ["land", "names", "found", "k"] ["land", "names"] (defScope s_law_raised) := ⟨rfl, rfl, rfl, by decide +kernel, rfl, by decide +kernel, by decide +kernel⟩
def d_law : He.DefD := ⟨("law", none), "law", "law", defArgs s_law, defBody s_law, defScope s_law, [], []⟩
theorem sc_law : FnScope ["script", "draw", "world", "land", "kept", "told", "row", "k", "names", "less", "handed", "name", "line", "plant"] ["script"] (defScope s_law) := ⟨rfl, rfl, rfl, by decide +kernel, rfl, by decide +kernel, by decide +kernel⟩
def fn : List He.DefD := [d_law_cell, d_law_take, d_law_plant, d_law_line, d_law_world, d_land_init, d_is_name, d_checked_name, d_land_kind, d_land_free, d_land_room, d_land_add_station, d_land_there, d_is_number, d_checked_number, d_land_add_line, d_land_add_self, d_land_add_plant, d_law_build, d_land_plants, d_land_lines, d_land_rows, d_land_stations, d_land_line, d_moment_mark, d_moment_init, d_moment_known, d_moment_island, d_moment_islands, d_pieces, d_law_pieces, d_checked, d_ties, d_sector, d_law_raised, d_law]
def fa : List He.Fa := [.glo "law", .free "len", .free "int", .free "abs", .glo "_law_cell", .glo "_law_take", .free "max", .free "min", .glo "_law_line", .free "range", .glo "_law_plant", .cls "Land", .noat "Land" "_stations", .noat "Land" "_lines", .noat "Land" "_plants", .noat "Land" "_selves", .free "isinstance", .free "str", .int "LONGEST" 12, .str "LETTERS" "abcdefghijklmnopqrstuvwxyz", .glo "is_name", .exc "InvalidName", .glo "InvalidName", .glo "checked_name", .meth "Land" "kind", .exc "DuplicateName", .glo "DuplicateName", .int "MOST" 60, .exc "TooMany", .glo "TooMany", .meth "Land" "_free", .meth "Land" "_room", .free "sorted", .exc "UnknownName", .glo "UnknownName", .free "bool", .glo "is_number", .exc "InvalidNumber", .glo "InvalidNumber", .meth "Land" "_there", .exc "SameStation", .glo "SameStation", .glo "checked_number", .int "GREATEST" 1000000, .glo "Land", .mkr "Land", .meth "Land" "add_station", .meth "Land" "add_line", .meth "Land" "add_self", .meth "Land" "add_plant", .meth "Land" "lines", .meth "Land" "plants", .free "list", .cls "Moment", .noat "Moment" "_lit", .noat "Moment" "_land", .meth "Land" "line", .noat "Moment" "_closed", .noat "Moment" "_root", .meth "Land" "stations", .noat "Moment" "_names", .noat "Moment" "_running", .meth "Moment" "_mark", .meth "Moment" "_known", .meth "Moment" "island", .glo "Moment", .mkr "Moment", .meth "Moment" "islands", .glo "_checked", .meth "Land" "rows", .glo "sector", .glo "ties", .exm "InvalidName" "InvalidName" true, .exm "InvalidNumber" "InvalidName" false, .exm "DuplicateName" "InvalidName" false, .exm "UnknownName" "InvalidName" false, .exm "SameStation" "InvalidName" false, .exm "TooMany" "InvalidName" false, .exm "InvalidName" "UnknownName" false, .exm "InvalidNumber" "UnknownName" false, .exm "DuplicateName" "UnknownName" false, .exm "UnknownName" "UnknownName" true, .exm "SameStation" "UnknownName" false, .exm "TooMany" "UnknownName" false, .glo "_law_world", .glo "_law_build", .glo "pieces", .glo "_law_pieces", .free "reversed", .glo "_law_raised"]
def fx : List Fx := []
abbrev Kn (K : PySem.W.Frag) (mg : Str → Option Value) : Prop := Knows fa fn fx K mg
def b_law_cell : SM := (sSeq (sIf (mTest (mOp gLt (mVar 1) (mCall (g1 gLen) (mCons (mVar 0) mNil)))) (sRet (mCall (g1 gAbs) (mCons (mCall (g1 gInt) (mCons (mOp gIx (mVar 0) (mVar 1)) mNil)) mNil))) sNext)
    (sRet (mOp (gAdd false) (mOp gMul (mC (.int 37)) (mVar 1)) (mC (.int 11)))))
def f_law_cell : FM := runF 2 b_law_cell
theorem ok_law_cell {P : Program} {w : World} {K : PySem.W.Frag} {mg : Str → Option Value} {base : Heap} (kn : Kn K mg) : Has P w K mg base 1 d_law_cell ["script", "k"] f_law_cell := by
  refine has_def (k := 0) (N := ["script", "k"]) (d := d_law_cell) (kn.c.def_ 0 (d := d_law_cell) rfl) sc_law_cell fun f cdv A outer s H E hr => ?_
  delta b_law_cell
  exact (dss_cons (ds_if (dt_cmp od_lt (de_var (pv 1)) (de_callB cd_len rfl (kn.free 1) (by decide +kernel) (da_cons (de_var (pv 0)) da_nil)) (nomark _)) (dss_one (ds_ret (de_callB cd_abs rfl (kn.free 3) (by decide +kernel) (da_cons (de_callTy cd_int rfl (kn.free 2) (by decide +kernel) (da_cons (de_ix (de_var (pv 0)) (de_var (pv 1)) (fun _ _ => rfl)) da_nil)) da_nil)))) dss_nil)
    (dss_one (ds_ret (de_op (od_add false) (de_op od_mul de_int (de_var (pv 1))) de_int))))
def b_law_take : SM := (sSeq (sIf (mTest (mOp gGt (mOp gIx (mVar 0) (mC (.int 2))) (mC (.int 0)))) (sSeq (sAsg (mOp gMod (mCall (g1 gInt) (mCons (mOp gIx (mVar 0) (mC (.int 2))) mNil)) (mVar 1)) (bName 2))
    (sSeq (sAsg (mOp gFdiv (mCall (g1 gInt) (mCons (mOp gIx (mVar 0) (mC (.int 2))) mNil)) (mVar 1)) (bSubL (mVar 0) (mC (.int 2))))
    (sRet (mVar 2)))) sNext)
    (sSeq (sAsg (mFn (arity 2 f_law_cell) [] (mCons (mOp gIx (mVar 0) (mC (.int 0))) (mCons (mOp gIx (mVar 0) (mC (.int 1))) mNil))) (bName 3))
    (sSeq (sAsg (mOp (gAdd false) (mOp gIx (mVar 0) (mC (.int 1))) (mC (.int 1))) (bSubL (mVar 0) (mC (.int 1))))
    (sSeq (sIf (mTest (mOp gGe (mVar 3) (mOp gPow (mC (.int 10)) (mC (.int 9))))) (sAsg (mOp gFdiv (mCall (g1 gInt) (mCons (mVar 3) mNil)) (mVar 1)) (bSubL (mVar 0) (mC (.int 2)))) sNext)
    (sRet (mOp gMod (mCall (g1 gInt) (mCons (mVar 3) mNil)) (mVar 1)))))))
def f_law_take : FM := runF 4 b_law_take
theorem ok_law_take {P : Program} {w : World} {K : PySem.W.Frag} {mg : Str → Option Value} {base : Heap} (kn : Kn K mg) : Has P w K mg base 2 d_law_take ["state", "limit"] f_law_take := by
  obtain ⟨fd0, F0, O0⟩ := ok_law_cell (P := P) (w := w) (base := base) kn
  have B1 := FunD.bindsN (ps := ["script", "k"]) F0 (fun _ _ _ _ _ _ us hl => match us, hl with | [_, _], _ => rfl)
  refine has_def (k := 1) (N := ["state", "limit", "found", "cell"]) (d := d_law_take) (kn.c.def_ 1 (d := d_law_take) rfl) sc_law_take fun f cdv A outer s H E hr => ?_
  delta b_law_take
  exact (dss_cons (ds_if (dt_cmp od_gt (de_ix (de_var (pv 0)) de_int (fun _ _ => rfl)) de_int (nomark _)) (dss_cons (ds_set (i := 2) sc_law_take.nd rfl (by first | exact .inl rfl | exact .inr rfl) (de_op od_mod (de_callTy cd_int rfl (kn.free 2) (by decide +kernel) (da_cons (de_ix (de_var (pv 0)) de_int (fun _ _ => rfl)) da_nil)) (de_var (pv 1))))
    (dss_cons (ds_asg (de_op od_fdiv (de_callTy cd_int rfl (kn.free 2) (by decide +kernel) (da_cons (de_ix (de_var (pv 0)) de_int (fun _ _ => rfl)) da_nil)) (de_var (pv 1))) (dg_subL (W := WF) (de_var (pv 0)) de_int))
    (dss_one (ds_ret (de_var (pv 2)))))) dss_nil)
    (dss_cons (ds_set (i := 3) sc_law_take.nd rfl (by first | exact .inl rfl | exact .inr rfl) (de_call (dds := []) O0 (hr.mono (by omega)) rfl (kn.glo 4) F0.kp B1 .nil (fun _ _ => rfl) tk_of (da_cons (de_ix (de_var (pv 0)) de_int (fun _ _ => rfl)) (da_cons (de_ix (de_var (pv 0)) de_int (fun _ _ => rfl)) da_nil))))
    (dss_cons (ds_asg (de_op (od_add false) (de_ix (de_var (pv 0)) de_int (fun _ _ => rfl)) de_int) (dg_subL (W := WF) (de_var (pv 0)) de_int))
    (dss_cons (ds_if (dt_cmp od_ge (de_var (pv 3)) (de_op od_pow de_int de_int) (nomark _)) (dss_one (ds_asg (de_op od_fdiv (de_callTy cd_int rfl (kn.free 2) (by decide +kernel) (da_cons (de_var (pv 3)) da_nil)) (de_var (pv 1))) (dg_subL (W := WF) (de_var (pv 0)) de_int))) dss_nil)
    (dss_one (ds_ret (de_op od_mod (de_callTy cd_int rfl (kn.free 2) (by decide +kernel) (da_cons (de_var (pv 3)) da_nil)) (de_var (pv 1)))))))))
def b_law_plant : SM := (sSeq (sAsg (mOp gIx (mVar 2) (mFn (arity 2 f_law_take) [] (mCons (mVar 0) (mCons (mCall (g1 gLen) (mCons (mVar 2) mNil)) mNil)))) (bName 3))
    (sSeq (sAsg (mOp gIx (mLst false (mCons (mC (.int 0)) (mCons (mC (.int 3)) (mCons (mC (.int 5)) (mCons (mC (.int 9)) (mCons (mC (.int 12)) (mCons (mC (.int 20)) mNil))))))) (mFn (arity 2 f_law_take) [] (mCons (mVar 0) (mCons (mC (.int 6)) mNil)))) (bName 4))
    (sSeq (sIf (mOr (mTest (mOp gEq (mFn (arity 2 f_law_take) [] (mCons (mVar 0) (mCons (mC (.int 3)) mNil))) (mC (.int 0)))) (mTest (mOp gEq (mVar 1) (mC (.str "pa"))))) (sSeq (sAsg (mOp (gAdd false) (mC (.int 1)) (mFn (arity 2 f_law_take) [] (mCons (mVar 0) (mCons (mC (.int 9)) mNil)))) (bName 5))
    (sRet (mTup (mCons (mVar 1) (mCons (mVar 3) (mCons (mC (.int 0)) (mCons (mVar 4) (mCons (mVar 5) (mCons (mC (.int 1000000)) (mCons (mC (.int 1000000)) (mCons (mVar 5) (mCons (mC (.bl true)) mNil)))))))))))) sNext)
    (sSeq (sAsg (mOp gIx (mLst false (mCons (mC (.int 0)) (mCons (mC (.int 3)) (mCons (mC (.int 5)) (mCons (mC (.int 9)) (mCons (mC (.int 14)) (mCons (mC (.int 25)) mNil))))))) (mFn (arity 2 f_law_take) [] (mCons (mVar 0) (mCons (mC (.int 6)) mNil)))) (bName 6))
    (sSeq (sAsg (mOp (gAdd false) (mC (.int 1)) (mFn (arity 2 f_law_take) [] (mCons (mVar 0) (mCons (mC (.int 6)) mNil)))) (bName 7))
    (sSeq (sAsg (mOp gIx (mLst false (mCons (mC (.int 0)) (mCons (mC (.int 4)) (mCons (mC (.int 9)) (mCons (mC (.int 15)) (mCons (mC (.int 30)) (mCons (mC (.int 200)) mNil))))))) (mFn (arity 2 f_law_take) [] (mCons (mVar 0) (mCons (mC (.int 6)) mNil)))) (bName 8))
    (sSeq (sAsg (mOp (gAdd false) (mVar 8) (mOp gIx (mLst false (mCons (mC (.int 0)) (mCons (mC (.int 1)) (mCons (mC (.int 5)) (mCons (mC (.int 12)) (mCons (mC (.int 40)) mNil)))))) (mFn (arity 2 f_law_take) [] (mCons (mVar 0) (mCons (mC (.int 5)) mNil))))) (bName 9))
    (sRet (mTup (mCons (mVar 1) (mCons (mVar 3) (mCons (mVar 6) (mCons (mVar 4) (mCons (mVar 7) (mCons (mVar 8) (mCons (mVar 9) (mCons (mOp (gAdd false) (mVar 7) (mFn (arity 2 f_law_take) [] (mCons (mVar 0) (mCons (mC (.int 9)) mNil)))) (mCons (mC (.bl false)) mNil))))))))))))))))))
def f_law_plant : FM := runF 10 b_law_plant
theorem ok_law_plant {P : Program} {w : World} {K : PySem.W.Frag} {mg : Str → Option Value} {base : Heap} (kn : Kn K mg) : Has P w K mg base 3 d_law_plant ["state", "name", "stations"] f_law_plant := by
  obtain ⟨fd0, F0, O0⟩ := ok_law_take (P := P) (w := w) (base := base) kn
  have B1 := FunD.bindsN (ps := ["state", "limit"]) F0 (fun _ _ _ _ _ _ us hl => match us, hl with | [_, _], _ => rfl)
  refine has_def (k := 2) (N := ["state", "name", "stations", "station", "gives", "minutes", "need", "quick", "hot", "cool"]) (d := d_law_plant) (kn.c.def_ 2 (d := d_law_plant) rfl) sc_law_plant fun f cdv A outer s H E hr => ?_
  delta b_law_plant
  exact (dss_cons (ds_set (i := 3) sc_law_plant.nd rfl (by first | exact .inl rfl | exact .inr rfl) (de_ix (de_var (pv 2)) (de_call (dds := []) O0 (hr.mono (by omega)) rfl (kn.glo 5) F0.kp B1 .nil (fun _ _ => rfl) tk_of (da_cons (de_var (pv 0)) (da_cons (de_callB cd_len rfl (kn.free 1) (by decide +kernel) (da_cons (de_var (pv 2)) da_nil)) da_nil))) (fun _ _ => rfl)))
    (dss_cons (ds_set (i := 4) sc_law_plant.nd rfl (by first | exact .inl rfl | exact .inr rfl) (de_ix (de_lst (hm := false) (da_cons de_int (da_cons de_int (da_cons de_int (da_cons de_int (da_cons de_int (da_cons de_int da_nil))))))) (de_call (dds := []) O0 (hr.mono (by omega)) rfl (kn.glo 5) F0.kp B1 .nil (fun _ _ => rfl) tk_of (da_cons (de_var (pv 0)) (da_cons de_int da_nil))) (fun _ _ => rfl)))
    (dss_cons (ds_if (PW.pt (dw_or (dt_cmp (od_eq hr.units) (de_call (dds := []) O0 (hr.mono (by omega)) rfl (kn.glo 5) F0.kp B1 .nil (fun _ _ => rfl) tk_of (da_cons (de_var (pv 0)) (da_cons de_int da_nil))) de_int (nomark _)) (dw_or1 (dt_cmp (od_eq hr.units) (de_var (pv 1)) de_str (nomark _))))) (dss_cons (ds_set (i := 5) sc_law_plant.nd rfl (by first | exact .inl rfl | exact .inr rfl) (de_op (od_add false) de_int (de_call (dds := []) O0 (hr.mono (by omega)) rfl (kn.glo 5) F0.kp B1 .nil (fun _ _ => rfl) tk_of (da_cons (de_var (pv 0)) (da_cons de_int da_nil)))))
    (dss_one (ds_ret (de_tup (da_cons (de_var (pv 1)) (da_cons (de_var (pv 3)) (da_cons de_int (da_cons (de_var (pv 4)) (da_cons (de_var (pv 5)) (da_cons de_int (da_cons de_int (da_cons (de_var (pv 5)) (da_cons de_bl da_nil))))))))))))) dss_nil)
    (dss_cons (ds_set (i := 6) sc_law_plant.nd rfl (by first | exact .inl rfl | exact .inr rfl) (de_ix (de_lst (hm := false) (da_cons de_int (da_cons de_int (da_cons de_int (da_cons de_int (da_cons de_int (da_cons de_int da_nil))))))) (de_call (dds := []) O0 (hr.mono (by omega)) rfl (kn.glo 5) F0.kp B1 .nil (fun _ _ => rfl) tk_of (da_cons (de_var (pv 0)) (da_cons de_int da_nil))) (fun _ _ => rfl)))
    (dss_cons (ds_set (i := 7) sc_law_plant.nd rfl (by first | exact .inl rfl | exact .inr rfl) (de_op (od_add false) de_int (de_call (dds := []) O0 (hr.mono (by omega)) rfl (kn.glo 5) F0.kp B1 .nil (fun _ _ => rfl) tk_of (da_cons (de_var (pv 0)) (da_cons de_int da_nil)))))
    (dss_cons (ds_set (i := 8) sc_law_plant.nd rfl (by first | exact .inl rfl | exact .inr rfl) (de_ix (de_lst (hm := false) (da_cons de_int (da_cons de_int (da_cons de_int (da_cons de_int (da_cons de_int (da_cons de_int da_nil))))))) (de_call (dds := []) O0 (hr.mono (by omega)) rfl (kn.glo 5) F0.kp B1 .nil (fun _ _ => rfl) tk_of (da_cons (de_var (pv 0)) (da_cons de_int da_nil))) (fun _ _ => rfl)))
    (dss_cons (ds_set (i := 9) sc_law_plant.nd rfl (by first | exact .inl rfl | exact .inr rfl) (de_op (od_add false) (de_var (pv 8)) (de_ix (de_lst (hm := false) (da_cons de_int (da_cons de_int (da_cons de_int (da_cons de_int (da_cons de_int da_nil)))))) (de_call (dds := []) O0 (hr.mono (by omega)) rfl (kn.glo 5) F0.kp B1 .nil (fun _ _ => rfl) tk_of (da_cons (de_var (pv 0)) (da_cons de_int da_nil))) (fun _ _ => rfl))))
    (dss_one (ds_ret (de_tup (da_cons (de_var (pv 1)) (da_cons (de_var (pv 3)) (da_cons (de_var (pv 6)) (da_cons (de_var (pv 4)) (da_cons (de_var (pv 7)) (da_cons (de_var (pv 8)) (da_cons (de_var (pv 9)) (da_cons (de_op (od_add false) (de_var (pv 7)) (de_call (dds := []) O0 (hr.mono (by omega)) rfl (kn.glo 5) F0.kp B1 .nil (fun _ _ => rfl) tk_of (da_cons (de_var (pv 0)) (da_cons de_int da_nil)))) (da_cons de_bl da_nil)))))))))))))))))))
def b_law_line : SM := (sSeq (sAsg (mFn (arity 2 f_law_take) [] (mCons (mVar 0) (mCons (mCall (g1 gLen) (mCons (mVar 2) mNil)) mNil))) (bName 3))
    (sSeq (sAsg (mOp gMod (mOp (gAdd false) (mOp (gAdd false) (mVar 3) (mC (.int 1))) (mFn (arity 2 f_law_take) [] (mCons (mVar 0) (mCons (mOp gSub (mCall (g1 gLen) (mCons (mVar 2) mNil)) (mC (.int 1))) mNil)))) (mCall (g1 gLen) (mCons (mVar 2) mNil))) (bName 4))
    (sSeq (sAsg (mOp gIx (mLst false (mCons (mC (.int 0)) (mCons (mC (.int 0)) (mCons (mC (.int 3)) (mCons (mC (.int 8)) (mCons (mC (.int 12)) (mCons (mC (.int 20)) (mCons (mC (.int 31)) mNil)))))))) (mFn (arity 2 f_law_take) [] (mCons (mVar 0) (mCons (mC (.int 7)) mNil)))) (bName 5))
    (sRet (mTup (mCons (mVar 1) (mCons (mCall (g2 gMinA) (mCons (mOp gIx (mVar 2) (mVar 3)) (mCons (mOp gIx (mVar 2) (mVar 4)) mNil))) (mCons (mCall (g2 gMaxA) (mCons (mOp gIx (mVar 2) (mVar 3)) (mCons (mOp gIx (mVar 2) (mVar 4)) mNil))) (mCons (mVar 5) (mCons (mOp (gAdd false) (mC (.int 1)) (mFn (arity 2 f_law_take) [] (mCons (mVar 0) (mCons (mC (.int 9)) mNil)))) mNil))))))))))
def f_law_line : FM := runF 6 b_law_line
theorem ok_law_line {P : Program} {w : World} {K : PySem.W.Frag} {mg : Str → Option Value} {base : Heap} (kn : Kn K mg) : Has P w K mg base 3 d_law_line ["state", "name", "stations"] f_law_line := by
  obtain ⟨fd0, F0, O0⟩ := ok_law_take (P := P) (w := w) (base := base) kn
  have B1 := FunD.bindsN (ps := ["state", "limit"]) F0 (fun _ _ _ _ _ _ us hl => match us, hl with | [_, _], _ => rfl)
  refine has_def (k := 2) (N := ["state", "name", "stations", "one", "other", "need"]) (d := d_law_line) (kn.c.def_ 3 (d := d_law_line) rfl) sc_law_line fun f cdv A outer s H E hr => ?_
  delta b_law_line
  exact (dss_cons (ds_set (i := 3) sc_law_line.nd rfl (by first | exact .inl rfl | exact .inr rfl) (de_call (dds := []) O0 (hr.mono (by omega)) rfl (kn.glo 5) F0.kp B1 .nil (fun _ _ => rfl) tk_of (da_cons (de_var (pv 0)) (da_cons (de_callB cd_len rfl (kn.free 1) (by decide +kernel) (da_cons (de_var (pv 2)) da_nil)) da_nil))))
    (dss_cons (ds_set (i := 4) sc_law_line.nd rfl (by first | exact .inl rfl | exact .inr rfl) (de_op od_mod (de_op (od_add false) (de_op (od_add false) (de_var (pv 3)) de_int) (de_call (dds := []) O0 (hr.mono (by omega)) rfl (kn.glo 5) F0.kp B1 .nil (fun _ _ => rfl) tk_of (da_cons (de_var (pv 0)) (da_cons (de_op od_sub (de_callB cd_len rfl (kn.free 1) (by decide +kernel) (da_cons (de_var (pv 2)) da_nil)) de_int) da_nil)))) (de_callB cd_len rfl (kn.free 1) (by decide +kernel) (da_cons (de_var (pv 2)) da_nil))))
    (dss_cons (ds_set (i := 5) sc_law_line.nd rfl (by first | exact .inl rfl | exact .inr rfl) (de_ix (de_lst (hm := false) (da_cons de_int (da_cons de_int (da_cons de_int (da_cons de_int (da_cons de_int (da_cons de_int (da_cons de_int da_nil)))))))) (de_call (dds := []) O0 (hr.mono (by omega)) rfl (kn.glo 5) F0.kp B1 .nil (fun _ _ => rfl) tk_of (da_cons (de_var (pv 0)) (da_cons de_int da_nil))) (fun _ _ => rfl)))
    (dss_one (ds_ret (de_tup (da_cons (de_var (pv 1)) (da_cons (de_callB (cd_minA rfl) rfl (kn.free 7) (by decide +kernel) (da_cons (de_ix (de_var (pv 2)) (de_var (pv 3)) (fun _ _ => rfl)) (da_cons (de_ix (de_var (pv 2)) (de_var (pv 4)) (fun _ _ => rfl)) da_nil))) (da_cons (de_callB (cd_maxA rfl) rfl (kn.free 6) (by decide +kernel) (da_cons (de_ix (de_var (pv 2)) (de_var (pv 3)) (fun _ _ => rfl)) (da_cons (de_ix (de_var (pv 2)) (de_var (pv 4)) (fun _ _ => rfl)) da_nil))) (da_cons (de_var (pv 5)) (da_cons (de_op (od_add false) de_int (de_call (dds := []) O0 (hr.mono (by omega)) rfl (kn.glo 5) F0.kp B1 .nil (fun _ _ => rfl) tk_of (da_cons (de_var (pv 0)) (da_cons de_int da_nil)))) da_nil)))))))))))
def b_law_world : SM := (sSeq (sAsg (mSl false (mLst false (mCons (mC (.str "ash")) (mCons (mC (.str "bay")) (mCons (mC (.str "elm")) (mCons (mC (.str "fir")) (mCons (mC (.str "gum")) (mCons (mC (.str "ivy")) mNil))))))) oNone (oSome (mOp (gAdd false) (mC (.int 1)) (mFn (arity 2 f_law_take) [] (mCons (mVar 0) (mCons (mC (.int 6)) mNil)))))) (bName 1))
    (sSeq (sAsg (mLst true mNil) (bName 2))
    (sSeq (sIf (mTest (mOp gGt (mCall (g1 gLen) (mCons (mVar 1) mNil)) (mC (.int 1)))) (sForR1 (mCons (mFn (arity 2 f_law_take) [] (mCons (mVar 0) (mCons (mC (.int 9)) mNil))) mNil) (bName 3) (sDrop (mApp (mVar 2) (mFn (arity 3 f_law_line) [] (mCons (mVar 0) (mCons (mOp (gAdd false) (mC (.str "l")) (mOp gIx (mC (.str "abcdefgh")) (mVar 3))) (mCons (mVar 1) mNil))))))) sNext)
    (sSeq (sAsg (mLst true mNil) (bName 4))
    (sSeq (sForR1 (mCons (mFn (arity 2 f_law_take) [] (mCons (mVar 0) (mCons (mC (.int 6)) mNil))) mNil) (bName 3) (sDrop (mApp (mVar 4) (mFn (arity 3 f_law_plant) [] (mCons (mVar 0) (mCons (mOp (gAdd false) (mC (.str "p")) (mOp gIx (mC (.str "abcde")) (mVar 3))) (mCons (mVar 1) mNil)))))))
    (sRet (mLst false (mCons (mVar 1) (mCons (mFrz (mVar 2)) (mCons (mFrz (mVar 4)) mNil))))))))))
def f_law_world : FM := runF 5 b_law_world
theorem ok_law_world {P : Program} {w : World} {K : PySem.W.Frag} {mg : Str → Option Value} {base : Heap} (kn : Kn K mg) : Has P w K mg base 4 d_law_world ["state"] f_law_world := by
  obtain ⟨fd0, F0, O0⟩ := ok_law_take (P := P) (w := w) (base := base) kn
  have B1 := FunD.bindsN (ps := ["state", "limit"]) F0 (fun _ _ _ _ _ _ us hl => match us, hl with | [_, _], _ => rfl)
  obtain ⟨fd2, F2, O2⟩ := ok_law_line (P := P) (w := w) (base := base) kn
  have B3 := FunD.bindsN (ps := ["state", "name", "stations"]) F2 (fun _ _ _ _ _ _ us hl => match us, hl with | [_, _, _], _ => rfl)
  obtain ⟨fd4, F4, O4⟩ := ok_law_plant (P := P) (w := w) (base := base) kn
  have B5 := FunD.bindsN (ps := ["state", "name", "stations"]) F4 (fun _ _ _ _ _ _ us hl => match us, hl with | [_, _, _], _ => rfl)
  refine has_def (k := 3) (N := ["state", "stations", "lines", "k", "plants"]) (d := d_law_world) (kn.c.def_ 4 (d := d_law_world) rfl) sc_law_world fun f cdv A outer s H E hr => ?_
  delta b_law_world
  exact (dss_cons (ds_set (i := 1) sc_law_world.nd rfl (by first | exact .inl rfl | exact .inr rfl) (de_sl (hm := false) (de_lst (hm := false) (da_cons de_str (da_cons de_str (da_cons de_str (da_cons de_str (da_cons de_str (da_cons de_str da_nil))))))) do_none (do_some (de_op (od_add false) de_int (de_call (dds := []) O0 (hr.mono (by omega)) rfl (kn.glo 5) F0.kp B1 .nil (fun _ _ => rfl) tk_of (da_cons (de_var (pv 0)) (da_cons de_int da_nil)))))))
    (dss_cons (ds_set (i := 2) sc_law_world.nd rfl (by first | exact .inl rfl | exact .inr rfl) (de_lst (hm := true) da_nil))
    (dss_cons (ds_if (dt_cmp od_gt (de_callB cd_len rfl (kn.free 1) (by decide +kernel) (da_cons (de_var (pv 1)) da_nil)) de_int (nomark _)) (dss_one (ds_forR1 own_of rfl rfl (kn.free 9) (da_cons (de_call (dds := []) O0 (hr.mono (by omega)) rfl (kn.glo 5) F0.kp B1 .nil (fun _ _ => rfl) tk_of (da_cons (de_var (pv 0)) (da_cons de_int da_nil))) da_nil) (dg_name (i := 3) sc_law_world.nd rfl (by first | exact .inl rfl | exact .inr rfl)) (dss_one (ds_expr (de_app (de_var (pv 2)) (de_call (dds := []) O2 (hr.mono (by omega)) rfl (kn.glo 8) F2.kp B3 .nil (fun _ _ => rfl) tk_of (da_cons (de_var (pv 0)) (da_cons (de_op (od_add false) de_str (de_ix de_str (de_var (pv 3)) (fun _ _ => rfl))) (da_cons (de_var (pv 1)) da_nil))))))))) dss_nil)
    (dss_cons (ds_set (i := 4) sc_law_world.nd rfl (by first | exact .inl rfl | exact .inr rfl) (de_lst (hm := true) da_nil))
    (dss_cons (ds_forR1 own_of rfl rfl (kn.free 9) (da_cons (de_call (dds := []) O0 (hr.mono (by omega)) rfl (kn.glo 5) F0.kp B1 .nil (fun _ _ => rfl) tk_of (da_cons (de_var (pv 0)) (da_cons de_int da_nil))) da_nil) (dg_name (i := 3) sc_law_world.nd rfl (by first | exact .inl rfl | exact .inr rfl)) (dss_one (ds_expr (de_app (de_var (pv 4)) (de_call (dds := []) O4 (hr.mono (by omega)) rfl (kn.glo 10) F4.kp B5 .nil (fun _ _ => rfl) tk_of (da_cons (de_var (pv 0)) (da_cons (de_op (od_add false) de_str (de_ix de_str (de_var (pv 3)) (fun _ _ => rfl))) (da_cons (de_var (pv 1)) da_nil))))))))
    (dss_one (ds_ret (de_lst (hm := false) (da_cons (de_var (pv 1)) (da_cons (de_frz (de_var (pv 2))) (da_cons (de_frz (de_var (pv 4))) da_nil)))))))))))
def b_land_init : SM := (sSeq (sFldM "Land" "_stations" (mVar 0) (mLst true mNil))
    (sSeq (sFldM "Land" "_lines" (mVar 0) mDNew)
    (sSeq (sFldM "Land" "_plants" (mVar 0) mDNew)
    (sFldM "Land" "_selves" (mVar 0) (mLst true mNil)))))
def f_land_init : FM := runF 1 b_land_init
theorem ok_land_init {P : Program} {w : World} {K : PySem.W.Frag} {mg : Str → Option Value} {base : Heap} (kn : Kn K mg) : Has P w K mg base 1 d_land_init ["self"] f_land_init := by
  refine has_def (k := 0) (N := ["self"]) (d := d_land_init) (kn.c.def_ 5 (d := d_land_init) rfl) sc_land_init fun f cdv A outer s H E hr => ?_
  delta b_land_init
  exact (dss_cons (ds_fld (de_var (pv 0)) (de_lst (hm := true) da_nil) (kn.cls 11) (kn.noat 12))
    (dss_cons (ds_fld (de_var (pv 0)) de_dnew (kn.cls 11) (kn.noat 13))
    (dss_cons (ds_fld (de_var (pv 0)) de_dnew (kn.cls 11) (kn.noat 14))
    (dss_one (ds_fld (de_var (pv 0)) (de_lst (hm := true) da_nil) (kn.cls 11) (kn.noat 15))))))
def b_is_name : SM := (sSeq (sIf (mOr (mNot (mTest (mIsi "str" (mVar 0)))) (mNot (mTest (mChain gLe gLe (mC (.int 1)) (mCall (g1 gLen) (mCons (mVar 0) mNil)) (mC (.int 12)))))) (sRet (mC (.bl false))) sNext)
    (sSeq (sForS (mVar 0) (bName 1) (sIf (mTest (mOp gNotIn (mVar 1) (mC (.str "abcdefghijklmnopqrstuvwxyz")))) (sRet (mC (.bl false))) sNext))
    (sRet (mC (.bl true)))))
def f_is_name : FM := runF 2 b_is_name
theorem ok_is_name {P : Program} {w : World} {K : PySem.W.Frag} {mg : Str → Option Value} {base : Heap} (kn : Kn K mg) : Has P w K mg base 1 d_is_name ["word"] f_is_name := by
  obtain ⟨t0, G0⟩ := kn.int 18 (z := 12)
  obtain ⟨t1, G1⟩ := kn.str 19 (z := "abcdefghijklmnopqrstuvwxyz")
  refine has_def (k := 0) (N := ["word", "sign"]) (d := d_is_name) (kn.c.def_ 6 (d := d_is_name) rfl) sc_is_name fun f cdv A outer s H E hr => ?_
  delta b_is_name
  exact (dss_cons (ds_if (PW.pt (dw_or (dt_not (dt_val (de_isi (T := "str") rfl (kn.free 16) (by decide +kernel) rfl (kn.free 17) (by decide +kernel) (de_var (pv 0))))) (dw_or1 (dt_not (dt_chain od_le od_le de_int (de_callB cd_len rfl (kn.free 1) (by decide +kernel) (da_cons (de_var (pv 0)) da_nil)) (de_c (pe_glob (v := .int 12) rfl G0 ⟨t0, rfl⟩) fun _ _ => rfl)))))) (dss_one (ds_ret de_bl)) dss_nil)
    (dss_cons (ds_forS own_of rfl (de_var (pv 0)) (dg_name (i := 1) sc_is_name.nd rfl (by first | exact .inl rfl | exact .inr rfl)) (dss_one (ds_if (dt_cmp od_notin (de_var (pv 1)) (de_c (pe_glob (v := .str "abcdefghijklmnopqrstuvwxyz") rfl G1 ⟨t1, rfl⟩) fun _ _ => rfl) (by with_unfolding_all rfl)) (dss_one (ds_ret de_bl)) dss_nil)))
    (dss_one (ds_ret de_bl))))
def b_checked_name : SM := (sSeq (sIf (mNot (mTest (mFn (arity 1 f_is_name) [] (mCons (mVar 0) mNil)))) (sRaise "InvalidName" (mCons (mC (.str "no name")) mNil)) sNext)
    (sRet (mVar 0)))
def f_checked_name : FM := runF 1 b_checked_name
theorem ok_checked_name {P : Program} {w : World} {K : PySem.W.Frag} {mg : Str → Option Value} {base : Heap} (kn : Kn K mg) : Has P w K mg base 2 d_checked_name ["word"] f_checked_name := by
  obtain ⟨fd0, F0, O0⟩ := ok_is_name (P := P) (w := w) (base := base) kn
  have B1 := FunD.bindsN (ps := ["word"]) F0 (fun _ _ _ _ _ _ us hl => match us, hl with | [_], _ => rfl)
  refine has_def (k := 1) (N := ["word"]) (d := d_checked_name) (kn.c.def_ 7 (d := d_checked_name) rfl) sc_checked_name fun f cdv A outer s H E hr => ?_
  delta b_checked_name
  exact (dss_cons (ds_if (dt_not (dt_val (de_call (dds := []) O0 (hr.mono (by omega)) rfl (kn.glo 20) F0.kp B1 .nil (fun _ _ => rfl) tk_of (da_cons (de_var (pv 0)) da_nil)))) (dss_one (ds_raise (c := "InvalidName") rfl tk_of PySem.F.excBase_ValueError (kn.exc 21).1 (kn.glo 22) (kn.exc 21).2.1 (raises_own (kn.exc 21).2.2.1 (kn.exc 21).2.2.2) rfl (da_cons de_str da_nil))) dss_nil)
    (dss_one (ds_ret (de_var (pv 0)))))
def b_land_kind : SM := (sSeq (sIf (mTest (mOp gIn (mVar 1) (mFld "Land" "_stations" (mVar 0)))) (sRet (mC (.str "station"))) sNext)
    (sSeq (sIf (mTest (mDIn true (mVar 1) (mFld "Land" "_lines" (mVar 0)))) (sRet (mC (.str "line"))) sNext)
    (sSeq (sIf (mTest (mDIn true (mVar 1) (mFld "Land" "_plants" (mVar 0)))) (sRet (mC (.str "plant"))) sNext)
    (sRet (mC .non)))))
def f_land_kind : FM := runF 2 b_land_kind
theorem ok_land_kind {P : Program} {w : World} {K : PySem.W.Frag} {mg : Str → Option Value} {base : Heap} (kn : Kn K mg) : Has P w K mg base 1 d_land_kind ["self", "word"] f_land_kind := by
  refine has_def (k := 0) (N := ["self", "word"]) (d := d_land_kind) (kn.c.def_ 8 (d := d_land_kind) rfl) sc_land_kind fun f cdv A outer s H E hr => ?_
  delta b_land_kind
  exact (dss_cons (ds_if (dt_cmp od_in (de_var (pv 1)) (de_fld (de_var (pv 0)) (kn.cls 11) (kn.noat 12)) (by with_unfolding_all rfl)) (dss_one (ds_ret de_str)) dss_nil)
    (dss_cons (ds_if (dt_din (un1 hr) (de_var (pv 1)) (de_fld (de_var (pv 0)) (kn.cls 11) (kn.noat 13)) (by with_unfolding_all rfl)) (dss_one (ds_ret de_str)) dss_nil)
    (dss_cons (ds_if (dt_din (un1 hr) (de_var (pv 1)) (de_fld (de_var (pv 0)) (kn.cls 11) (kn.noat 14)) (by with_unfolding_all rfl)) (dss_one (ds_ret de_str)) dss_nil)
    (dss_one (ds_ret de_non)))))
def b_land_free : SM := (sSeq (sDrop (mFn (arity 1 f_checked_name) [] (mCons (mVar 1) mNil)))
    (sIf (mTest (mOp gIsNot (mMeth "Land" "kind" (arity 2 f_land_kind) [] (mVar 0) (mCons (mVar 1) mNil)) (mC .non))) (sRaise "DuplicateName" (mCons (mVar 1) mNil)) sNext))
def f_land_free : FM := runF 2 b_land_free
theorem ok_land_free {P : Program} {w : World} {K : PySem.W.Frag} {mg : Str → Option Value} {base : Heap} (kn : Kn K mg) : Has P w K mg base 3 d_land_free ["self", "word"] f_land_free := by
  obtain ⟨fd0, F0, O0⟩ := ok_checked_name (P := P) (w := w) (base := base) kn
  have B1 := FunD.bindsN (ps := ["word"]) F0 (fun _ _ _ _ _ _ us hl => match us, hl with | [_], _ => rfl)
  obtain ⟨fd2, F2, O2⟩ := ok_land_kind (P := P) (w := w) (base := base) kn
  have B3 := FunD.bindsN (ps := ["self", "word"]) F2 (fun _ _ _ _ _ _ us hl => match us, hl with | [_, _], _ => rfl)
  refine has_def (k := 2) (N := ["self", "word"]) (d := d_land_free) (kn.c.def_ 9 (d := d_land_free) rfl) sc_land_free fun f cdv A outer s H E hr => ?_
  delta b_land_free
  exact (dss_cons (ds_expr (de_call (dds := []) O0 (hr.mono (by omega)) rfl (kn.glo 23) F0.kp B1 .nil (fun _ _ => rfl) tk_of (da_cons (de_var (pv 1)) da_nil)))
    (dss_one (ds_if (dt_cmp od_isnot (de_meth (c := "Land") (dds := []) (de_var (pv 0)) (kn.cls 11) (kn.meth 24) O2 (hr.mono (by omega)) B3 .nil (fun _ _ => rfl) tk_of (da_cons (de_var (pv 1)) da_nil)) de_non (nomark _)) (dss_one (ds_raise (c := "DuplicateName") rfl tk_of PySem.F.excBase_ValueError (kn.exc 25).1 (kn.glo 26) (kn.exc 25).2.1 (raises_own (kn.exc 25).2.2.1 (kn.exc 25).2.2.2) rfl (da_cons (de_var (pv 1)) da_nil))) dss_nil)))
def b_land_room : SM := (sIf (mTest (mOp gGe (mCall (g1 gLen) (mCons (mVar 1) mNil)) (mC (.int 60)))) (sRaise "TooMany" (mCons (mOp (gAdd false) (mC (.str "more than ")) (mCall (g1 gStr) (mCons (mC (.int 60)) mNil))) mNil)) sNext)
def f_land_room : FM := runF 2 b_land_room
theorem ok_land_room {P : Program} {w : World} {K : PySem.W.Frag} {mg : Str → Option Value} {base : Heap} (kn : Kn K mg) : Has P w K mg base 1 d_land_room ["self", "rows"] f_land_room := by
  obtain ⟨t0, G0⟩ := kn.int 27 (z := 60)
  refine has_def (k := 0) (N := ["self", "rows"]) (d := d_land_room) (kn.c.def_ 10 (d := d_land_room) rfl) sc_land_room fun f cdv A outer s H E hr => ?_
  delta b_land_room
  exact (dss_one (ds_if (dt_cmp od_ge (de_callB cd_len rfl (kn.free 1) (by decide +kernel) (da_cons (de_var (pv 1)) da_nil)) (de_c (pe_glob (v := .int 60) rfl G0 ⟨t0, rfl⟩) fun _ _ => rfl) (nomark _)) (dss_one (ds_raise (c := "TooMany") rfl tk_of PySem.F.excBase_ValueError (kn.exc 28).1 (kn.glo 29) (kn.exc 28).2.1 (raises_own (kn.exc 28).2.2.1 (kn.exc 28).2.2.2) rfl (da_cons (de_op (od_add false) de_str (de_callTy cd_str rfl (kn.free 17) (by decide +kernel) (da_cons (de_c (pe_glob (v := .int 60) rfl G0 ⟨t0, rfl⟩) fun _ _ => rfl) da_nil))) da_nil))) dss_nil))
def b_land_add_station : SM := (sSeq (sDrop (mMeth "Land" "_free" (arity 2 f_land_free) [] (mVar 0) (mCons (mVar 1) mNil)))
    (sSeq (sDrop (mMeth "Land" "_room" (arity 2 f_land_room) [] (mVar 0) (mCons (mFld "Land" "_stations" (mVar 0)) mNil)))
    (sFldM "Land" "_stations" (mVar 0) (mCall (g1 (gSorted true)) (mCons (mOp (gAdd false) (mFld "Land" "_stations" (mVar 0)) (mLst false (mCons (mVar 1) mNil))) mNil)))))
def f_land_add_station : FM := runF 2 b_land_add_station
theorem ok_land_add_station {P : Program} {w : World} {K : PySem.W.Frag} {mg : Str → Option Value} {base : Heap} (kn : Kn K mg) : Has P w K mg base 4 d_land_add_station ["self", "word"] f_land_add_station := by
  obtain ⟨fd0, F0, O0⟩ := ok_land_free (P := P) (w := w) (base := base) kn
  have B1 := FunD.bindsN (ps := ["self", "word"]) F0 (fun _ _ _ _ _ _ us hl => match us, hl with | [_, _], _ => rfl)
  obtain ⟨fd2, F2, O2⟩ := ok_land_room (P := P) (w := w) (base := base) kn
  have B3 := FunD.bindsN (ps := ["self", "rows"]) F2 (fun _ _ _ _ _ _ us hl => match us, hl with | [_, _], _ => rfl)
  refine has_def (k := 3) (N := ["self", "word"]) (d := d_land_add_station) (kn.c.def_ 11 (d := d_land_add_station) rfl) sc_land_add_station fun f cdv A outer s H E hr => ?_
  delta b_land_add_station
  exact (dss_cons (ds_expr (de_meth (c := "Land") (dds := []) (de_var (pv 0)) (kn.cls 11) (kn.meth 30) O0 (hr.mono (by omega)) B1 .nil (fun _ _ => rfl) tk_of (da_cons (de_var (pv 1)) da_nil)))
    (dss_cons (ds_expr (de_meth (c := "Land") (dds := []) (de_var (pv 0)) (kn.cls 11) (kn.meth 31) O2 (hr.mono (by omega)) B3 .nil (fun _ _ => rfl) tk_of (da_cons (de_fld (de_var (pv 0)) (kn.cls 11) (kn.noat 12)) da_nil)))
    (dss_one (ds_fld (de_var (pv 0)) (de_callB (cd_sorted true rfl) rfl (kn.free 32) (by decide +kernel) (da_cons (de_op (od_add false) (de_fld (de_var (pv 0)) (kn.cls 11) (kn.noat 12)) (de_lst (hm := false) (da_cons (de_var (pv 1)) da_nil))) da_nil)) (kn.cls 11) (kn.noat 12)))))
def b_land_there : SM := (sIf (mTest (mOp gNotIn (mVar 1) (mFld "Land" "_stations" (mVar 0)))) (sRaise "UnknownName" (mCons (mC (.str "station")) mNil)) sNext)
def f_land_there : FM := runF 2 b_land_there
theorem ok_land_there {P : Program} {w : World} {K : PySem.W.Frag} {mg : Str → Option Value} {base : Heap} (kn : Kn K mg) : Has P w K mg base 1 d_land_there ["self", "word"] f_land_there := by
  refine has_def (k := 0) (N := ["self", "word"]) (d := d_land_there) (kn.c.def_ 12 (d := d_land_there) rfl) sc_land_there fun f cdv A outer s H E hr => ?_
  delta b_land_there
  exact (dss_one (ds_if (dt_cmp od_notin (de_var (pv 1)) (de_fld (de_var (pv 0)) (kn.cls 11) (kn.noat 12)) (by with_unfolding_all rfl)) (dss_one (ds_raise (c := "UnknownName") rfl tk_of PySem.F.excBase_ValueError (kn.exc 33).1 (kn.glo 34) (kn.exc 33).2.1 (raises_own (kn.exc 33).2.2.1 (kn.exc 33).2.2.2) rfl (da_cons de_str da_nil))) dss_nil))
def b_is_number : SM := (sSeq (sIf (mOr (mTest (mIsi "bool" (mVar 0))) (mNot (mTest (mIsi "int" (mVar 0))))) (sRet (mC (.bl false))) sNext)
    (sRet (mChain gLe gLe (mVar 1) (mVar 0) (mVar 2))))
def f_is_number : FM := runF 3 b_is_number
theorem ok_is_number {P : Program} {w : World} {K : PySem.W.Frag} {mg : Str → Option Value} {base : Heap} (kn : Kn K mg) : Has P w K mg base 1 d_is_number ["value", "least", "most"] f_is_number := by
  refine has_def (k := 0) (N := ["value", "least", "most"]) (d := d_is_number) (kn.c.def_ 13 (d := d_is_number) rfl) sc_is_number fun f cdv A outer s H E hr => ?_
  delta b_is_number
  exact (dss_cons (ds_if (PW.pt (dw_or (dt_val (de_isi (T := "bool") rfl (kn.free 16) (by decide +kernel) rfl (kn.free 35) (by decide +kernel) (de_var (pv 0)))) (dw_or1 (dt_not (dt_val (de_isi (T := "int") rfl (kn.free 16) (by decide +kernel) rfl (kn.free 2) (by decide +kernel) (de_var (pv 0)))))))) (dss_one (ds_ret de_bl)) dss_nil)
    (dss_one (ds_ret (de_chain od_le od_le (de_var (pv 1)) (de_var (pv 0)) (de_var (pv 2))))))
def b_checked_number : SM := (sSeq (sIf (mNot (mTest (mFn (arity 3 f_is_number) [] (mCons (mVar 0) (mCons (mVar 1) (mCons (mVar 2) mNil)))))) (sRaise "InvalidNumber" (mCons (mOp (gAdd false) (mOp (gAdd false) (mOp (gAdd false) (mC (.str "no number from ")) (mCall (g1 gStr) (mCons (mVar 1) mNil))) (mC (.str " to "))) (mCall (g1 gStr) (mCons (mVar 2) mNil))) mNil)) sNext)
    (sRet (mVar 0)))
def f_checked_number : FM := runF 3 b_checked_number
theorem ok_checked_number {P : Program} {w : World} {K : PySem.W.Frag} {mg : Str → Option Value} {base : Heap} (kn : Kn K mg) : Has P w K mg base 2 d_checked_number ["value", "least", "most"] f_checked_number := by
  obtain ⟨fd0, F0, O0⟩ := ok_is_number (P := P) (w := w) (base := base) kn
  obtain ⟨ds1, V1, B1⟩ := FunD.binds1 (ps := ["value", "least", "most"]) F0 3 2 (by intro z; cases z) rfl (fun T kV doc pm an cdv ct us its h1 h2 => match us, its, h1, h2 with | [_, _, _], [_, _], _, _ => ⟨_, rfl, rfl⟩)
  refine has_def (k := 1) (N := ["value", "least", "most"]) (d := d_checked_number) (kn.c.def_ 14 (d := d_checked_number) rfl) sc_checked_number fun f cdv A outer s H E hr => ?_
  delta b_checked_number
  exact (dss_cons (ds_if (dt_not (dt_val (de_call (dds := []) O0 (hr.mono (by omega)) rfl (kn.glo 36) F0.kp B1 V1 (fun _ _ => rfl) tk_of (da_cons (de_var (pv 0)) (da_cons (de_var (pv 1)) (da_cons (de_var (pv 2)) da_nil)))))) (dss_one (ds_raise (c := "InvalidNumber") rfl tk_of PySem.F.excBase_ValueError (kn.exc 37).1 (kn.glo 38) (kn.exc 37).2.1 (raises_own (kn.exc 37).2.2.1 (kn.exc 37).2.2.2) rfl (da_cons (de_op (od_add false) (de_op (od_add false) (de_op (od_add false) de_str (de_callTy cd_str rfl (kn.free 17) (by decide +kernel) (da_cons (de_var (pv 1)) da_nil))) de_str) (de_callTy cd_str rfl (kn.free 17) (by decide +kernel) (da_cons (de_var (pv 2)) da_nil))) da_nil))) dss_nil)
    (dss_one (ds_ret (de_var (pv 0)))))
def b_land_add_line : SM := (sSeq (sDrop (mMeth "Land" "_free" (arity 2 f_land_free) [] (mVar 0) (mCons (mVar 1) mNil)))
    (sSeq (sDrop (mMeth "Land" "_there" (arity 2 f_land_there) [] (mVar 0) (mCons (mVar 2) mNil)))
    (sSeq (sDrop (mMeth "Land" "_there" (arity 2 f_land_there) [] (mVar 0) (mCons (mVar 3) mNil)))
    (sSeq (sIf (mTest (mOp gEq (mVar 2) (mVar 3))) (sRaise "SameStation" (mCons (mVar 2) mNil)) sNext)
    (sSeq (sDrop (mFn (arity 3 f_checked_number) [.int 0, .int 1000000] (mCons (mVar 4) mNil)))
    (sSeq (sDrop (mFn (arity 3 f_checked_number) [.int 1000000] (mCons (mVar 5) (mCons (mC (.int 1)) mNil))))
    (sSeq (sDrop (mMeth "Land" "_room" (arity 2 f_land_room) [] (mVar 0) (mCons (mFld "Land" "_lines" (mVar 0)) mNil)))
    (sDPutM (mFld "Land" "_lines" (mVar 0)) (mVar 1) (mTup (mCons (mCall (g2 gMinA) (mCons (mVar 2) (mCons (mVar 3) mNil))) (mCons (mCall (g2 gMaxA) (mCons (mVar 2) (mCons (mVar 3) mNil))) (mCons (mVar 4) (mCons (mVar 5) mNil)))))))))))))
def f_land_add_line : FM := runF 6 b_land_add_line
theorem ok_land_add_line {P : Program} {w : World} {K : PySem.W.Frag} {mg : Str → Option Value} {base : Heap} (kn : Kn K mg) : Has P w K mg base 4 d_land_add_line ["self", "word", "one", "other", "need", "minutes"] f_land_add_line := by
  obtain ⟨fd0, F0, O0⟩ := ok_land_free (P := P) (w := w) (base := base) kn
  have B1 := FunD.bindsN (ps := ["self", "word"]) F0 (fun _ _ _ _ _ _ us hl => match us, hl with | [_, _], _ => rfl)
  obtain ⟨fd2, F2, O2⟩ := ok_land_there (P := P) (w := w) (base := base) kn
  have B3 := FunD.bindsN (ps := ["self", "word"]) F2 (fun _ _ _ _ _ _ us hl => match us, hl with | [_, _], _ => rfl)
  obtain ⟨fd4, F4, O4⟩ := ok_checked_number (P := P) (w := w) (base := base) kn
  obtain ⟨ds5, V5, B5⟩ := FunD.binds1 (ps := ["value", "least", "most"]) F4 1 0 (by intro z; cases z) rfl (fun T kV doc pm an cdv ct us its h1 h2 => match us, its, h1, h2 with | [_], [_, _], _, _ => ⟨_, rfl, rfl⟩)
  obtain ⟨ds6, V6, B6⟩ := FunD.binds1 (ps := ["value", "least", "most"]) F4 2 1 (by intro z; cases z) rfl (fun T kV doc pm an cdv ct us its h1 h2 => match us, its, h1, h2 with | [_, _], [_, _], _, _ => ⟨_, rfl, rfl⟩)
  obtain ⟨fd7, F7, O7⟩ := ok_land_room (P := P) (w := w) (base := base) kn
  have B8 := FunD.bindsN (ps := ["self", "rows"]) F7 (fun _ _ _ _ _ _ us hl => match us, hl with | [_, _], _ => rfl)
  refine has_def (k := 3) (N := ["self", "word", "one", "other", "need", "minutes"]) (d := d_land_add_line) (kn.c.def_ 15 (d := d_land_add_line) rfl) sc_land_add_line fun f cdv A outer s H E hr => ?_
  delta b_land_add_line
  exact (dss_cons (ds_expr (de_meth (c := "Land") (dds := []) (de_var (pv 0)) (kn.cls 11) (kn.meth 30) O0 (hr.mono (by omega)) B1 .nil (fun _ _ => rfl) tk_of (da_cons (de_var (pv 1)) da_nil)))
    (dss_cons (ds_expr (de_meth (c := "Land") (dds := []) (de_var (pv 0)) (kn.cls 11) (kn.meth 39) O2 (hr.mono (by omega)) B3 .nil (fun _ _ => rfl) tk_of (da_cons (de_var (pv 2)) da_nil)))
    (dss_cons (ds_expr (de_meth (c := "Land") (dds := []) (de_var (pv 0)) (kn.cls 11) (kn.meth 39) O2 (hr.mono (by omega)) B3 .nil (fun _ _ => rfl) tk_of (da_cons (de_var (pv 3)) da_nil)))
    (dss_cons (ds_if (dt_cmp (od_eq hr.units) (de_var (pv 2)) (de_var (pv 3)) (nomark _)) (dss_one (ds_raise (c := "SameStation") rfl tk_of PySem.F.excBase_ValueError (kn.exc 40).1 (kn.glo 41) (kn.exc 40).2.1 (raises_own (kn.exc 40).2.2.1 (kn.exc 40).2.2.2) rfl (da_cons (de_var (pv 2)) da_nil))) dss_nil)
    (dss_cons (ds_expr (de_call (dds := [.int 0, .int 1000000]) O4 (hr.mono (by omega)) rfl (kn.glo 42) F4.kp B5 V5 (fun _ _ => ⟨_, _, rfl, rfl, ⟨_, _, rfl, rfl, rfl⟩⟩) tk_of (da_cons (de_var (pv 4)) da_nil)))
    (dss_cons (ds_expr (de_call (dds := [.int 1000000]) O4 (hr.mono (by omega)) rfl (kn.glo 42) F4.kp B6 V6 (fun _ _ => ⟨_, _, rfl, rfl, rfl⟩) tk_of (da_cons (de_var (pv 5)) (da_cons de_int da_nil))))
    (dss_cons (ds_expr (de_meth (c := "Land") (dds := []) (de_var (pv 0)) (kn.cls 11) (kn.meth 31) O7 (hr.mono (by omega)) B8 .nil (fun _ _ => rfl) tk_of (da_cons (de_fld (de_var (pv 0)) (kn.cls 11) (kn.noat 13)) da_nil)))
    (dss_one (ds_dput (un1 hr) (de_fld (de_var (pv 0)) (kn.cls 11) (kn.noat 13)) (de_var (pv 1)) (de_tup (da_cons (de_callB (cd_minA rfl) rfl (kn.free 7) (by decide +kernel) (da_cons (de_var (pv 2)) (da_cons (de_var (pv 3)) da_nil))) (da_cons (de_callB (cd_maxA rfl) rfl (kn.free 6) (by decide +kernel) (da_cons (de_var (pv 2)) (da_cons (de_var (pv 3)) da_nil))) (da_cons (de_var (pv 4)) (da_cons (de_var (pv 5)) da_nil))))))))))))))
def b_land_add_self : SM := (sSeq (sDrop (mMeth "Land" "_free" (arity 2 f_land_free) [] (mVar 0) (mCons (mVar 1) mNil)))
    (sSeq (sDrop (mMeth "Land" "_there" (arity 2 f_land_there) [] (mVar 0) (mCons (mVar 2) mNil)))
    (sSeq (sDrop (mFn (arity 3 f_checked_number) [.int 0, .int 1000000] (mCons (mVar 3) mNil)))
    (sSeq (sDrop (mFn (arity 3 f_checked_number) [.int 1000000] (mCons (mVar 4) (mCons (mC (.int 1)) mNil))))
    (sSeq (sDrop (mMeth "Land" "_room" (arity 2 f_land_room) [] (mVar 0) (mCons (mFld "Land" "_plants" (mVar 0)) mNil)))
    (sSeq (sDPutM (mFld "Land" "_plants" (mVar 0)) (mVar 1) (mTup (mCons (mVar 2) (mCons (mC (.int 0)) (mCons (mVar 3) (mCons (mVar 4) (mCons (mC (.int 1000000)) (mCons (mC (.int 1000000)) (mCons (mVar 4) mNil)))))))))
    (sDrop (mApp (mFld "Land" "_selves" (mVar 0)) (mVar 1)))))))))
def f_land_add_self : FM := runF 5 b_land_add_self
theorem ok_land_add_self {P : Program} {w : World} {K : PySem.W.Frag} {mg : Str → Option Value} {base : Heap} (kn : Kn K mg) : Has P w K mg base 4 d_land_add_self ["self", "word", "station", "gives", "minutes"] f_land_add_self := by
  obtain ⟨fd0, F0, O0⟩ := ok_land_free (P := P) (w := w) (base := base) kn
  have B1 := FunD.bindsN (ps := ["self", "word"]) F0 (fun _ _ _ _ _ _ us hl => match us, hl with | [_, _], _ => rfl)
  obtain ⟨fd2, F2, O2⟩ := ok_land_there (P := P) (w := w) (base := base) kn
  have B3 := FunD.bindsN (ps := ["self", "word"]) F2 (fun _ _ _ _ _ _ us hl => match us, hl with | [_, _], _ => rfl)
  obtain ⟨fd4, F4, O4⟩ := ok_checked_number (P := P) (w := w) (base := base) kn
  obtain ⟨ds5, V5, B5⟩ := FunD.binds1 (ps := ["value", "least", "most"]) F4 1 0 (by intro z; cases z) rfl (fun T kV doc pm an cdv ct us its h1 h2 => match us, its, h1, h2 with | [_], [_, _], _, _ => ⟨_, rfl, rfl⟩)
  obtain ⟨ds6, V6, B6⟩ := FunD.binds1 (ps := ["value", "least", "most"]) F4 2 1 (by intro z; cases z) rfl (fun T kV doc pm an cdv ct us its h1 h2 => match us, its, h1, h2 with | [_, _], [_, _], _, _ => ⟨_, rfl, rfl⟩)
  obtain ⟨fd7, F7, O7⟩ := ok_land_room (P := P) (w := w) (base := base) kn
  have B8 := FunD.bindsN (ps := ["self", "rows"]) F7 (fun _ _ _ _ _ _ us hl => match us, hl with | [_, _], _ => rfl)
  obtain ⟨t9, G9⟩ := kn.int 43 (z := 1000000)
  refine has_def (k := 3) (N := ["self", "word", "station", "gives", "minutes"]) (d := d_land_add_self) (kn.c.def_ 16 (d := d_land_add_self) rfl) sc_land_add_self fun f cdv A outer s H E hr => ?_
  delta b_land_add_self
  exact (dss_cons (ds_expr (de_meth (c := "Land") (dds := []) (de_var (pv 0)) (kn.cls 11) (kn.meth 30) O0 (hr.mono (by omega)) B1 .nil (fun _ _ => rfl) tk_of (da_cons (de_var (pv 1)) da_nil)))
    (dss_cons (ds_expr (de_meth (c := "Land") (dds := []) (de_var (pv 0)) (kn.cls 11) (kn.meth 39) O2 (hr.mono (by omega)) B3 .nil (fun _ _ => rfl) tk_of (da_cons (de_var (pv 2)) da_nil)))
    (dss_cons (ds_expr (de_call (dds := [.int 0, .int 1000000]) O4 (hr.mono (by omega)) rfl (kn.glo 42) F4.kp B5 V5 (fun _ _ => ⟨_, _, rfl, rfl, ⟨_, _, rfl, rfl, rfl⟩⟩) tk_of (da_cons (de_var (pv 3)) da_nil)))
    (dss_cons (ds_expr (de_call (dds := [.int 1000000]) O4 (hr.mono (by omega)) rfl (kn.glo 42) F4.kp B6 V6 (fun _ _ => ⟨_, _, rfl, rfl, rfl⟩) tk_of (da_cons (de_var (pv 4)) (da_cons de_int da_nil))))
    (dss_cons (ds_expr (de_meth (c := "Land") (dds := []) (de_var (pv 0)) (kn.cls 11) (kn.meth 31) O7 (hr.mono (by omega)) B8 .nil (fun _ _ => rfl) tk_of (da_cons (de_fld (de_var (pv 0)) (kn.cls 11) (kn.noat 14)) da_nil)))
    (dss_cons (ds_dput (un1 hr) (de_fld (de_var (pv 0)) (kn.cls 11) (kn.noat 14)) (de_var (pv 1)) (de_tup (da_cons (de_var (pv 2)) (da_cons de_int (da_cons (de_var (pv 3)) (da_cons (de_var (pv 4)) (da_cons (de_c (pe_glob (v := .int 1000000) rfl G9 ⟨t9, rfl⟩) fun _ _ => rfl) (da_cons (de_c (pe_glob (v := .int 1000000) rfl G9 ⟨t9, rfl⟩) fun _ _ => rfl) (da_cons (de_var (pv 4)) da_nil)))))))))
    (dss_one (ds_expr (de_app (de_fld (de_var (pv 0)) (kn.cls 11) (kn.noat 15)) (de_var (pv 1)))))))))))
def b_land_add_plant : SM := (sSeq (sDrop (mMeth "Land" "_free" (arity 2 f_land_free) [] (mVar 0) (mCons (mVar 1) mNil)))
    (sSeq (sDrop (mMeth "Land" "_there" (arity 2 f_land_there) [] (mVar 0) (mCons (mVar 2) mNil)))
    (sSeq (sForT (mTup (mCons (mVar 3) (mCons (mVar 4) mNil))) (bName 9) (sDrop (mFn (arity 3 f_checked_number) [.int 0, .int 1000000] (mCons (mVar 9) mNil))))
    (sSeq (sDrop (mFn (arity 3 f_checked_number) [.int 1000000] (mCons (mVar 5) (mCons (mC (.int 1)) mNil))))
    (sSeq (sDrop (mFn (arity 3 f_checked_number) [.int 0, .int 1000000] (mCons (mVar 6) mNil)))
    (sSeq (sDrop (mFn (arity 3 f_checked_number) [.int 0, .int 1000000] (mCons (mVar 7) mNil)))
    (sSeq (sDrop (mFn (arity 3 f_checked_number) [.int 1000000] (mCons (mVar 8) (mCons (mC (.int 1)) mNil))))
    (sSeq (sIf (mOr (mTest (mOp gLt (mVar 8) (mVar 5))) (mTest (mOp gLt (mVar 7) (mVar 6)))) (sRaise "InvalidNumber" (mCons (mC (.str "slow below quick, or cool below hot")) mNil)) sNext)
    (sSeq (sDrop (mMeth "Land" "_room" (arity 2 f_land_room) [] (mVar 0) (mCons (mFld "Land" "_plants" (mVar 0)) mNil)))
    (sDPutM (mFld "Land" "_plants" (mVar 0)) (mVar 1) (mTup (mCons (mVar 2) (mCons (mVar 3) (mCons (mVar 4) (mCons (mVar 5) (mCons (mVar 6) (mCons (mVar 7) (mCons (mVar 8) mNil))))))))))))))))))
def f_land_add_plant : FM := runF 10 b_land_add_plant
theorem ok_land_add_plant {P : Program} {w : World} {K : PySem.W.Frag} {mg : Str → Option Value} {base : Heap} (kn : Kn K mg) : Has P w K mg base 4 d_land_add_plant ["self", "word", "station", "need", "gives", "quick", "hot", "cool", "slow"] f_land_add_plant := by
  obtain ⟨fd0, F0, O0⟩ := ok_land_free (P := P) (w := w) (base := base) kn
  have B1 := FunD.bindsN (ps := ["self", "word"]) F0 (fun _ _ _ _ _ _ us hl => match us, hl with | [_, _], _ => rfl)
  obtain ⟨fd2, F2, O2⟩ := ok_land_there (P := P) (w := w) (base := base) kn
  have B3 := FunD.bindsN (ps := ["self", "word"]) F2 (fun _ _ _ _ _ _ us hl => match us, hl with | [_, _], _ => rfl)
  obtain ⟨fd4, F4, O4⟩ := ok_checked_number (P := P) (w := w) (base := base) kn
  obtain ⟨ds5, V5, B5⟩ := FunD.binds1 (ps := ["value", "least", "most"]) F4 1 0 (by intro z; cases z) rfl (fun T kV doc pm an cdv ct us its h1 h2 => match us, its, h1, h2 with | [_], [_, _], _, _ => ⟨_, rfl, rfl⟩)
  obtain ⟨ds6, V6, B6⟩ := FunD.binds1 (ps := ["value", "least", "most"]) F4 2 1 (by intro z; cases z) rfl (fun T kV doc pm an cdv ct us its h1 h2 => match us, its, h1, h2 with | [_, _], [_, _], _, _ => ⟨_, rfl, rfl⟩)
  obtain ⟨fd7, F7, O7⟩ := ok_land_room (P := P) (w := w) (base := base) kn
  have B8 := FunD.bindsN (ps := ["self", "rows"]) F7 (fun _ _ _ _ _ _ us hl => match us, hl with | [_, _], _ => rfl)
  refine has_def (k := 3) (N := ["self", "word", "station", "need", "gives", "quick", "hot", "cool", "slow", "value"]) (d := d_land_add_plant) (kn.c.def_ 17 (d := d_land_add_plant) rfl) sc_land_add_plant fun f cdv A outer s H E hr => ?_
  delta b_land_add_plant
  exact (dss_cons (ds_expr (de_meth (c := "Land") (dds := []) (de_var (pv 0)) (kn.cls 11) (kn.meth 30) O0 (hr.mono (by omega)) B1 .nil (fun _ _ => rfl) tk_of (da_cons (de_var (pv 1)) da_nil)))
    (dss_cons (ds_expr (de_meth (c := "Land") (dds := []) (de_var (pv 0)) (kn.cls 11) (kn.meth 39) O2 (hr.mono (by omega)) B3 .nil (fun _ _ => rfl) tk_of (da_cons (de_var (pv 2)) da_nil)))
    (dss_cons (ds_forT own_of rfl (de_tup (da_cons (de_var (pv 3)) (da_cons (de_var (pv 4)) da_nil))) (dg_name (i := 9) sc_land_add_plant.nd rfl (by first | exact .inl rfl | exact .inr rfl)) (dss_one (ds_expr (de_call (dds := [.int 0, .int 1000000]) O4 (hr.mono (by omega)) rfl (kn.glo 42) F4.kp B5 V5 (fun _ _ => ⟨_, _, rfl, rfl, ⟨_, _, rfl, rfl, rfl⟩⟩) tk_of (da_cons (de_var (pv 9)) da_nil)))))
    (dss_cons (ds_expr (de_call (dds := [.int 1000000]) O4 (hr.mono (by omega)) rfl (kn.glo 42) F4.kp B6 V6 (fun _ _ => ⟨_, _, rfl, rfl, rfl⟩) tk_of (da_cons (de_var (pv 5)) (da_cons de_int da_nil))))
    (dss_cons (ds_expr (de_call (dds := [.int 0, .int 1000000]) O4 (hr.mono (by omega)) rfl (kn.glo 42) F4.kp B5 V5 (fun _ _ => ⟨_, _, rfl, rfl, ⟨_, _, rfl, rfl, rfl⟩⟩) tk_of (da_cons (de_var (pv 6)) da_nil)))
    (dss_cons (ds_expr (de_call (dds := [.int 0, .int 1000000]) O4 (hr.mono (by omega)) rfl (kn.glo 42) F4.kp B5 V5 (fun _ _ => ⟨_, _, rfl, rfl, ⟨_, _, rfl, rfl, rfl⟩⟩) tk_of (da_cons (de_var (pv 7)) da_nil)))
    (dss_cons (ds_expr (de_call (dds := [.int 1000000]) O4 (hr.mono (by omega)) rfl (kn.glo 42) F4.kp B6 V6 (fun _ _ => ⟨_, _, rfl, rfl, rfl⟩) tk_of (da_cons (de_var (pv 8)) (da_cons de_int da_nil))))
    (dss_cons (ds_if (PW.pt (dw_or (dt_cmp od_lt (de_var (pv 8)) (de_var (pv 5)) (nomark _)) (dw_or1 (dt_cmp od_lt (de_var (pv 7)) (de_var (pv 6)) (nomark _))))) (dss_one (ds_raise (c := "InvalidNumber") rfl tk_of PySem.F.excBase_ValueError (kn.exc 37).1 (kn.glo 38) (kn.exc 37).2.1 (raises_own (kn.exc 37).2.2.1 (kn.exc 37).2.2.2) rfl (da_cons de_str da_nil))) dss_nil)
    (dss_cons (ds_expr (de_meth (c := "Land") (dds := []) (de_var (pv 0)) (kn.cls 11) (kn.meth 31) O7 (hr.mono (by omega)) B8 .nil (fun _ _ => rfl) tk_of (da_cons (de_fld (de_var (pv 0)) (kn.cls 11) (kn.noat 14)) da_nil)))
    (dss_one (ds_dput (un1 hr) (de_fld (de_var (pv 0)) (kn.cls 11) (kn.noat 14)) (de_var (pv 1)) (de_tup (da_cons (de_var (pv 2)) (da_cons (de_var (pv 3)) (da_cons (de_var (pv 4)) (da_cons (de_var (pv 5)) (da_cons (de_var (pv 6)) (da_cons (de_var (pv 7)) (da_cons (de_var (pv 8)) da_nil)))))))))))))))))))
def b_law_build : SM := (sSeq (sAsg (mMake "Land" (arity 1 f_land_init) [] mNil) (bName 1))
    (sSeq (sForL (mOp gIx (mVar 0) (mC (.int 0))) (bName 2) (sDrop (mMeth "Land" "add_station" (arity 2 f_land_add_station) [] (mVar 1) (mCons (mVar 2) mNil))))
    (sSeq (sForL (mOp gIx (mVar 0) (mC (.int 1))) (bTup 5 (bCons (bName 2) (bCons (bName 3) (bCons (bName 4) (bCons (bName 5) (bCons (bName 6) bNil)))))) (sDrop (mMeth "Land" "add_line" (arity 6 f_land_add_line) [] (mVar 1) (mCons (mVar 2) (mCons (mVar 3) (mCons (mVar 4) (mCons (mVar 5) (mCons (mVar 6) mNil))))))))
    (sSeq (sForL (mOp gIx (mVar 0) (mC (.int 2))) (bTup 9 (bCons (bName 2) (bCons (bName 7) (bCons (bName 5) (bCons (bName 8) (bCons (bName 9) (bCons (bName 10) (bCons (bName 11) (bCons (bName 12) (bCons (bName 13) bNil)))))))))) (sIf (mTru (mVar 13)) (sDrop (mMeth "Land" "add_self" (arity 5 f_land_add_self) [] (mVar 1) (mCons (mVar 2) (mCons (mVar 7) (mCons (mVar 8) (mCons (mVar 9) mNil)))))) (sDrop (mMeth "Land" "add_plant" (arity 9 f_land_add_plant) [] (mVar 1) (mCons (mVar 2) (mCons (mVar 7) (mCons (mVar 5) (mCons (mVar 8) (mCons (mVar 9) (mCons (mVar 10) (mCons (mVar 11) (mCons (mVar 12) mNil))))))))))))
    (sRet (mVar 1))))))
def f_law_build : FM := runF 14 b_law_build
theorem ok_law_build {P : Program} {w : World} {K : PySem.W.Frag} {mg : Str → Option Value} {base : Heap} (kn : Kn K mg) : Has P w K mg base 5 d_law_build ["world"] f_law_build := by
  obtain ⟨fd0, F0, O0⟩ := ok_land_init (P := P) (w := w) (base := base) kn
  have B1 := FunD.bindsN (ps := ["self"]) F0 (fun _ _ _ _ _ _ us hl => match us, hl with | [_], _ => rfl)
  obtain ⟨fd2, F2, O2⟩ := ok_land_add_station (P := P) (w := w) (base := base) kn
  have B3 := FunD.bindsN (ps := ["self", "word"]) F2 (fun _ _ _ _ _ _ us hl => match us, hl with | [_, _], _ => rfl)
  obtain ⟨fd4, F4, O4⟩ := ok_land_add_line (P := P) (w := w) (base := base) kn
  have B5 := FunD.bindsN (ps := ["self", "word", "one", "other", "need", "minutes"]) F4 (fun _ _ _ _ _ _ us hl => match us, hl with | [_, _, _, _, _, _], _ => rfl)
  obtain ⟨fd6, F6, O6⟩ := ok_land_add_self (P := P) (w := w) (base := base) kn
  have B7 := FunD.bindsN (ps := ["self", "word", "station", "gives", "minutes"]) F6 (fun _ _ _ _ _ _ us hl => match us, hl with | [_, _, _, _, _], _ => rfl)
  obtain ⟨fd8, F8, O8⟩ := ok_land_add_plant (P := P) (w := w) (base := base) kn
  have B9 := FunD.bindsN (ps := ["self", "word", "station", "need", "gives", "quick", "hot", "cool", "slow"]) F8 (fun _ _ _ _ _ _ us hl => match us, hl with | [_, _, _, _, _, _, _, _, _], _ => rfl)
  refine has_def (k := 4) (N := ["world", "land", "name", "one", "other", "need", "minutes", "station", "gives", "quick", "hot", "cool", "slow", "alone"]) (d := d_law_build) (kn.c.def_ 18 (d := d_law_build) rfl) sc_law_build fun f cdv A outer s H E hr => ?_
  delta b_law_build
  exact (dss_cons (ds_set (i := 1) sc_law_build.nd rfl (by first | exact .inl rfl | exact .inr rfl) (de_make0 (c := "Land") (dds := []) (kn.mkr 45) O0 (hr.mono (by omega)) rfl (kn.glo 44) B1 .nil (fun _ _ => rfl) tk_of))
    (dss_cons (ds_forL own_of rfl (de_ix (de_var (pv 0)) de_int (fun _ _ => rfl)) (dg_name (i := 2) sc_law_build.nd rfl (by first | exact .inl rfl | exact .inr rfl)) (dss_one (ds_expr (de_meth (c := "Land") (dds := []) (de_var (pv 1)) (kn.cls 11) (kn.meth 46) O2 (hr.mono (by omega)) B3 .nil (fun _ _ => rfl) tk_of (da_cons (de_var (pv 2)) da_nil)))))
    (dss_cons (ds_forL own_of rfl (de_ix (de_var (pv 0)) de_int (fun _ _ => rfl)) (dg_tup rfl (dgs_cons (dg_name (i := 2) sc_law_build.nd rfl (by first | exact .inl rfl | exact .inr rfl)) (dgs_cons (dg_name (i := 3) sc_law_build.nd rfl (by first | exact .inl rfl | exact .inr rfl)) (dgs_cons (dg_name (i := 4) sc_law_build.nd rfl (by first | exact .inl rfl | exact .inr rfl)) (dgs_cons (dg_name (i := 5) sc_law_build.nd rfl (by first | exact .inl rfl | exact .inr rfl)) (dgs_cons (dg_name (i := 6) sc_law_build.nd rfl (by first | exact .inl rfl | exact .inr rfl)) dgs_nil)))))) (dss_one (ds_expr (de_meth (c := "Land") (dds := []) (de_var (pv 1)) (kn.cls 11) (kn.meth 47) O4 (hr.mono (by omega)) B5 .nil (fun _ _ => rfl) tk_of (da_cons (de_var (pv 2)) (da_cons (de_var (pv 3)) (da_cons (de_var (pv 4)) (da_cons (de_var (pv 5)) (da_cons (de_var (pv 6)) da_nil)))))))))
    (dss_cons (ds_forL own_of rfl (de_ix (de_var (pv 0)) de_int (fun _ _ => rfl)) (dg_tup rfl (dgs_cons (dg_name (i := 2) sc_law_build.nd rfl (by first | exact .inl rfl | exact .inr rfl)) (dgs_cons (dg_name (i := 7) sc_law_build.nd rfl (by first | exact .inl rfl | exact .inr rfl)) (dgs_cons (dg_name (i := 5) sc_law_build.nd rfl (by first | exact .inl rfl | exact .inr rfl)) (dgs_cons (dg_name (i := 8) sc_law_build.nd rfl (by first | exact .inl rfl | exact .inr rfl)) (dgs_cons (dg_name (i := 9) sc_law_build.nd rfl (by first | exact .inl rfl | exact .inr rfl)) (dgs_cons (dg_name (i := 10) sc_law_build.nd rfl (by first | exact .inl rfl | exact .inr rfl)) (dgs_cons (dg_name (i := 11) sc_law_build.nd rfl (by first | exact .inl rfl | exact .inr rfl)) (dgs_cons (dg_name (i := 12) sc_law_build.nd rfl (by first | exact .inl rfl | exact .inr rfl)) (dgs_cons (dg_name (i := 13) sc_law_build.nd rfl (by first | exact .inl rfl | exact .inr rfl)) dgs_nil)))))))))) (dss_one (ds_if (dt_truth (de_var (pv 13))) (dss_one (ds_expr (de_meth (c := "Land") (dds := []) (de_var (pv 1)) (kn.cls 11) (kn.meth 48) O6 (hr.mono (by omega)) B7 .nil (fun _ _ => rfl) tk_of (da_cons (de_var (pv 2)) (da_cons (de_var (pv 7)) (da_cons (de_var (pv 8)) (da_cons (de_var (pv 9)) da_nil))))))) (dss_one (ds_expr (de_meth (c := "Land") (dds := []) (de_var (pv 1)) (kn.cls 11) (kn.meth 49) O8 (hr.mono (by omega)) B9 .nil (fun _ _ => rfl) tk_of (da_cons (de_var (pv 2)) (da_cons (de_var (pv 7)) (da_cons (de_var (pv 5)) (da_cons (de_var (pv 8)) (da_cons (de_var (pv 9)) (da_cons (de_var (pv 10)) (da_cons (de_var (pv 11)) (da_cons (de_var (pv 12)) da_nil))))))))))))))
    (dss_one (ds_ret (de_var (pv 1))))))))
def b_land_plants : SM := (sRet (mCall (g1 (gSorted false)) (mCons (mFld "Land" "_plants" (mVar 0)) mNil)))
def f_land_plants : FM := runF 1 b_land_plants
theorem ok_land_plants {P : Program} {w : World} {K : PySem.W.Frag} {mg : Str → Option Value} {base : Heap} (kn : Kn K mg) : Has P w K mg base 1 d_land_plants ["self"] f_land_plants := by
  refine has_def (k := 0) (N := ["self"]) (d := d_land_plants) (kn.c.def_ 19 (d := d_land_plants) rfl) sc_land_plants fun f cdv A outer s H E hr => ?_
  delta b_land_plants
  exact (dss_one (ds_ret (de_callB (cd_sorted false rfl) rfl (kn.free 32) (by decide +kernel) (da_cons (de_fld (de_var (pv 0)) (kn.cls 11) (kn.noat 14)) da_nil))))
def b_land_lines : SM := (sRet (mCall (g1 (gSorted false)) (mCons (mFld "Land" "_lines" (mVar 0)) mNil)))
def f_land_lines : FM := runF 1 b_land_lines
theorem ok_land_lines {P : Program} {w : World} {K : PySem.W.Frag} {mg : Str → Option Value} {base : Heap} (kn : Kn K mg) : Has P w K mg base 1 d_land_lines ["self"] f_land_lines := by
  refine has_def (k := 0) (N := ["self"]) (d := d_land_lines) (kn.c.def_ 20 (d := d_land_lines) rfl) sc_land_lines fun f cdv A outer s H E hr => ?_
  delta b_land_lines
  exact (dss_one (ds_ret (de_callB (cd_sorted false rfl) rfl (kn.free 32) (by decide +kernel) (da_cons (de_fld (de_var (pv 0)) (kn.cls 11) (kn.noat 13)) da_nil))))
theorem blk_land_rows_239_16 : BlkOk ["self", "found", "word", "kind", "parts"] (defScope s_land_rows) { kind := .function, names := [(".0", .local), ("word", .local)], isGenerator := false, isCoroutine := false, more := [] } [("word", 2)] := ⟨rfl, by decide +kernel, by decide +kernel, by decide +kernel, by decide +kernel⟩
theorem blk_land_rows_240_24 : BlkOk ["self", "found", "word", "kind", "parts"] (defScope s_land_rows) { kind := .function, names := [(".0", .local), ("word", .local), ("self", .free)], isGenerator := false, isCoroutine := false, more := [] } [("word", 2)] := ⟨rfl, by decide +kernel, by decide +kernel, by decide +kernel, by decide +kernel⟩
def b_land_rows : SM := (sSeq (sAsg (mLcL false (mFld "Land" "_stations" (mVar 0)) [2] (bName 2) mYes (mTup (mCons (mC (.str "station")) (mCons (mVar 2) (mCons (mTup mNil) mNil))))) (bName 1))
    (sSeq (sAsg (mOp (gAdd true) (mVar 1) (mLcL false (mMeth "Land" "lines" (arity 1 f_land_lines) [] (mVar 0) mNil) [2] (bName 2) mYes (mTup (mCons (mC (.str "line")) (mCons (mVar 2) (mCons (mDGet (mFld "Land" "_lines" (mVar 0)) (mVar 2)) mNil)))))) (bName 1))
    (sSeq (sForL (mMeth "Land" "plants" (arity 1 f_land_plants) [] (mVar 0) mNil) (bName 2) (sSeq (sAsg (mC (.str "plant")) (bName 3))
    (sSeq (sAsg (mDGet (mFld "Land" "_plants" (mVar 0)) (mVar 2)) (bName 4))
    (sSeq (sIf (mTest (mOp gIn (mVar 2) (mFld "Land" "_selves" (mVar 0)))) (sSeq (sAsg (mC (.str "self")) (bName 3))
    (sAsg (mTup (mCons (mOp gIx (mVar 4) (mC (.int 0))) (mCons (mOp gIx (mVar 4) (mC (.int 2))) (mCons (mOp gIx (mVar 4) (mC (.int 3))) mNil)))) (bName 4))) sNext)
    (sDrop (mApp (mVar 1) (mTup (mCons (mVar 3) (mCons (mVar 2) (mCons (mVar 4) mNil))))))))))
    (sRet (mVar 1)))))
def f_land_rows : FM := runF 5 b_land_rows
theorem ok_land_rows {P : Program} {w : World} {K : PySem.W.Frag} {mg : Str → Option Value} {base : Heap} (kn : Kn K mg) : Has P w K mg base 2 d_land_rows ["self"] f_land_rows := by
  obtain ⟨fd0, F0, O0⟩ := ok_land_lines (P := P) (w := w) (base := base) kn
  have B1 := FunD.bindsN (ps := ["self"]) F0 (fun _ _ _ _ _ _ us hl => match us, hl with | [_], _ => rfl)
  obtain ⟨fd2, F2, O2⟩ := ok_land_plants (P := P) (w := w) (base := base) kn
  have B3 := FunD.bindsN (ps := ["self"]) F2 (fun _ _ _ _ _ _ us hl => match us, hl with | [_], _ => rfl)
  refine has_def (k := 1) (N := ["self", "found", "word", "kind", "parts"]) (d := d_land_rows) (kn.c.def_ 21 (d := d_land_rows) rfl) sc_land_rows fun f cdv A outer s H E hr => ?_
  delta b_land_rows
  exact (dss_cons (ds_setLcL (iy := 1) (own := [("word", 2)]) (hm := false) rfl sc_land_rows.nd (de_fld (de_var (pv 0)) (kn.cls 11) (kn.noat 12)) blk_land_rows_239_16 (fun s1 H1 C1 cl1 fp1 J1 hJ1 => (dg_name (i := 2) sc_land_rows.nd rfl (by first | exact .inl rfl | exact .inr rfl) (hJ := fun σ v S h => hJ1 σ v S 2 (by simp) h))) (fun s1 H1 C1 cl1 fp1 J1 hJ1 => dts_nil) (fun s1 H1 C1 cl1 fp1 J1 hJ1 => (de_tup (da_cons de_str (da_cons (de_var (pv 2)) (da_cons (de_tup da_nil) da_nil))))) (hy := rfl) (hyl := rfl) (hsw := rfl))
    (dss_cons (ds_set (i := 1) sc_land_rows.nd rfl (by first | exact .inl rfl | exact .inr rfl) (de_op (od_add true) (de_var (pv 1)) (de_lcL (own := [("word", 2)]) (hm := false) rfl sc_land_rows.nd (de_meth0 (c := "Land") (dds := []) (de_var (pv 0)) (kn.cls 11) (kn.meth 50) O0 (hr.mono (by omega)) B1 .nil (fun _ _ => rfl) tk_of) blk_land_rows_240_24 (fun s2 H2 C2 cl2 fp2 J2 hJ2 => (dg_name (i := 2) sc_land_rows.nd rfl (by first | exact .inl rfl | exact .inr rfl) (hJ := fun σ v S h => hJ2 σ v S 2 (by simp) h))) (fun s2 H2 C2 cl2 fp2 J2 hJ2 => dts_nil) (fun s2 H2 C2 cl2 fp2 J2 hJ2 => (de_tup (da_cons de_str (da_cons (de_var (pv 2)) (da_cons (de_dget (un1 hr) (de_fld (de_var (pv 0)) (kn.cls 11) (kn.noat 13)) (de_var (pv 2))) da_nil))))))))
    (dss_cons (ds_forL own_of rfl (de_meth0 (c := "Land") (dds := []) (de_var (pv 0)) (kn.cls 11) (kn.meth 51) O2 (hr.mono (by omega)) B3 .nil (fun _ _ => rfl) tk_of) (dg_name (i := 2) sc_land_rows.nd rfl (by first | exact .inl rfl | exact .inr rfl)) (dss_cons (ds_set (i := 3) sc_land_rows.nd rfl (by first | exact .inl rfl | exact .inr rfl) de_str)
    (dss_cons (ds_set (i := 4) sc_land_rows.nd rfl (by first | exact .inl rfl | exact .inr rfl) (de_dget (un1 hr) (de_fld (de_var (pv 0)) (kn.cls 11) (kn.noat 14)) (de_var (pv 2))))
    (dss_cons (ds_if (dt_cmp od_in (de_var (pv 2)) (de_fld (de_var (pv 0)) (kn.cls 11) (kn.noat 15)) (by with_unfolding_all rfl)) (dss_cons (ds_set (i := 3) sc_land_rows.nd rfl (by first | exact .inl rfl | exact .inr rfl) de_str)
    (dss_one (ds_set (i := 4) sc_land_rows.nd rfl (by first | exact .inl rfl | exact .inr rfl) (de_tup (da_cons (de_ix (de_var (pv 4)) de_int (fun _ _ => rfl)) (da_cons (de_ix (de_var (pv 4)) de_int (fun _ _ => rfl)) (da_cons (de_ix (de_var (pv 4)) de_int (fun _ _ => rfl)) da_nil))))))) dss_nil)
    (dss_one (ds_expr (de_app (de_var (pv 1)) (de_tup (da_cons (de_var (pv 3)) (da_cons (de_var (pv 2)) (da_cons (de_var (pv 4)) da_nil)))))))))))
    (dss_one (ds_ret (de_var (pv 1)))))))
def b_land_stations : SM := (sRet (mCall (g1 (gList false)) (mCons (mFld "Land" "_stations" (mVar 0)) mNil)))
def f_land_stations : FM := runF 1 b_land_stations
theorem ok_land_stations {P : Program} {w : World} {K : PySem.W.Frag} {mg : Str → Option Value} {base : Heap} (kn : Kn K mg) : Has P w K mg base 1 d_land_stations ["self"] f_land_stations := by
  refine has_def (k := 0) (N := ["self"]) (d := d_land_stations) (kn.c.def_ 22 (d := d_land_stations) rfl) sc_land_stations fun f cdv A outer s H E hr => ?_
  delta b_land_stations
  exact (dss_one (ds_ret (de_callTy (cd_list false) rfl (kn.free 52) (by decide +kernel) (da_cons (de_fld (de_var (pv 0)) (kn.cls 11) (kn.noat 12)) da_nil))))
def b_land_line : SM := (sSeq (sIf (mTest (mDIn false (mVar 1) (mFld "Land" "_lines" (mVar 0)))) (sRaise "UnknownName" (mCons (mC (.str "line")) mNil)) sNext)
    (sRet (mDGet (mFld "Land" "_lines" (mVar 0)) (mVar 1))))
def f_land_line : FM := runF 2 b_land_line
theorem ok_land_line {P : Program} {w : World} {K : PySem.W.Frag} {mg : Str → Option Value} {base : Heap} (kn : Kn K mg) : Has P w K mg base 1 d_land_line ["self", "word"] f_land_line := by
  refine has_def (k := 0) (N := ["self", "word"]) (d := d_land_line) (kn.c.def_ 23 (d := d_land_line) rfl) sc_land_line fun f cdv A outer s H E hr => ?_
  delta b_land_line
  exact (dss_cons (ds_if (dt_dnotin (un1 hr) (de_var (pv 1)) (de_fld (de_var (pv 0)) (kn.cls 11) (kn.noat 13)) (by with_unfolding_all rfl)) (dss_one (ds_raise (c := "UnknownName") rfl tk_of PySem.F.excBase_ValueError (kn.exc 33).1 (kn.glo 34) (kn.exc 33).2.1 (raises_own (kn.exc 33).2.2.1 (kn.exc 33).2.2.2) rfl (da_cons de_str da_nil))) dss_nil)
    (dss_one (ds_ret (de_dget (un1 hr) (de_fld (de_var (pv 0)) (kn.cls 11) (kn.noat 13)) (de_var (pv 1))))))
def b_moment_mark : SM := (sSeq (sAsg mDNew (bName 1))
    (sSeq (sForL (mFld "Moment" "_lit" (mVar 0)) (bName 2) (sDPutM (mVar 1) (mVar 2) (mLst true mNil)))
    (sSeq (sForL (mFld "Moment" "_closed" (mVar 0)) (bName 2) (sSeq (sAsg (mMeth "Land" "line" (arity 2 f_land_line) [] (mFld "Moment" "_land" (mVar 0)) (mCons (mVar 2) mNil)) (bTup 4 (bCons (bName 3) (bCons (bName 4) (bCons (bName 5) (bCons (bName 6) bNil))))))
    (sIf (mAnd (mTest (mDIn true (mVar 3) (mVar 1))) (mTest (mDIn true (mVar 4) (mVar 1)))) (sSeq (sDrop (mApp (mDGet (mVar 1) (mVar 3)) (mVar 4)))
    (sDrop (mApp (mDGet (mVar 1) (mVar 4)) (mVar 3)))) sNext)))
    (sForL (mFld "Moment" "_lit" (mVar 0)) (bName 7) (sIf (mTest (mDIn false (mVar 7) (mFld "Moment" "_root" (mVar 0)))) (sSeq (sDPutM (mFld "Moment" "_root" (mVar 0)) (mVar 7) (mVar 7))
    (sSeq (sAsg (mLst true (mCons (mVar 7) mNil)) (bName 8))
    (sWhile 10000 (mTru (mVar 8)) (sForL (mDGet (mVar 1) (mBL gPop (mVar 8) mNil)) (bName 4) (sIf (mTest (mDIn false (mVar 4) (mFld "Moment" "_root" (mVar 0)))) (sSeq (sDPutM (mFld "Moment" "_root" (mVar 0)) (mVar 4) (mVar 7))
    (sDrop (mApp (mVar 8) (mVar 4)))) sNext))))) sNext)))))
def f_moment_mark : FM := runF 9 b_moment_mark
theorem ok_moment_mark {P : Program} {w : World} {K : PySem.W.Frag} {mg : Str → Option Value} {base : Heap} (kn : Kn K mg) : Has P w K mg base 2 d_moment_mark ["self"] f_moment_mark := by
  obtain ⟨fd0, F0, O0⟩ := ok_land_line (P := P) (w := w) (base := base) kn
  have B1 := FunD.bindsN (ps := ["self", "word"]) F0 (fun _ _ _ _ _ _ us hl => match us, hl with | [_, _], _ => rfl)
  refine has_def (k := 1) (N := ["self", "near", "word", "one", "other", "need", "minutes", "first", "waiting"]) (d := d_moment_mark) (kn.c.def_ 24 (d := d_moment_mark) rfl) sc_moment_mark fun f cdv A outer s H E hr => ?_
  delta b_moment_mark
  exact (dss_cons (ds_set (i := 1) sc_moment_mark.nd rfl (by first | exact .inl rfl | exact .inr rfl) de_dnew)
    (dss_cons (ds_forL own_of rfl (de_fld (de_var (pv 0)) (kn.cls 53) (kn.noat 54)) (dg_name (i := 2) sc_moment_mark.nd rfl (by first | exact .inl rfl | exact .inr rfl)) (dss_one (ds_dput (un1 hr) (de_var (pv 1)) (de_var (pv 2)) (de_lst (hm := true) da_nil))))
    (dss_cons (ds_forL own_of rfl (de_fld (de_var (pv 0)) (kn.cls 53) (kn.noat 57)) (dg_name (i := 2) sc_moment_mark.nd rfl (by first | exact .inl rfl | exact .inr rfl)) (dss_cons (ds_asg (de_meth (c := "Land") (dds := []) (de_fld (de_var (pv 0)) (kn.cls 53) (kn.noat 55)) (kn.cls 11) (kn.meth 56) O0 (hr.mono (by omega)) B1 .nil (fun _ _ => rfl) tk_of (da_cons (de_var (pv 2)) da_nil)) (dg_tup rfl (dgs_cons (dg_name (i := 3) sc_moment_mark.nd rfl (by first | exact .inl rfl | exact .inr rfl)) (dgs_cons (dg_name (i := 4) sc_moment_mark.nd rfl (by first | exact .inl rfl | exact .inr rfl)) (dgs_cons (dg_name (i := 5) sc_moment_mark.nd rfl (by first | exact .inl rfl | exact .inr rfl)) (dgs_cons (dg_name (i := 6) sc_moment_mark.nd rfl (by first | exact .inl rfl | exact .inr rfl)) dgs_nil))))))
    (dss_one (ds_if (PW.pt (dw_and (dt_din (un1 hr) (de_var (pv 3)) (de_var (pv 1)) (by with_unfolding_all rfl)) (dw_and1 (dt_din (un1 hr) (de_var (pv 4)) (de_var (pv 1)) (by with_unfolding_all rfl))))) (dss_cons (ds_expr (de_app (de_dget (un1 hr) (de_var (pv 1)) (de_var (pv 3))) (de_var (pv 4))))
    (dss_one (ds_expr (de_app (de_dget (un1 hr) (de_var (pv 1)) (de_var (pv 4))) (de_var (pv 3)))))) dss_nil))))
    (dss_one (ds_forL own_of rfl (de_fld (de_var (pv 0)) (kn.cls 53) (kn.noat 54)) (dg_name (i := 7) sc_moment_mark.nd rfl (by first | exact .inl rfl | exact .inr rfl)) (dss_one (ds_if (dt_dnotin (un1 hr) (de_var (pv 7)) (de_fld (de_var (pv 0)) (kn.cls 53) (kn.noat 58)) (by with_unfolding_all rfl)) (dss_cons (ds_dput (un1 hr) (de_fld (de_var (pv 0)) (kn.cls 53) (kn.noat 58)) (de_var (pv 7)) (de_var (pv 7)))
    (dss_cons (ds_set (i := 8) sc_moment_mark.nd rfl (by first | exact .inl rfl | exact .inr rfl) (de_lst (hm := true) (da_cons (de_var (pv 7)) da_nil)))
    (dss_one (ds_while (n := 10000) own_of (dt_truth (de_var (pv 8))) (dss_one (ds_forL own_of rfl (de_dget (un1 hr) (de_var (pv 1)) (de_bL0 PySem.F.plainAttrs_list PySem.F.slot_list_pop PySem.F.type_list_pop ml_pop (de_var (pv 8)) )) (dg_name (i := 4) sc_moment_mark.nd rfl (by first | exact .inl rfl | exact .inr rfl)) (dss_one (ds_if (dt_dnotin (un1 hr) (de_var (pv 4)) (de_fld (de_var (pv 0)) (kn.cls 53) (kn.noat 58)) (by with_unfolding_all rfl)) (dss_cons (ds_dput (un1 hr) (de_fld (de_var (pv 0)) (kn.cls 53) (kn.noat 58)) (de_var (pv 4)) (de_var (pv 7)))
    (dss_one (ds_expr (de_app (de_var (pv 8)) (de_var (pv 4)))))) dss_nil)))))))) dss_nil)))))))
theorem blk_moment_init_25_20 : BlkOk ["self", "land", "lit", "closed", "running", "word"] (defScope s_moment_init) { kind := .function, names := [(".0", .local), ("word", .local), ("lit", .free)], isGenerator := false, isCoroutine := false, more := [] } [("word", 5)] := ⟨rfl, by decide +kernel, by decide +kernel, by decide +kernel, by decide +kernel⟩
theorem blk_moment_init_26_23 : BlkOk ["self", "land", "lit", "closed", "running", "word"] (defScope s_moment_init) { kind := .function, names := [(".0", .local), ("word", .local), ("closed", .free)], isGenerator := false, isCoroutine := false, more := [] } [("word", 5)] := ⟨rfl, by decide +kernel, by decide +kernel, by decide +kernel, by decide +kernel⟩
theorem blk_moment_init_27_24 : BlkOk ["self", "land", "lit", "closed", "running", "word"] (defScope s_moment_init) { kind := .function, names := [(".0", .local), ("word", .local), ("running", .free)], isGenerator := false, isCoroutine := false, more := [] } [("word", 5)] := ⟨rfl, by decide +kernel, by decide +kernel, by decide +kernel, by decide +kernel⟩
def b_moment_init : SM := (sSeq (sFldM "Moment" "_land" (mVar 0) (mVar 1))
    (sSeq (sFldM "Moment" "_names" (mVar 0) (mMeth "Land" "stations" (arity 1 f_land_stations) [] (mVar 1) mNil))
    (sSeq (sFldM "Moment" "_lit" (mVar 0) (mLcL false (mFld "Moment" "_names" (mVar 0)) [5] (bName 5) (mTest (mOp gIn (mVar 5) (mVar 2))) (mVar 5)))
    (sSeq (sFldM "Moment" "_closed" (mVar 0) (mLcL false (mMeth "Land" "lines" (arity 1 f_land_lines) [] (mVar 1) mNil) [5] (bName 5) (mTest (mOp gIn (mVar 5) (mVar 3))) (mVar 5)))
    (sSeq (sFldM "Moment" "_running" (mVar 0) (mLcL false (mMeth "Land" "plants" (arity 1 f_land_plants) [] (mVar 1) mNil) [5] (bName 5) (mTest (mOp gIn (mVar 5) (mVar 4))) (mVar 5)))
    (sSeq (sFldM "Moment" "_root" (mVar 0) mDNew)
    (sDrop (mMeth "Moment" "_mark" (arity 1 f_moment_mark) [] (mVar 0) mNil))))))))
def f_moment_init : FM := runF 6 b_moment_init
theorem ok_moment_init {P : Program} {w : World} {K : PySem.W.Frag} {mg : Str → Option Value} {base : Heap} (kn : Kn K mg) : Has P w K mg base 3 d_moment_init ["self", "land", "lit", "closed", "running"] f_moment_init := by
  obtain ⟨fd0, F0, O0⟩ := ok_land_stations (P := P) (w := w) (base := base) kn
  have B1 := FunD.bindsN (ps := ["self"]) F0 (fun _ _ _ _ _ _ us hl => match us, hl with | [_], _ => rfl)
  obtain ⟨fd2, F2, O2⟩ := ok_land_lines (P := P) (w := w) (base := base) kn
  have B3 := FunD.bindsN (ps := ["self"]) F2 (fun _ _ _ _ _ _ us hl => match us, hl with | [_], _ => rfl)
  obtain ⟨fd4, F4, O4⟩ := ok_land_plants (P := P) (w := w) (base := base) kn
  have B5 := FunD.bindsN (ps := ["self"]) F4 (fun _ _ _ _ _ _ us hl => match us, hl with | [_], _ => rfl)
  obtain ⟨fd6, F6, O6⟩ := ok_moment_mark (P := P) (w := w) (base := base) kn
  have B7 := FunD.bindsN (ps := ["self"]) F6 (fun _ _ _ _ _ _ us hl => match us, hl with | [_], _ => rfl)
  refine has_def (k := 2) (N := ["self", "land", "lit", "closed", "running", "word"]) (d := d_moment_init) (kn.c.def_ 25 (d := d_moment_init) rfl) sc_moment_init fun f cdv A outer s H E hr => ?_
  delta b_moment_init
  exact (dss_cons (ds_fld (de_var (pv 0)) (de_var (pv 1)) (kn.cls 53) (kn.noat 55))
    (dss_cons (ds_fld (de_var (pv 0)) (de_meth0 (c := "Land") (dds := []) (de_var (pv 1)) (kn.cls 11) (kn.meth 59) O0 (hr.mono (by omega)) B1 .nil (fun _ _ => rfl) tk_of) (kn.cls 53) (kn.noat 60))
    (dss_cons (ds_fld (de_var (pv 0)) (de_lcL (own := [("word", 5)]) (hm := false) rfl sc_moment_init.nd (de_fld (de_var (pv 0)) (kn.cls 53) (kn.noat 60)) blk_moment_init_25_20 (fun s1 H1 C1 cl1 fp1 J1 hJ1 => (dg_name (i := 5) sc_moment_init.nd rfl (by first | exact .inl rfl | exact .inr rfl) (hJ := fun σ v S h => hJ1 σ v S 5 (by simp) h))) (fun s1 H1 C1 cl1 fp1 J1 hJ1 => (dts_one (dt_cmp od_in (de_var (pv 5)) (de_var (pv 2)) (by with_unfolding_all rfl)))) (fun s1 H1 C1 cl1 fp1 J1 hJ1 => (de_var (pv 5)))) (kn.cls 53) (kn.noat 54))
    (dss_cons (ds_fld (de_var (pv 0)) (de_lcL (own := [("word", 5)]) (hm := false) rfl sc_moment_init.nd (de_meth0 (c := "Land") (dds := []) (de_var (pv 1)) (kn.cls 11) (kn.meth 50) O2 (hr.mono (by omega)) B3 .nil (fun _ _ => rfl) tk_of) blk_moment_init_26_23 (fun s2 H2 C2 cl2 fp2 J2 hJ2 => (dg_name (i := 5) sc_moment_init.nd rfl (by first | exact .inl rfl | exact .inr rfl) (hJ := fun σ v S h => hJ2 σ v S 5 (by simp) h))) (fun s2 H2 C2 cl2 fp2 J2 hJ2 => (dts_one (dt_cmp od_in (de_var (pv 5)) (de_var (pv 3)) (by with_unfolding_all rfl)))) (fun s2 H2 C2 cl2 fp2 J2 hJ2 => (de_var (pv 5)))) (kn.cls 53) (kn.noat 57))
    (dss_cons (ds_fld (de_var (pv 0)) (de_lcL (own := [("word", 5)]) (hm := false) rfl sc_moment_init.nd (de_meth0 (c := "Land") (dds := []) (de_var (pv 1)) (kn.cls 11) (kn.meth 51) O4 (hr.mono (by omega)) B5 .nil (fun _ _ => rfl) tk_of) blk_moment_init_27_24 (fun s3 H3 C3 cl3 fp3 J3 hJ3 => (dg_name (i := 5) sc_moment_init.nd rfl (by first | exact .inl rfl | exact .inr rfl) (hJ := fun σ v S h => hJ3 σ v S 5 (by simp) h))) (fun s3 H3 C3 cl3 fp3 J3 hJ3 => (dts_one (dt_cmp od_in (de_var (pv 5)) (de_var (pv 4)) (by with_unfolding_all rfl)))) (fun s3 H3 C3 cl3 fp3 J3 hJ3 => (de_var (pv 5)))) (kn.cls 53) (kn.noat 61))
    (dss_cons (ds_fld (de_var (pv 0)) de_dnew (kn.cls 53) (kn.noat 58))
    (dss_one (ds_expr (de_meth0 (c := "Moment") (dds := []) (de_var (pv 0)) (kn.cls 53) (kn.meth 62) O6 (hr.mono (by omega)) B7 .nil (fun _ _ => rfl) tk_of)))))))))
def b_moment_known : SM := (sIf (mTest (mOp gNotIn (mVar 1) (mFld "Moment" "_names" (mVar 0)))) (sRaise "UnknownName" (mCons (mC (.str "station")) mNil)) sNext)
def f_moment_known : FM := runF 2 b_moment_known
theorem ok_moment_known {P : Program} {w : World} {K : PySem.W.Frag} {mg : Str → Option Value} {base : Heap} (kn : Kn K mg) : Has P w K mg base 1 d_moment_known ["self", "station"] f_moment_known := by
  refine has_def (k := 0) (N := ["self", "station"]) (d := d_moment_known) (kn.c.def_ 26 (d := d_moment_known) rfl) sc_moment_known fun f cdv A outer s H E hr => ?_
  delta b_moment_known
  exact (dss_one (ds_if (dt_cmp od_notin (de_var (pv 1)) (de_fld (de_var (pv 0)) (kn.cls 53) (kn.noat 60)) (by with_unfolding_all rfl)) (dss_one (ds_raise (c := "UnknownName") rfl tk_of PySem.F.excBase_ValueError (kn.exc 33).1 (kn.glo 34) (kn.exc 33).2.1 (raises_own (kn.exc 33).2.2.1 (kn.exc 33).2.2.2) rfl (da_cons de_str da_nil))) dss_nil))
theorem blk_moment_island_71_15 : BlkOk ["self", "station", "root", "word"] (defScope s_moment_island) { kind := .function, names := [(".0", .local), ("word", .local), ("root", .free), ("self", .free)], isGenerator := false, isCoroutine := false, more := [] } [("word", 3)] := ⟨rfl, by decide +kernel, by decide +kernel, by decide +kernel, by decide +kernel⟩
def b_moment_island : SM := (sSeq (sDrop (mMeth "Moment" "_known" (arity 2 f_moment_known) [] (mVar 0) (mCons (mVar 1) mNil)))
    (sSeq (sIf (mTest (mDIn false (mVar 1) (mFld "Moment" "_root" (mVar 0)))) (sRet (mLst false mNil)) sNext)
    (sSeq (sAsg (mDGet (mFld "Moment" "_root" (mVar 0)) (mVar 1)) (bName 2))
    (sRet (mLcL true (mFld "Moment" "_lit" (mVar 0)) [3] (bName 3) (mTest (mOp gEq (mDGet (mFld "Moment" "_root" (mVar 0)) (mVar 3)) (mVar 2))) (mVar 3))))))
def f_moment_island : FM := runF 4 b_moment_island
theorem ok_moment_island {P : Program} {w : World} {K : PySem.W.Frag} {mg : Str → Option Value} {base : Heap} (kn : Kn K mg) : Has P w K mg base 2 d_moment_island ["self", "station"] f_moment_island := by
  obtain ⟨fd0, F0, O0⟩ := ok_moment_known (P := P) (w := w) (base := base) kn
  have B1 := FunD.bindsN (ps := ["self", "station"]) F0 (fun _ _ _ _ _ _ us hl => match us, hl with | [_, _], _ => rfl)
  refine has_def (k := 1) (N := ["self", "station", "root", "word"]) (d := d_moment_island) (kn.c.def_ 27 (d := d_moment_island) rfl) sc_moment_island fun f cdv A outer s H E hr => ?_
  delta b_moment_island
  exact (dss_cons (ds_expr (de_meth (c := "Moment") (dds := []) (de_var (pv 0)) (kn.cls 53) (kn.meth 63) O0 (hr.mono (by omega)) B1 .nil (fun _ _ => rfl) tk_of (da_cons (de_var (pv 1)) da_nil)))
    (dss_cons (ds_if (dt_dnotin (un1 hr) (de_var (pv 1)) (de_fld (de_var (pv 0)) (kn.cls 53) (kn.noat 58)) (by with_unfolding_all rfl)) (dss_one (ds_ret (de_lst (hm := false) da_nil))) dss_nil)
    (dss_cons (ds_set (i := 2) sc_moment_island.nd rfl (by first | exact .inl rfl | exact .inr rfl) (de_dget (un1 hr) (de_fld (de_var (pv 0)) (kn.cls 53) (kn.noat 58)) (de_var (pv 1))))
    (dss_one (ds_ret (de_lcL (own := [("word", 3)]) (hm := true) rfl sc_moment_island.nd (de_fld (de_var (pv 0)) (kn.cls 53) (kn.noat 54)) blk_moment_island_71_15 (fun s1 H1 C1 cl1 fp1 J1 hJ1 => (dg_name (i := 3) sc_moment_island.nd rfl (by first | exact .inl rfl | exact .inr rfl) (hJ := fun σ v S h => hJ1 σ v S 3 (by simp) h))) (fun s1 H1 C1 cl1 fp1 J1 hJ1 => (dts_one (dt_cmp (od_eq hr.units) (de_dget (un1 hr) (de_fld (de_var (pv 0)) (kn.cls 53) (kn.noat 58)) (de_var (pv 3))) (de_var (pv 2)) (nomark _)))) (fun s1 H1 C1 cl1 fp1 J1 hJ1 => (de_var (pv 3)))))))))
theorem blk_moment_islands_74_15 : BlkOk ["self", "word"] (defScope s_moment_islands) { kind := .function, names := [(".0", .local), ("word", .local), ("self", .free)], isGenerator := false, isCoroutine := false, more := [] } [("word", 1)] := ⟨rfl, by decide +kernel, by decide +kernel, by decide +kernel, by decide +kernel⟩
def b_moment_islands : SM := (sRet (mLcL true (mFld "Moment" "_lit" (mVar 0)) [1] (bName 1) (mTest (mOp gEq (mDGet (mFld "Moment" "_root" (mVar 0)) (mVar 1)) (mVar 1))) (mMeth "Moment" "island" (arity 2 f_moment_island) [] (mVar 0) (mCons (mVar 1) mNil))))
def f_moment_islands : FM := runF 2 b_moment_islands
theorem ok_moment_islands {P : Program} {w : World} {K : PySem.W.Frag} {mg : Str → Option Value} {base : Heap} (kn : Kn K mg) : Has P w K mg base 3 d_moment_islands ["self"] f_moment_islands := by
  obtain ⟨fd0, F0, O0⟩ := ok_moment_island (P := P) (w := w) (base := base) kn
  have B1 := FunD.bindsN (ps := ["self", "station"]) F0 (fun _ _ _ _ _ _ us hl => match us, hl with | [_, _], _ => rfl)
  refine has_def (k := 2) (N := ["self", "word"]) (d := d_moment_islands) (kn.c.def_ 28 (d := d_moment_islands) rfl) sc_moment_islands fun f cdv A outer s H E hr => ?_
  delta b_moment_islands
  exact (dss_one (ds_ret (de_lcL (own := [("word", 1)]) (hm := true) rfl sc_moment_islands.nd (de_fld (de_var (pv 0)) (kn.cls 53) (kn.noat 54)) blk_moment_islands_74_15 (fun s1 H1 C1 cl1 fp1 J1 hJ1 => (dg_name (i := 1) sc_moment_islands.nd rfl (by first | exact .inl rfl | exact .inr rfl) (hJ := fun σ v S h => hJ1 σ v S 1 (by simp) h))) (fun s1 H1 C1 cl1 fp1 J1 hJ1 => (dts_one (dt_cmp (od_eq hr.units) (de_dget (un1 hr) (de_fld (de_var (pv 0)) (kn.cls 53) (kn.noat 58)) (de_var (pv 1))) (de_var (pv 1)) (nomark _)))) (fun s1 H1 C1 cl1 fp1 J1 hJ1 => (de_meth (c := "Moment") (dds := []) (de_var (pv 0)) (kn.cls 53) (kn.meth 64) O0 (hr.mono (by omega)) B1 .nil (fun _ _ => rfl) takesF (da_cons (de_var (pv 1)) da_nil))))))
def b_pieces : SM := (sSeq (sAsg (mMake "Moment" (arity 5 f_moment_init) [] (mCons (mVar 0) (mCons (mMeth "Land" "stations" (arity 1 f_land_stations) [] (mVar 0) mNil) (mCons (mMeth "Land" "lines" (arity 1 f_land_lines) [] (mVar 0) mNil) (mCons (mLst false mNil) mNil))))) (bName 1))
    (sRet (mMeth "Moment" "islands" (arity 1 f_moment_islands) [] (mVar 1) mNil)))
def f_pieces : FM := runF 2 b_pieces
theorem ok_pieces {P : Program} {w : World} {K : PySem.W.Frag} {mg : Str → Option Value} {base : Heap} (kn : Kn K mg) : Has P w K mg base 5 d_pieces ["land"] f_pieces := by
  obtain ⟨fd0, F0, O0⟩ := ok_moment_init (P := P) (w := w) (base := base) kn
  have B1 := FunD.bindsN (ps := ["self", "land", "lit", "closed", "running"]) F0 (fun _ _ _ _ _ _ us hl => match us, hl with | [_, _, _, _, _], _ => rfl)
  obtain ⟨fd2, F2, O2⟩ := ok_land_lines (P := P) (w := w) (base := base) kn
  have B3 := FunD.bindsN (ps := ["self"]) F2 (fun _ _ _ _ _ _ us hl => match us, hl with | [_], _ => rfl)
  obtain ⟨fd4, F4, O4⟩ := ok_land_stations (P := P) (w := w) (base := base) kn
  have B5 := FunD.bindsN (ps := ["self"]) F4 (fun _ _ _ _ _ _ us hl => match us, hl with | [_], _ => rfl)
  obtain ⟨fd6, F6, O6⟩ := ok_moment_islands (P := P) (w := w) (base := base) kn
  have B7 := FunD.bindsN (ps := ["self"]) F6 (fun _ _ _ _ _ _ us hl => match us, hl with | [_], _ => rfl)
  refine has_def (k := 4) (N := ["land", "moment"]) (d := d_pieces) (kn.c.def_ 29 (d := d_pieces) rfl) sc_pieces fun f cdv A outer s H E hr => ?_
  delta b_pieces
  exact (dss_cons (ds_set (i := 1) sc_pieces.nd rfl (by first | exact .inl rfl | exact .inr rfl) (de_make (c := "Moment") (dds := []) (kn.mkr 66) O0 (hr.mono (by omega)) rfl (kn.glo 65) B1 .nil (fun _ _ => rfl) tk_of (da_cons (de_var (pv 0)) (da_cons (de_meth0 (c := "Land") (dds := []) (de_var (pv 0)) (kn.cls 11) (kn.meth 59) O4 (hr.mono (by omega)) B5 .nil (fun _ _ => rfl) tk_of) (da_cons (de_meth0 (c := "Land") (dds := []) (de_var (pv 0)) (kn.cls 11) (kn.meth 50) O2 (hr.mono (by omega)) B3 .nil (fun _ _ => rfl) tk_of) (da_cons (de_lst (hm := false) da_nil) da_nil))))))
    (dss_one (ds_ret (de_meth0 (c := "Moment") (dds := []) (de_var (pv 1)) (kn.cls 53) (kn.meth 67) O6 (hr.mono (by omega)) B7 .nil (fun _ _ => rfl) tk_of))))
theorem blk_law_pieces_347_15 : BlkOk ["world", "mark", "name", "line", "old", "found", "row", "other"] (defScope s_law_pieces) { kind := .function, names := [(".0", .local), ("row", .local), ("name", .free)], isGenerator := false, isCoroutine := false, more := [] } [("row", 6)] := ⟨rfl, by decide +kernel, by decide +kernel, by decide +kernel, by decide +kernel⟩
theorem blk_law_pieces_348_25 : BlkOk ["world", "mark", "name", "line", "old", "found", "row", "other"] (defScope s_law_pieces) { kind := .function, names := [(".0", .local), ("other", .local), ("mark", .free), ("name", .free)], isGenerator := false, isCoroutine := false, more := [] } [("other", 7)] := ⟨rfl, by decide +kernel, by decide +kernel, by decide +kernel, by decide +kernel⟩
def b_law_pieces : SM := (sSeq (sAsg mDNew (bName 1))
    (sSeq (sForL (mOp gIx (mVar 0) (mC (.int 0))) (bName 2) (sDPutM (mVar 1) (mVar 2) (mVar 2)))
    (sSeq (sForL (mOp gIx (mVar 0) (mC (.int 1))) (bName 3) (sSeq (sAsg (mDGet (mVar 1) (mOp gIx (mVar 3) (mC (.int 1)))) (bName 4))
    (sForL (mOp gIx (mVar 0) (mC (.int 0))) (bName 2) (sIf (mTest (mOp gEq (mDGet (mVar 1) (mVar 2)) (mVar 4))) (sDPutM (mVar 1) (mVar 2) (mDGet (mVar 1) (mOp gIx (mVar 3) (mC (.int 2))))) sNext))))
    (sSeq (sAsg (mLst true mNil) (bName 5))
    (sSeq (sForL (mOp gIx (mVar 0) (mC (.int 0))) (bName 2) (sIf (mTest (mOp gEq (mCall (g1 gLen) (mCons (mLcL false (mVar 5) [6] (bName 6) (mTest (mOp gIn (mVar 2) (mVar 6))) (mVar 6)) mNil)) (mC (.int 0)))) (sDrop (mApp (mVar 5) (mLcL false (mOp gIx (mVar 0) (mC (.int 0))) [7] (bName 7) (mTest (mOp gEq (mDGet (mVar 1) (mVar 7)) (mDGet (mVar 1) (mVar 2)))) (mVar 7)))) sNext))
    (sRet (mVar 5)))))))
def f_law_pieces : FM := runF 8 b_law_pieces
theorem ok_law_pieces {P : Program} {w : World} {K : PySem.W.Frag} {mg : Str → Option Value} {base : Heap} (kn : Kn K mg) : Has P w K mg base 1 d_law_pieces ["world"] f_law_pieces := by
  refine has_def (k := 0) (N := ["world", "mark", "name", "line", "old", "found", "row", "other"]) (d := d_law_pieces) (kn.c.def_ 30 (d := d_law_pieces) rfl) sc_law_pieces fun f cdv A outer s H E hr => ?_
  delta b_law_pieces
  exact (dss_cons (ds_set (i := 1) sc_law_pieces.nd rfl (by first | exact .inl rfl | exact .inr rfl) de_dnew)
    (dss_cons (ds_forL own_of rfl (de_ix (de_var (pv 0)) de_int (fun _ _ => rfl)) (dg_name (i := 2) sc_law_pieces.nd rfl (by first | exact .inl rfl | exact .inr rfl)) (dss_one (ds_dput (un1 hr) (de_var (pv 1)) (de_var (pv 2)) (de_var (pv 2)))))
    (dss_cons (ds_forL own_of rfl (de_ix (de_var (pv 0)) de_int (fun _ _ => rfl)) (dg_name (i := 3) sc_law_pieces.nd rfl (by first | exact .inl rfl | exact .inr rfl)) (dss_cons (ds_set (i := 4) sc_law_pieces.nd rfl (by first | exact .inl rfl | exact .inr rfl) (de_dget (un1 hr) (de_var (pv 1)) (de_ix (de_var (pv 3)) de_int (fun _ _ => rfl))))
    (dss_one (ds_forL own_of rfl (de_ix (de_var (pv 0)) de_int (fun _ _ => rfl)) (dg_name (i := 2) sc_law_pieces.nd rfl (by first | exact .inl rfl | exact .inr rfl)) (dss_one (ds_if (dt_cmp (od_eq hr.units) (de_dget (un1 hr) (de_var (pv 1)) (de_var (pv 2))) (de_var (pv 4)) (nomark _)) (dss_one (ds_dput (un1 hr) (de_var (pv 1)) (de_var (pv 2)) (de_dget (un1 hr) (de_var (pv 1)) (de_ix (de_var (pv 3)) de_int (fun _ _ => rfl))))) dss_nil))))))
    (dss_cons (ds_set (i := 5) sc_law_pieces.nd rfl (by first | exact .inl rfl | exact .inr rfl) (de_lst (hm := true) da_nil))
    (dss_cons (ds_forL own_of rfl (de_ix (de_var (pv 0)) de_int (fun _ _ => rfl)) (dg_name (i := 2) sc_law_pieces.nd rfl (by first | exact .inl rfl | exact .inr rfl)) (dss_one (ds_if (dt_cmp (od_eq hr.units) (de_callB cd_len rfl (kn.free 1) (by decide +kernel) (da_cons (de_lcL (own := [("row", 6)]) (hm := false) rfl sc_law_pieces.nd (de_var (pv 5)) blk_law_pieces_347_15 (fun s1 H1 C1 cl1 fp1 J1 hJ1 => (dg_name (i := 6) sc_law_pieces.nd rfl (by first | exact .inl rfl | exact .inr rfl) (hJ := fun σ v S h => hJ1 σ v S 6 (by simp) h))) (fun s1 H1 C1 cl1 fp1 J1 hJ1 => (dts_one (dt_cmp od_in (de_var (pv 2)) (de_var (pv 6)) (by with_unfolding_all rfl)))) (fun s1 H1 C1 cl1 fp1 J1 hJ1 => (de_var (pv 6)))) da_nil)) de_int (nomark _)) (dss_one (ds_expr (de_app (de_var (pv 5)) (de_lcL (own := [("other", 7)]) (hm := false) rfl sc_law_pieces.nd (de_ix (de_var (pv 0)) de_int (fun _ _ => rfl)) blk_law_pieces_348_25 (fun s2 H2 C2 cl2 fp2 J2 hJ2 => (dg_name (i := 7) sc_law_pieces.nd rfl (by first | exact .inl rfl | exact .inr rfl) (hJ := fun σ v S h => hJ2 σ v S 7 (by simp) h))) (fun s2 H2 C2 cl2 fp2 J2 hJ2 => (dts_one (dt_cmp (od_eq hr.units) (de_dget (un1 hr) (de_var (pv 1)) (de_var (pv 7))) (de_dget (un1 hr) (de_var (pv 1)) (de_var (pv 2))) (nomark _)))) (fun s2 H2 C2 cl2 fp2 J2 hJ2 => (de_var (pv 7))))))) dss_nil)))
    (dss_one (ds_ret (de_var (pv 5)))))))))
theorem blk_checked_257_28 : BlkOk ["land", "stations", "word"] (defScope s_checked) { kind := .function, names := [(".0", .local), ("word", .local)], isGenerator := false, isCoroutine := false, more := [] } [("word", 2)] := ⟨rfl, by decide +kernel, by decide +kernel, by decide +kernel, by decide +kernel⟩
def b_checked : SM := (sSeq (sIf (mTest (mOp gNe (mCall (g1 gLen) (mCons (mVar 1) mNil)) (mLenSet (mVar 1) [2] (bName 2) mYes (mVar 2)))) (sRaise "InvalidName" (mCons (mC (.str "a station twice")) mNil)) sNext)
    (sForL (mVar 1) (bName 2) (sIf (mTest (mOp gNe (mMeth "Land" "kind" (arity 2 f_land_kind) [] (mVar 0) (mCons (mVar 2) mNil)) (mC (.str "station")))) (sRaise "UnknownName" (mCons (mC (.str "station")) mNil)) sNext)))
def f_checked : FM := runF 3 b_checked
theorem ok_checked {P : Program} {w : World} {K : PySem.W.Frag} {mg : Str → Option Value} {base : Heap} (kn : Kn K mg) : Has P w K mg base 2 d_checked ["land", "stations"] f_checked := by
  obtain ⟨fd0, F0, O0⟩ := ok_land_kind (P := P) (w := w) (base := base) kn
  have B1 := FunD.bindsN (ps := ["self", "word"]) F0 (fun _ _ _ _ _ _ us hl => match us, hl with | [_, _], _ => rfl)
  refine has_def (k := 1) (N := ["land", "stations", "word"]) (d := d_checked) (kn.c.def_ 31 (d := d_checked) rfl) sc_checked fun f cdv A outer s H E hr => ?_
  delta b_checked
  exact (dss_cons (ds_if (dt_cmp (od_ne hr.units) (de_callB cd_len rfl (kn.free 1) (by decide +kernel) (da_cons (de_var (pv 1)) da_nil)) (de_lenSet (own := [("word", 2)]) rfl sc_checked.nd rfl (kn.free 1) (by decide +kernel) (de_var (pv 1)) blk_checked_257_28 (fun s1 H1 C1 cl1 fp1 J1 hJ1 => (dg_name (i := 2) sc_checked.nd rfl (by first | exact .inl rfl | exact .inr rfl) (hJ := fun σ v S h => hJ1 σ v S 2 (by simp) h))) (fun s1 H1 C1 cl1 fp1 J1 hJ1 => dts_nil) (fun s1 H1 C1 cl1 fp1 J1 hJ1 => (de_var (pv 2)))) (nomark _)) (dss_one (ds_raise (c := "InvalidName") rfl tk_of PySem.F.excBase_ValueError (kn.exc 21).1 (kn.glo 22) (kn.exc 21).2.1 (raises_own (kn.exc 21).2.2.1 (kn.exc 21).2.2.2) rfl (da_cons de_str da_nil))) dss_nil)
    (dss_one (ds_forL own_of rfl (de_var (pv 1)) (dg_name (i := 2) sc_checked.nd rfl (by first | exact .inl rfl | exact .inr rfl)) (dss_one (ds_if (dt_cmp (od_ne hr.units) (de_meth (c := "Land") (dds := []) (de_var (pv 0)) (kn.cls 11) (kn.meth 24) O0 (hr.mono (by omega)) B1 .nil (fun _ _ => rfl) tk_of (da_cons (de_var (pv 2)) da_nil)) de_str (nomark _)) (dss_one (ds_raise (c := "UnknownName") rfl tk_of PySem.F.excBase_ValueError (kn.exc 33).1 (kn.glo 34) (kn.exc 33).2.1 (raises_own (kn.exc 33).2.2.1 (kn.exc 33).2.2.2) rfl (da_cons de_str da_nil))) dss_nil)))))
def b_ties : SM := (sSeq (sDrop (mFn (arity 2 f_checked) [] (mCons (mVar 0) (mCons (mVar 1) mNil))))
    (sSeq (sAsg (mLst true mNil) (bName 2))
    (sSeq (sForL (mMeth "Land" "lines" (arity 1 f_land_lines) [] (mVar 0) mNil) (bName 3) (sSeq (sAsg (mMeth "Land" "line" (arity 2 f_land_line) [] (mVar 0) (mCons (mVar 3) mNil)) (bTup 4 (bCons (bName 4) (bCons (bName 5) (bCons (bName 6) (bCons (bName 7) bNil))))))
    (sIf (mTest (mOp gNe (mOp gIn (mVar 4) (mVar 1)) (mOp gIn (mVar 5) (mVar 1)))) (sDrop (mApp (mVar 2) (mVar 3))) sNext)))
    (sRet (mVar 2)))))
def f_ties : FM := runF 8 b_ties
theorem ok_ties {P : Program} {w : World} {K : PySem.W.Frag} {mg : Str → Option Value} {base : Heap} (kn : Kn K mg) : Has P w K mg base 3 d_ties ["land", "stations"] f_ties := by
  obtain ⟨fd0, F0, O0⟩ := ok_checked (P := P) (w := w) (base := base) kn
  have B1 := FunD.bindsN (ps := ["land", "stations"]) F0 (fun _ _ _ _ _ _ us hl => match us, hl with | [_, _], _ => rfl)
  obtain ⟨fd2, F2, O2⟩ := ok_land_line (P := P) (w := w) (base := base) kn
  have B3 := FunD.bindsN (ps := ["self", "word"]) F2 (fun _ _ _ _ _ _ us hl => match us, hl with | [_, _], _ => rfl)
  obtain ⟨fd4, F4, O4⟩ := ok_land_lines (P := P) (w := w) (base := base) kn
  have B5 := FunD.bindsN (ps := ["self"]) F4 (fun _ _ _ _ _ _ us hl => match us, hl with | [_], _ => rfl)
  refine has_def (k := 2) (N := ["land", "stations", "found", "word", "one", "other", "need", "minutes"]) (d := d_ties) (kn.c.def_ 32 (d := d_ties) rfl) sc_ties fun f cdv A outer s H E hr => ?_
  delta b_ties
  exact (dss_cons (ds_expr (de_call (dds := []) O0 (hr.mono (by omega)) rfl (kn.glo 68) F0.kp B1 .nil (fun _ _ => rfl) tk_of (da_cons (de_var (pv 0)) (da_cons (de_var (pv 1)) da_nil))))
    (dss_cons (ds_set (i := 2) sc_ties.nd rfl (by first | exact .inl rfl | exact .inr rfl) (de_lst (hm := true) da_nil))
    (dss_cons (ds_forL own_of rfl (de_meth0 (c := "Land") (dds := []) (de_var (pv 0)) (kn.cls 11) (kn.meth 50) O4 (hr.mono (by omega)) B5 .nil (fun _ _ => rfl) tk_of) (dg_name (i := 3) sc_ties.nd rfl (by first | exact .inl rfl | exact .inr rfl)) (dss_cons (ds_asg (de_meth (c := "Land") (dds := []) (de_var (pv 0)) (kn.cls 11) (kn.meth 56) O2 (hr.mono (by omega)) B3 .nil (fun _ _ => rfl) tk_of (da_cons (de_var (pv 3)) da_nil)) (dg_tup rfl (dgs_cons (dg_name (i := 4) sc_ties.nd rfl (by first | exact .inl rfl | exact .inr rfl)) (dgs_cons (dg_name (i := 5) sc_ties.nd rfl (by first | exact .inl rfl | exact .inr rfl)) (dgs_cons (dg_name (i := 6) sc_ties.nd rfl (by first | exact .inl rfl | exact .inr rfl)) (dgs_cons (dg_name (i := 7) sc_ties.nd rfl (by first | exact .inl rfl | exact .inr rfl)) dgs_nil))))))
    (dss_one (ds_if (dt_cmp (od_ne hr.units) (de_cmp od_in (de_var (pv 4)) (de_var (pv 1)) (by with_unfolding_all rfl)) (de_cmp od_in (de_var (pv 5)) (de_var (pv 1)) (by with_unfolding_all rfl)) (nomark _)) (dss_one (ds_expr (de_app (de_var (pv 2)) (de_var (pv 3))))) dss_nil))))
    (dss_one (ds_ret (de_var (pv 2)))))))
def b_sector : SM := (sSeq (sDrop (mFn (arity 2 f_checked) [] (mCons (mVar 0) (mCons (mVar 1) mNil))))
    (sSeq (sAsg (mMake "Land" (arity 1 f_land_init) [] mNil) (bName 2))
    (sSeq (sForL (mMeth "Land" "rows" (arity 1 f_land_rows) [] (mVar 0) mNil) (bTup 3 (bCons (bName 3) (bCons (bName 4) (bCons (bName 5) bNil)))) (sIf (mAnd (mTest (mOp gEq (mVar 3) (mC (.str "station")))) (mTest (mOp gIn (mVar 4) (mVar 1)))) (sDrop (mMeth "Land" "add_station" (arity 2 f_land_add_station) [] (mVar 2) (mCons (mVar 4) mNil))) (sIf (mAnd (mTest (mOp gEq (mVar 3) (mC (.str "line")))) (mAnd (mTest (mOp gIn (mOp gIx (mVar 5) (mC (.int 0))) (mVar 1))) (mTest (mOp gIn (mOp gIx (mVar 5) (mC (.int 1))) (mVar 1))))) (sDrop (mMeth "Land" "add_line" (arity 6 f_land_add_line) [] (mVar 2) (mCons (mVar 4) (mCons (mOp gIx (mVar 5) (mC (.int 0))) (mCons (mOp gIx (mVar 5) (mC (.int 1))) (mCons (mOp gIx (mVar 5) (mC (.int 2))) (mCons (mOp gIx (mVar 5) (mC (.int 3))) mNil))))))) (sIf (mAnd (mTest (mOp gEq (mVar 3) (mC (.str "self")))) (mTest (mOp gIn (mOp gIx (mVar 5) (mC (.int 0))) (mVar 1)))) (sDrop (mMeth "Land" "add_self" (arity 5 f_land_add_self) [] (mVar 2) (mCons (mVar 4) (mCons (mOp gIx (mVar 5) (mC (.int 0))) (mCons (mOp gIx (mVar 5) (mC (.int 1))) (mCons (mOp gIx (mVar 5) (mC (.int 2))) mNil)))))) (sIf (mAnd (mTest (mOp gEq (mVar 3) (mC (.str "plant")))) (mTest (mOp gIn (mOp gIx (mVar 5) (mC (.int 0))) (mVar 1)))) (sDrop (mMeth "Land" "add_plant" (arity 9 f_land_add_plant) [] (mVar 2) (mCons (mVar 4) (mCons (mOp gIx (mVar 5) (mC (.int 0))) (mCons (mOp gIx (mVar 5) (mC (.int 1))) (mCons (mOp gIx (mVar 5) (mC (.int 2))) (mCons (mOp gIx (mVar 5) (mC (.int 3))) (mCons (mOp gIx (mVar 5) (mC (.int 4))) (mCons (mOp gIx (mVar 5) (mC (.int 5))) (mCons (mOp gIx (mVar 5) (mC (.int 6))) mNil)))))))))) sNext)))))
    (sRet (mVar 2)))))
def f_sector : FM := runF 6 b_sector
theorem ok_sector {P : Program} {w : World} {K : PySem.W.Frag} {mg : Str → Option Value} {base : Heap} (kn : Kn K mg) : Has P w K mg base 5 d_sector ["land", "stations"] f_sector := by
  obtain ⟨fd0, F0, O0⟩ := ok_checked (P := P) (w := w) (base := base) kn
  have B1 := FunD.bindsN (ps := ["land", "stations"]) F0 (fun _ _ _ _ _ _ us hl => match us, hl with | [_, _], _ => rfl)
  obtain ⟨fd2, F2, O2⟩ := ok_land_init (P := P) (w := w) (base := base) kn
  have B3 := FunD.bindsN (ps := ["self"]) F2 (fun _ _ _ _ _ _ us hl => match us, hl with | [_], _ => rfl)
  obtain ⟨fd4, F4, O4⟩ := ok_land_add_station (P := P) (w := w) (base := base) kn
  have B5 := FunD.bindsN (ps := ["self", "word"]) F4 (fun _ _ _ _ _ _ us hl => match us, hl with | [_, _], _ => rfl)
  obtain ⟨fd6, F6, O6⟩ := ok_land_add_line (P := P) (w := w) (base := base) kn
  have B7 := FunD.bindsN (ps := ["self", "word", "one", "other", "need", "minutes"]) F6 (fun _ _ _ _ _ _ us hl => match us, hl with | [_, _, _, _, _, _], _ => rfl)
  obtain ⟨fd8, F8, O8⟩ := ok_land_add_self (P := P) (w := w) (base := base) kn
  have B9 := FunD.bindsN (ps := ["self", "word", "station", "gives", "minutes"]) F8 (fun _ _ _ _ _ _ us hl => match us, hl with | [_, _, _, _, _], _ => rfl)
  obtain ⟨fd10, F10, O10⟩ := ok_land_add_plant (P := P) (w := w) (base := base) kn
  have B11 := FunD.bindsN (ps := ["self", "word", "station", "need", "gives", "quick", "hot", "cool", "slow"]) F10 (fun _ _ _ _ _ _ us hl => match us, hl with | [_, _, _, _, _, _, _, _, _], _ => rfl)
  obtain ⟨fd12, F12, O12⟩ := ok_land_rows (P := P) (w := w) (base := base) kn
  have B13 := FunD.bindsN (ps := ["self"]) F12 (fun _ _ _ _ _ _ us hl => match us, hl with | [_], _ => rfl)
  refine has_def (k := 4) (N := ["land", "stations", "found", "kind", "word", "parts"]) (d := d_sector) (kn.c.def_ 33 (d := d_sector) rfl) sc_sector fun f cdv A outer s H E hr => ?_
  delta b_sector
  exact (dss_cons (ds_expr (de_call (dds := []) O0 (hr.mono (by omega)) rfl (kn.glo 68) F0.kp B1 .nil (fun _ _ => rfl) tk_of (da_cons (de_var (pv 0)) (da_cons (de_var (pv 1)) da_nil))))
    (dss_cons (ds_set (i := 2) sc_sector.nd rfl (by first | exact .inl rfl | exact .inr rfl) (de_make0 (c := "Land") (dds := []) (kn.mkr 45) O2 (hr.mono (by omega)) rfl (kn.glo 44) B3 .nil (fun _ _ => rfl) tk_of))
    (dss_cons (ds_forL own_of rfl (de_meth0 (c := "Land") (dds := []) (de_var (pv 0)) (kn.cls 11) (kn.meth 69) O12 (hr.mono (by omega)) B13 .nil (fun _ _ => rfl) tk_of) (dg_tup rfl (dgs_cons (dg_name (i := 3) sc_sector.nd rfl (by first | exact .inl rfl | exact .inr rfl)) (dgs_cons (dg_name (i := 4) sc_sector.nd rfl (by first | exact .inl rfl | exact .inr rfl)) (dgs_cons (dg_name (i := 5) sc_sector.nd rfl (by first | exact .inl rfl | exact .inr rfl)) dgs_nil)))) (dss_one (ds_if (PW.pt (dw_and (dt_cmp (od_eq hr.units) (de_var (pv 3)) de_str (nomark _)) (dw_and1 (dt_cmp od_in (de_var (pv 4)) (de_var (pv 1)) (by with_unfolding_all rfl))))) (dss_one (ds_expr (de_meth (c := "Land") (dds := []) (de_var (pv 2)) (kn.cls 11) (kn.meth 46) O4 (hr.mono (by omega)) B5 .nil (fun _ _ => rfl) tk_of (da_cons (de_var (pv 4)) da_nil)))) (dss_one (ds_if (PW.pt (dw_and (dt_cmp (od_eq hr.units) (de_var (pv 3)) de_str (nomark _)) (dw_and (dt_cmp od_in (de_ix (de_var (pv 5)) de_int (fun _ _ => rfl)) (de_var (pv 1)) (by with_unfolding_all rfl)) (dw_and1 (dt_cmp od_in (de_ix (de_var (pv 5)) de_int (fun _ _ => rfl)) (de_var (pv 1)) (by with_unfolding_all rfl)))))) (dss_one (ds_expr (de_meth (c := "Land") (dds := []) (de_var (pv 2)) (kn.cls 11) (kn.meth 47) O6 (hr.mono (by omega)) B7 .nil (fun _ _ => rfl) tk_of (da_cons (de_var (pv 4)) (da_cons (de_ix (de_var (pv 5)) de_int (fun _ _ => rfl)) (da_cons (de_ix (de_var (pv 5)) de_int (fun _ _ => rfl)) (da_cons (de_ix (de_var (pv 5)) de_int (fun _ _ => rfl)) (da_cons (de_ix (de_var (pv 5)) de_int (fun _ _ => rfl)) da_nil)))))))) (dss_one (ds_if (PW.pt (dw_and (dt_cmp (od_eq hr.units) (de_var (pv 3)) de_str (nomark _)) (dw_and1 (dt_cmp od_in (de_ix (de_var (pv 5)) de_int (fun _ _ => rfl)) (de_var (pv 1)) (by with_unfolding_all rfl))))) (dss_one (ds_expr (de_meth (c := "Land") (dds := []) (de_var (pv 2)) (kn.cls 11) (kn.meth 48) O8 (hr.mono (by omega)) B9 .nil (fun _ _ => rfl) tk_of (da_cons (de_var (pv 4)) (da_cons (de_ix (de_var (pv 5)) de_int (fun _ _ => rfl)) (da_cons (de_ix (de_var (pv 5)) de_int (fun _ _ => rfl)) (da_cons (de_ix (de_var (pv 5)) de_int (fun _ _ => rfl)) da_nil))))))) (dss_one (ds_if (PW.pt (dw_and (dt_cmp (od_eq hr.units) (de_var (pv 3)) de_str (nomark _)) (dw_and1 (dt_cmp od_in (de_ix (de_var (pv 5)) de_int (fun _ _ => rfl)) (de_var (pv 1)) (by with_unfolding_all rfl))))) (dss_one (ds_expr (de_meth (c := "Land") (dds := []) (de_var (pv 2)) (kn.cls 11) (kn.meth 49) O10 (hr.mono (by omega)) B11 .nil (fun _ _ => rfl) tk_of (da_cons (de_var (pv 4)) (da_cons (de_ix (de_var (pv 5)) de_int (fun _ _ => rfl)) (da_cons (de_ix (de_var (pv 5)) de_int (fun _ _ => rfl)) (da_cons (de_ix (de_var (pv 5)) de_int (fun _ _ => rfl)) (da_cons (de_ix (de_var (pv 5)) de_int (fun _ _ => rfl)) (da_cons (de_ix (de_var (pv 5)) de_int (fun _ _ => rfl)) (da_cons (de_ix (de_var (pv 5)) de_int (fun _ _ => rfl)) (da_cons (de_ix (de_var (pv 5)) de_int (fun _ _ => rfl)) da_nil))))))))))) dss_nil)))))))))
    (dss_one (ds_ret (de_var (pv 2)))))))
def sub_law_raised_353_0 (nm : Str) : Option Bool := if nm = "InvalidName" then some true else if nm = "InvalidNumber" then some false else if nm = "DuplicateName" then some false else if nm = "UnknownName" then some false else if nm = "SameStation" then some false else if nm = "TooMany" then some false else none
theorem subok_law_raised_353_0 {K : PySem.W.Frag} {mg : Str → Option Value} (kn : Kn K mg) (nm : Str) (b : Bool) (z : sub_law_raised_353_0 nm = some b) : PySem.W.exmOne K (.ref (He.ga K nm)) (.ref (He.ga K "InvalidName")) = some b := by
  unfold sub_law_raised_353_0 at z
  split at z
  · rename_i e; cases z; rw [e]; exact kn.exm 72
  split at z
  · rename_i e; cases z; rw [e]; exact kn.exm 73
  split at z
  · rename_i e; cases z; rw [e]; exact kn.exm 74
  split at z
  · rename_i e; cases z; rw [e]; exact kn.exm 75
  split at z
  · rename_i e; cases z; rw [e]; exact kn.exm 76
  split at z
  · rename_i e; cases z; rw [e]; exact kn.exm 77
  cases z
def sub_law_raised_353_1 (nm : Str) : Option Bool := if nm = "InvalidName" then some false else if nm = "InvalidNumber" then some false else if nm = "DuplicateName" then some false else if nm = "UnknownName" then some true else if nm = "SameStation" then some false else if nm = "TooMany" then some false else none
theorem subok_law_raised_353_1 {K : PySem.W.Frag} {mg : Str → Option Value} (kn : Kn K mg) (nm : Str) (b : Bool) (z : sub_law_raised_353_1 nm = some b) : PySem.W.exmOne K (.ref (He.ga K nm)) (.ref (He.ga K "UnknownName")) = some b := by
  unfold sub_law_raised_353_1 at z
  split at z
  · rename_i e; cases z; rw [e]; exact kn.exm 78
  split at z
  · rename_i e; cases z; rw [e]; exact kn.exm 79
  split at z
  · rename_i e; cases z; rw [e]; exact kn.exm 80
  split at z
  · rename_i e; cases z; rw [e]; exact kn.exm 81
  split at z
  · rename_i e; cases z; rw [e]; exact kn.exm 82
  split at z
  · rename_i e; cases z; rw [e]; exact kn.exm 83
  cases z
def b_law_raised : SM := (sSeq (sAsg (mLst true mNil) (bName 2))
    (sSeq (sForR1 (mCons (mC (.int 2)) mNil) (bName 3) (sTryM [⟨sub_law_raised_353_0, (fun nm => if nm = "InvalidName" then (sDrop (mApp (mVar 2) (mC (.str "twice")))) else fun _ _ => .bad)⟩, ⟨sub_law_raised_353_1, (fun nm => if nm = "UnknownName" then (sDrop (mApp (mVar 2) (mC (.str "unknown")))) else fun _ _ => .bad)⟩] (sIf (mTest (mOp gEq (mVar 3) (mC (.int 0)))) (sDrop (mFn (arity 2 f_sector) [] (mCons (mVar 0) (mCons (mVar 1) mNil)))) (sDrop (mFn (arity 2 f_ties) [] (mCons (mVar 0) (mCons (mVar 1) mNil)))))))
    (sRet (mVar 2))))
def f_law_raised : FM := runF 4 b_law_raised
theorem ok_law_raised {P : Program} {w : World} {K : PySem.W.Frag} {mg : Str → Option Value} {base : Heap} (kn : Kn K mg) : Has P w K mg base 6 d_law_raised ["land", "names"] f_law_raised := by
  obtain ⟨fd0, F0, O0⟩ := ok_sector (P := P) (w := w) (base := base) kn
  have B1 := FunD.bindsN (ps := ["land", "stations"]) F0 (fun _ _ _ _ _ _ us hl => match us, hl with | [_, _], _ => rfl)
  obtain ⟨fd2, F2, O2⟩ := ok_ties (P := P) (w := w) (base := base) kn
  have B3 := FunD.bindsN (ps := ["land", "stations"]) F2 (fun _ _ _ _ _ _ us hl => match us, hl with | [_, _], _ => rfl)
  refine has_def (k := 5) (N := ["land", "names", "found", "k"]) (d := d_law_raised) (kn.c.def_ 34 (d := d_law_raised) rfl) sc_law_raised fun f cdv A outer s H E hr => ?_
  delta b_law_raised
  exact (dss_cons (ds_set (i := 2) sc_law_raised.nd rfl (by first | exact .inl rfl | exact .inr rfl) (de_lst (hm := true) da_nil))
    (dss_cons (ds_forR1 own_of rfl rfl (kn.free 9) (da_cons de_int da_nil) (dg_name (i := 3) sc_law_raised.nd rfl (by first | exact .inl rfl | exact .inr rfl)) (dss_one (ds_try_many rfl rfl tk_of (fun W1 pn1 xe1 tk1 own1 => (dss_one (ds_if (dt_cmp (od_eq hr.units) (de_var (pv 3)) de_int (nomark _)) (dss_one (ds_expr (de_call (dds := []) O0 (hr.mono (by omega)) rfl (kn.glo 70) F0.kp B1 .nil (fun _ _ => rfl) tk1 (da_cons (de_var (pv 0)) (da_cons (de_var (pv 1)) da_nil))))) (dss_one (ds_expr (de_call (dds := []) O2 (hr.mono (by omega)) rfl (kn.glo 71) F2.kp B3 .nil (fun _ _ => rfl) tk1 (da_cons (de_var (pv 0)) (da_cons (de_var (pv 1)) da_nil)))))))) (.cons (cv := (.ref (He.ga K "InvalidName"))) (⟨rfl, by decide, .inl (kn.glo 22)⟩) (subok_law_raised_353_0 kn) (fun nm a oe pn hc hz hf => by
      replace hc : sub_law_raised_353_0 nm = some true := hc
      unfold sub_law_raised_353_0 at hc
      split at hc
      · rename_i e; subst e; show PSs _ _ (tS _ _ _ _ (sDrop (mApp (mVar 2) (mC (.str "twice"))))); exact (dss_one (ds_expr (de_app (de_var (pv 2)) de_str)))
      split at hc
      · cases hc
      split at hc
      · cases hc
      split at hc
      · cases hc
      split at hc
      · cases hc
      split at hc
      · cases hc
      cases hc) (.cons (cv := (.ref (He.ga K "UnknownName"))) (⟨rfl, by decide, .inl (kn.glo 34)⟩) (subok_law_raised_353_1 kn) (fun nm a oe pn hc hz hf => by
      replace hc : sub_law_raised_353_1 nm = some true := hc
      unfold sub_law_raised_353_1 at hc
      split at hc
      · cases hc
      split at hc
      · cases hc
      split at hc
      · cases hc
      split at hc
      · rename_i e; subst e; show PSs _ _ (tS _ _ _ _ (sDrop (mApp (mVar 2) (mC (.str "unknown"))))); exact (dss_one (ds_expr (de_app (de_var (pv 2)) de_str)))
      split at hc
      · cases hc
      split at hc
      · cases hc
      cases hc) .nil)))))
    (dss_one (ds_ret (de_var (pv 2))))))
theorem blk_law_374_16 : BlkOk ["script", "draw", "world", "land", "kept", "told", "row", "k", "names", "less", "handed", "name", "line", "plant"] (defScope s_law) { kind := .function, names := [(".0", .local), ("name", .local), ("_law_take", .globalImplicit), ("draw", .free)], isGenerator := false, isCoroutine := false, more := [] } [("name", 11)] := ⟨rfl, by decide +kernel, by decide +kernel, by decide +kernel, by decide +kernel⟩
theorem blk_law_375_132 : BlkOk ["script", "draw", "world", "land", "kept", "told", "row", "k", "names", "less", "handed", "name", "line", "plant"] (defScope s_law) { kind := .function, names := [(".0", .local), ("plant", .local), ("names", .free)], isGenerator := false, isCoroutine := false, more := [] } [("plant", 13)] := ⟨rfl, by decide +kernel, by decide +kernel, by decide +kernel, by decide +kernel⟩
theorem blk_law_375_62 : BlkOk ["script", "draw", "world", "land", "kept", "told", "row", "k", "names", "less", "handed", "name", "line", "plant"] (defScope s_law) { kind := .function, names := [(".0", .local), ("line", .local), ("names", .free)], isGenerator := false, isCoroutine := false, more := [] } [("line", 12)] := ⟨rfl, by decide +kernel, by decide +kernel, by decide +kernel, by decide +kernel⟩
theorem blk_law_375_16 : BlkOk ["script", "draw", "world", "land", "kept", "told", "row", "k", "names", "less", "handed", "name", "line", "plant"] (defScope s_law) { kind := .function, names := [(".0", .local), ("name", .local), ("names", .free)], isGenerator := false, isCoroutine := false, more := [] } [("name", 11)] := ⟨rfl, by decide +kernel, by decide +kernel, by decide +kernel, by decide +kernel⟩
theorem blk_law_381_38 : BlkOk ["script", "draw", "world", "land", "kept", "told", "row", "k", "names", "less", "handed", "name", "line", "plant"] (defScope s_law) { kind := .function, names := [(".0", .local), ("line", .local), ("names", .free)], isGenerator := false, isCoroutine := false, more := [] } [("line", 12)] := ⟨rfl, by decide +kernel, by decide +kernel, by decide +kernel, by decide +kernel⟩
def b_law : SM := (sSeq (sAsg (mLst true (mCons (mVar 0) (mCons (mC (.int 0)) (mCons (mC (.int 0)) mNil)))) (bName 1))
    (sSeq (sAsg (mFn (arity 1 f_law_world) [] (mCons (mVar 1) mNil)) (bName 2))
    (sSeq (sAsg (mFn (arity 1 f_law_build) [] (mCons (mVar 2) mNil)) (bName 3))
    (sSeq (sAsg (mMeth "Land" "rows" (arity 1 f_land_rows) [] (mVar 3) mNil) (bName 4))
    (sSeq (sAsg (mFn (arity 1 f_pieces) [] (mCons (mVar 3) mNil)) (bName 5))
    (sSeq (sIf (mTest (mOp gNe (mVar 5) (mFn (arity 1 f_law_pieces) [] (mCons (mVar 2) mNil)))) (sRet (mC (.bl false))) sNext)
    (sSeq (sForL (mVar 5) (bName 6) (sDrop (mApp (mVar 6) (mC (.str "zed")))))
    (sSeq (sForR1 (mCons (mC (.int 3)) mNil) (bName 7) (sSeq (sAsg (mLcL false (mLRev false (mOp gIx (mVar 2) (mC (.int 0)))) [11] (bName 11) (mTest (mOp gEq (mFn (arity 2 f_law_take) [] (mCons (mVar 1) (mCons (mC (.int 2)) mNil))) (mC (.int 0)))) (mVar 11)) (bName 8))
    (sSeq (sAsg (mLst false (mCons (mLcL false (mOp gIx (mVar 2) (mC (.int 0))) [11] (bName 11) (mTest (mOp gIn (mVar 11) (mVar 8))) (mVar 11)) (mCons (mLcL false (mOp gIx (mVar 2) (mC (.int 1))) [12] (bName 12) (mAnd (mTest (mOp gIn (mOp gIx (mVar 12) (mC (.int 1))) (mVar 8))) (mTest (mOp gIn (mOp gIx (mVar 12) (mC (.int 2))) (mVar 8)))) (mVar 12)) (mCons (mLcL false (mOp gIx (mVar 2) (mC (.int 2))) [13] (bName 13) (mTest (mOp gIn (mOp gIx (mVar 13) (mC (.int 1))) (mVar 8))) (mVar 13)) mNil)))) (bName 9))
    (sSeq (sAsg (mCall (g1 (gList false)) (mCons (mVar 8) mNil)) (bName 10))
    (sSeq (sIf (mTest (mOp gNe (mMeth "Land" "rows" (arity 1 f_land_rows) [] (mFn (arity 2 f_sector) [] (mCons (mVar 3) (mCons (mVar 10) mNil))) mNil) (mMeth "Land" "rows" (arity 1 f_land_rows) [] (mFn (arity 1 f_law_build) [] (mCons (mVar 9) mNil)) mNil))) (sRet (mC (.bl false))) sNext)
    (sSeq (sIf (mTest (mOp gNe (mVar 10) (mVar 8))) (sRet (mC (.bl false))) sNext)
    (sSeq (sIf (mTest (mOp gNe (mFn (arity 2 f_ties) [] (mCons (mVar 3) (mCons (mCall (g1 (gList false)) (mCons (mVar 8) mNil)) mNil))) (mLcL false (mOp gIx (mVar 2) (mC (.int 1))) [12] (bName 12) (mTest (mOp gNe (mOp gIn (mOp gIx (mVar 12) (mC (.int 1))) (mVar 8)) (mOp gIn (mOp gIx (mVar 12) (mC (.int 2))) (mVar 8)))) (mOp gIx (mVar 12) (mC (.int 0)))))) (sRet (mC (.bl false))) sNext)
    (sIf (mOr (mTest (mOp gNe (mFn (arity 2 f_law_raised) [] (mCons (mVar 3) (mCons (mOp (gAdd false) (mVar 8) (mLst false (mCons (mC (.str "zed")) mNil))) mNil))) (mLst false (mCons (mC (.str "unknown")) (mCons (mC (.str "unknown")) mNil))))) (mTest (mOp gNe (mFn (arity 2 f_law_raised) [] (mCons (mVar 3) (mCons (mOp (gAdd false) (mOp (gAdd false) (mLst false (mCons (mC (.str "zed")) mNil)) (mVar 8)) (mLst false (mCons (mC (.str "zed")) mNil))) mNil))) (mLst false (mCons (mC (.str "twice")) (mCons (mC (.str "twice")) mNil)))))) (sRet (mC (.bl false))) sNext))))))))
    (sSeq (sIf (mOr (mTest (mOp gNe (mMeth "Land" "rows" (arity 1 f_land_rows) [] (mFn (arity 2 f_sector) [] (mCons (mVar 3) (mCons (mCall (g1 (gList false)) (mCons (mOp gIx (mVar 2) (mC (.int 0))) mNil)) mNil))) mNil) (mVar 4))) (mOr (mTest (mOp gNe (mFn (arity 2 f_ties) [] (mCons (mVar 3) (mCons (mLst false mNil) mNil))) (mLst false mNil))) (mTest (mOp gNe (mMeth "Land" "rows" (arity 1 f_land_rows) [] (mFn (arity 2 f_sector) [] (mCons (mVar 3) (mCons (mLst false mNil) mNil))) mNil) (mLst false mNil))))) (sRet (mC (.bl false))) sNext)
    (sRet (mAndV (mOp gEq (mMeth "Land" "rows" (arity 1 f_land_rows) [] (mVar 3) mNil) (mVar 4)) (mOp gEq (mFn (arity 1 f_pieces) [] (mCons (mVar 3) mNil)) (mFn (arity 1 f_law_pieces) [] (mCons (mVar 2) mNil))))))))))))))
def f_law : FM := runF 14 b_law
theorem ok_law {P : Program} {w : World} {K : PySem.W.Frag} {mg : Str → Option Value} {base : Heap} (kn : Kn K mg) : ∃ fd, FunD K "law" "law" (defArgs s_law) (defBody s_law) (defScope s_law) [] [] (He.ga K "law") fd ∧ FnOk P w K mg base CX0 7 (He.ga K "law") fd ["script"] (spLaw K f_law) := by
  obtain ⟨fd0, F0, O0⟩ := ok_law_world (P := P) (w := w) (base := base) kn
  have B1 := FunD.bindsN (ps := ["state"]) F0 (fun _ _ _ _ _ _ us hl => match us, hl with | [_], _ => rfl)
  obtain ⟨fd2, F2, O2⟩ := ok_law_build (P := P) (w := w) (base := base) kn
  have B3 := FunD.bindsN (ps := ["world"]) F2 (fun _ _ _ _ _ _ us hl => match us, hl with | [_], _ => rfl)
  obtain ⟨fd4, F4, O4⟩ := ok_land_rows (P := P) (w := w) (base := base) kn
  have B5 := FunD.bindsN (ps := ["self"]) F4 (fun _ _ _ _ _ _ us hl => match us, hl with | [_], _ => rfl)
  obtain ⟨fd6, F6, O6⟩ := ok_pieces (P := P) (w := w) (base := base) kn
  have B7 := FunD.bindsN (ps := ["land"]) F6 (fun _ _ _ _ _ _ us hl => match us, hl with | [_], _ => rfl)
  obtain ⟨fd8, F8, O8⟩ := ok_law_pieces (P := P) (w := w) (base := base) kn
  have B9 := FunD.bindsN (ps := ["world"]) F8 (fun _ _ _ _ _ _ us hl => match us, hl with | [_], _ => rfl)
  obtain ⟨fd10, F10, O10⟩ := ok_law_take (P := P) (w := w) (base := base) kn
  have B11 := FunD.bindsN (ps := ["state", "limit"]) F10 (fun _ _ _ _ _ _ us hl => match us, hl with | [_, _], _ => rfl)
  obtain ⟨fd12, F12, O12⟩ := ok_sector (P := P) (w := w) (base := base) kn
  have B13 := FunD.bindsN (ps := ["land", "stations"]) F12 (fun _ _ _ _ _ _ us hl => match us, hl with | [_, _], _ => rfl)
  obtain ⟨fd14, F14, O14⟩ := ok_ties (P := P) (w := w) (base := base) kn
  have B15 := FunD.bindsN (ps := ["land", "stations"]) F14 (fun _ _ _ _ _ _ us hl => match us, hl with | [_, _], _ => rfl)
  obtain ⟨fd16, F16, O16⟩ := ok_law_raised (P := P) (w := w) (base := base) kn
  have B17 := FunD.bindsN (ps := ["land", "names"]) F16 (fun _ _ _ _ _ _ us hl => match us, hl with | [_, _], _ => rfl)
  obtain ⟨fd, F⟩ := kn.c.def_ 35 (d := d_law) rfl
  refine ⟨fd, F, law_def (ad := He.ga K) (k := 6) (N := ["script", "draw", "world", "land", "kept", "told", "row", "k", "names", "less", "handed", "name", "line", "plant"]) F sc_law fun cdv A outer s H E hr => ?_⟩
  delta b_law
  exact (dss_cons (ds_set (i := 1) sc_law.nd rfl (by first | exact .inl rfl | exact .inr rfl) (de_lst (hm := true) (da_cons (de_var (pv 0)) (da_cons de_int (da_cons de_int da_nil)))))
    (dss_cons (ds_set (i := 2) sc_law.nd rfl (by first | exact .inl rfl | exact .inr rfl) (de_call (dds := []) O0 (hr.mono (by omega)) rfl (kn.glo 84) F0.kp B1 .nil (fun _ _ => rfl) takesF (da_cons (de_var (pv 1)) da_nil)))
    (dss_cons (ds_set (i := 3) sc_law.nd rfl (by first | exact .inl rfl | exact .inr rfl) (de_call (dds := []) O2 (hr.mono (by omega)) rfl (kn.glo 85) F2.kp B3 .nil (fun _ _ => rfl) takesF (da_cons (de_var (pv 2)) da_nil)))
    (dss_cons (ds_set (i := 4) sc_law.nd rfl (by first | exact .inl rfl | exact .inr rfl) (de_meth0 (c := "Land") (dds := []) (de_var (pv 3)) (kn.cls 11) (kn.meth 69) O4 (hr.mono (by omega)) B5 .nil (fun _ _ => rfl) takesF))
    (dss_cons (ds_set (i := 5) sc_law.nd rfl (by first | exact .inl rfl | exact .inr rfl) (de_call (dds := []) O6 (hr.mono (by omega)) rfl (kn.glo 86) F6.kp B7 .nil (fun _ _ => rfl) takesF (da_cons (de_var (pv 3)) da_nil)))
    (dss_cons (ds_if (dt_cmp (od_ne hr.units) (de_var (pv 5)) (de_call (dds := []) O8 (hr.mono (by omega)) rfl (kn.glo 87) F8.kp B9 .nil (fun _ _ => rfl) takesF (da_cons (de_var (pv 2)) da_nil)) (nomark _)) (dss_one (ds_ret de_bl)) dss_nil)
    (dss_cons (ds_forL own_of rfl (de_var (pv 5)) (dg_name (i := 6) sc_law.nd rfl (by first | exact .inl rfl | exact .inr rfl)) (dss_one (ds_expr (de_app (de_var (pv 6)) de_str))))
    (dss_cons (ds_forR1 own_of rfl rfl (kn.free 9) (da_cons de_int da_nil) (dg_name (i := 7) sc_law.nd rfl (by first | exact .inl rfl | exact .inr rfl)) (dss_cons (ds_set (i := 8) sc_law.nd rfl (by first | exact .inl rfl | exact .inr rfl) (de_lcL (own := [("name", 11)]) (hm := false) rfl sc_law.nd (de_lrev false rfl rfl (kn.free 52) rfl (kn.free 88) (de_ix (de_var (pv 2)) de_int (fun _ _ => rfl))) blk_law_374_16 (fun s1 H1 C1 cl1 fp1 J1 hJ1 => (dg_name (i := 11) sc_law.nd rfl (by first | exact .inl rfl | exact .inr rfl) (hJ := fun σ v S h => hJ1 σ v S 11 (by simp) h))) (fun s1 H1 C1 cl1 fp1 J1 hJ1 => (dts_one (dt_cmp (od_eq hr.units) (de_call (dds := []) O10 (hr.mono (by omega)) rfl (kn.glo 5) F10.kp B11 .nil (fun _ _ => rfl) takesF (da_cons (de_var (pv 1)) (da_cons de_int da_nil))) de_int (nomark _)))) (fun s1 H1 C1 cl1 fp1 J1 hJ1 => (de_var (pv 11)))))
    (dss_cons (ds_set (i := 9) sc_law.nd rfl (by first | exact .inl rfl | exact .inr rfl) (de_lst (hm := false) (da_cons (de_lcL (own := [("name", 11)]) (hm := false) rfl sc_law.nd (de_ix (de_var (pv 2)) de_int (fun _ _ => rfl)) blk_law_375_16 (fun s4 H4 C4 cl4 fp4 J4 hJ4 => (dg_name (i := 11) sc_law.nd rfl (by first | exact .inl rfl | exact .inr rfl) (hJ := fun σ v S h => hJ4 σ v S 11 (by simp) h))) (fun s4 H4 C4 cl4 fp4 J4 hJ4 => (dts_one (dt_cmp od_in (de_var (pv 11)) (de_var (pv 8)) (by with_unfolding_all rfl)))) (fun s4 H4 C4 cl4 fp4 J4 hJ4 => (de_var (pv 11)))) (da_cons (de_lcL (own := [("line", 12)]) (hm := false) rfl sc_law.nd (de_ix (de_var (pv 2)) de_int (fun _ _ => rfl)) blk_law_375_62 (fun s3 H3 C3 cl3 fp3 J3 hJ3 => (dg_name (i := 12) sc_law.nd rfl (by first | exact .inl rfl | exact .inr rfl) (hJ := fun σ v S h => hJ3 σ v S 12 (by simp) h))) (fun s3 H3 C3 cl3 fp3 J3 hJ3 => (dts_one (PW.pt (dw_and (dt_cmp od_in (de_ix (de_var (pv 12)) de_int (fun _ _ => rfl)) (de_var (pv 8)) (by with_unfolding_all rfl)) (dw_and1 (dt_cmp od_in (de_ix (de_var (pv 12)) de_int (fun _ _ => rfl)) (de_var (pv 8)) (by with_unfolding_all rfl))))))) (fun s3 H3 C3 cl3 fp3 J3 hJ3 => (de_var (pv 12)))) (da_cons (de_lcL (own := [("plant", 13)]) (hm := false) rfl sc_law.nd (de_ix (de_var (pv 2)) de_int (fun _ _ => rfl)) blk_law_375_132 (fun s2 H2 C2 cl2 fp2 J2 hJ2 => (dg_name (i := 13) sc_law.nd rfl (by first | exact .inl rfl | exact .inr rfl) (hJ := fun σ v S h => hJ2 σ v S 13 (by simp) h))) (fun s2 H2 C2 cl2 fp2 J2 hJ2 => (dts_one (dt_cmp od_in (de_ix (de_var (pv 13)) de_int (fun _ _ => rfl)) (de_var (pv 8)) (by with_unfolding_all rfl)))) (fun s2 H2 C2 cl2 fp2 J2 hJ2 => (de_var (pv 13)))) da_nil)))))
    (dss_cons (ds_set (i := 10) sc_law.nd rfl (by first | exact .inl rfl | exact .inr rfl) (de_callTy (cd_list false) rfl (kn.free 52) (by decide +kernel) (da_cons (de_var (pv 8)) da_nil)))
    (dss_cons (ds_if (dt_cmp (od_ne hr.units) (de_meth0 (c := "Land") (dds := []) (de_call (dds := []) O12 (hr.mono (by omega)) rfl (kn.glo 70) F12.kp B13 .nil (fun _ _ => rfl) takesF (da_cons (de_var (pv 3)) (da_cons (de_var (pv 10)) da_nil))) (kn.cls 11) (kn.meth 69) O4 (hr.mono (by omega)) B5 .nil (fun _ _ => rfl) takesF) (de_meth0 (c := "Land") (dds := []) (de_call (dds := []) O2 (hr.mono (by omega)) rfl (kn.glo 85) F2.kp B3 .nil (fun _ _ => rfl) takesF (da_cons (de_var (pv 9)) da_nil)) (kn.cls 11) (kn.meth 69) O4 (hr.mono (by omega)) B5 .nil (fun _ _ => rfl) takesF) (nomark _)) (dss_one (ds_ret de_bl)) dss_nil)
    (dss_cons (ds_if (dt_cmp (od_ne hr.units) (de_var (pv 10)) (de_var (pv 8)) (nomark _)) (dss_one (ds_ret de_bl)) dss_nil)
    (dss_cons (ds_if (dt_cmp (od_ne hr.units) (de_call (dds := []) O14 (hr.mono (by omega)) rfl (kn.glo 71) F14.kp B15 .nil (fun _ _ => rfl) takesF (da_cons (de_var (pv 3)) (da_cons (de_callTy (cd_list false) rfl (kn.free 52) (by decide +kernel) (da_cons (de_var (pv 8)) da_nil)) da_nil))) (de_lcL (own := [("line", 12)]) (hm := false) rfl sc_law.nd (de_ix (de_var (pv 2)) de_int (fun _ _ => rfl)) blk_law_381_38 (fun s5 H5 C5 cl5 fp5 J5 hJ5 => (dg_name (i := 12) sc_law.nd rfl (by first | exact .inl rfl | exact .inr rfl) (hJ := fun σ v S h => hJ5 σ v S 12 (by simp) h))) (fun s5 H5 C5 cl5 fp5 J5 hJ5 => (dts_one (dt_cmp (od_ne hr.units) (de_cmp od_in (de_ix (de_var (pv 12)) de_int (fun _ _ => rfl)) (de_var (pv 8)) (by with_unfolding_all rfl)) (de_cmp od_in (de_ix (de_var (pv 12)) de_int (fun _ _ => rfl)) (de_var (pv 8)) (by with_unfolding_all rfl)) (nomark _)))) (fun s5 H5 C5 cl5 fp5 J5 hJ5 => (de_ix (de_var (pv 12)) de_int (fun _ _ => rfl)))) (nomark _)) (dss_one (ds_ret de_bl)) dss_nil)
    (dss_one (ds_if (PW.pt (dw_or (dt_cmp (od_ne hr.units) (de_call (dds := []) O16 (hr.mono (by omega)) rfl (kn.glo 89) F16.kp B17 .nil (fun _ _ => rfl) takesF (da_cons (de_var (pv 3)) (da_cons (de_op (od_add false) (de_var (pv 8)) (de_lst (hm := false) (da_cons de_str da_nil))) da_nil))) (de_lst (hm := false) (da_cons de_str (da_cons de_str da_nil))) (nomark _)) (dw_or1 (dt_cmp (od_ne hr.units) (de_call (dds := []) O16 (hr.mono (by omega)) rfl (kn.glo 89) F16.kp B17 .nil (fun _ _ => rfl) takesF (da_cons (de_var (pv 3)) (da_cons (de_op (od_add false) (de_op (od_add false) (de_lst (hm := false) (da_cons de_str da_nil)) (de_var (pv 8))) (de_lst (hm := false) (da_cons de_str da_nil))) da_nil))) (de_lst (hm := false) (da_cons de_str (da_cons de_str da_nil))) (nomark _))))) (dss_one (ds_ret de_bl)) dss_nil)))))))))
    (dss_cons (ds_if (PW.pt (dw_or (dt_cmp (od_ne hr.units) (de_meth0 (c := "Land") (dds := []) (de_call (dds := []) O12 (hr.mono (by omega)) rfl (kn.glo 70) F12.kp B13 .nil (fun _ _ => rfl) takesF (da_cons (de_var (pv 3)) (da_cons (de_callTy (cd_list false) rfl (kn.free 52) (by decide +kernel) (da_cons (de_ix (de_var (pv 2)) de_int (fun _ _ => rfl)) da_nil)) da_nil))) (kn.cls 11) (kn.meth 69) O4 (hr.mono (by omega)) B5 .nil (fun _ _ => rfl) takesF) (de_var (pv 4)) (nomark _)) (dw_or (dt_cmp (od_ne hr.units) (de_call (dds := []) O14 (hr.mono (by omega)) rfl (kn.glo 71) F14.kp B15 .nil (fun _ _ => rfl) takesF (da_cons (de_var (pv 3)) (da_cons (de_lst (hm := false) da_nil) da_nil))) (de_lst (hm := false) da_nil) (nomark _)) (dw_or1 (dt_cmp (od_ne hr.units) (de_meth0 (c := "Land") (dds := []) (de_call (dds := []) O12 (hr.mono (by omega)) rfl (kn.glo 70) F12.kp B13 .nil (fun _ _ => rfl) takesF (da_cons (de_var (pv 3)) (da_cons (de_lst (hm := false) da_nil) da_nil))) (kn.cls 11) (kn.meth 69) O4 (hr.mono (by omega)) B5 .nil (fun _ _ => rfl) takesF) (de_lst (hm := false) da_nil) (nomark _)))))) (dss_one (ds_ret de_bl)) dss_nil)
    (dss_one (ds_ret (de_and (de_cmp (od_eq hr.units) (de_meth0 (c := "Land") (dds := []) (de_var (pv 3)) (kn.cls 11) (kn.meth 69) O4 (hr.mono (by omega)) B5 .nil (fun _ _ => rfl) takesF) (de_var (pv 4)) (nomark _)) (de_and1 (by exact (de_cmp (od_eq hr.units) (de_call (dds := []) O6 (hr.mono (by omega)) rfl (kn.glo 86) F6.kp B7 .nil (fun _ _ => rfl) takesF (da_cons (de_var (pv 3)) da_nil)) (de_call (dds := []) O8 (hr.mono (by omega)) rfl (kn.glo 87) F8.kp B9 .nil (fun _ _ => rfl) takesF (da_cons (de_var (pv 2)) da_nil)) (nomark _))))))))))))))))
end DK.k41
end
section
set_option Elab.async false
set_option linter.all false
set_option autoImplicit false
set_option maxRecDepth 100000
set_option maxHeartbeats 0
/-! The head of darkrise_k41_pieces_sectors_and_ties: printed by gen.py. -/
namespace DK.k41
open PySem L2 DK
def loose0 : List PySem.Str := ["_wall", "RiseError", "InvalidName", "InvalidNumber", "DuplicateName", "UnknownName", "SameStation", "TooMany", "Moment", "LETTERS", "LONGEST", "GREATEST", "is_name", "checked_name", "is_number", "checked_number", "MOST", "Land", "pieces", "_checked", "sector", "ties", "_law_cell", "_law_take", "_law_line", "_law_plant", "_law_world", "_law_build", "_law_pieces", "_law_raised"]
def loose : List PySem.Str := loose0
abbrev R : PySem.W.OpenRow := PySem.W.OpenLaw.row PySem.Challenge.rw_darkrise_k41_pieces_sectors_and_ties
abbrev hk : PySem.W.Hook := He.hookX 6 fa fn [] [] (allFx fx)
def ob (s : PySem.W.SharedT) : He.AlX := He.obsX 6 fa fn [] [] (allFx fx) (HandSHeadRun.getT s)
theorem ob_eq (s : PySem.W.SharedT) : ob s = hk.obs s.abs := He.obsX_eq (HandSHeadRun.getT_eq s)
theorem run (w : World) : HandSHeadRun.RunEq R (PySem.W.view R.prog [36]) hk ob 20000 loose w := by
  intro os
  kernel_rfl
end DK.k41
open PySem PySem.W PySem.Calls PyProof.Rows
theorem DK.k41.core (hm : ∀ ns : List Int, ns.length ≤ 63 → ∃ O, DK.k41.f_law [.rol (ns.map DK.D.int)] [] = .ok (.bl true) O) : PySem.Challenge.rw_darkrise_k41_pieces_sectors_and_ties.Holds := by
  w_on; o_law
  refine HandSHeadRun.head_any (r := OpenLaw.row PySem.Challenge.rw_darkrise_k41_pieces_sectors_and_ties) (q := view (OpenLaw.row PySem.Challenge.rw_darkrise_k41_pieces_sectors_and_ties).prog [36]) (H := DK.k41.hk) (ob := DK.k41.ob) (M := 20000) (loose := DK.k41.loose) (d := HandSHeadRun.topDef (OpenLaw.row PySem.Challenge.rw_darkrise_k41_pieces_sectors_and_ties).prog 36) (kwd := []) DK.k41.ob_eq
    (by kernel_rfl) (fun s => by kernel_rfl) DK.k41.run (by kernel_rfl) (by kernel_rfl) (by kernel_rfl) (by rfl) (by first | assumption | decide +kernel) (by decide +kernel) ⟨rfl, rfl, rfl, rfl, rfl, by decide +kernel⟩ ?hw ?hc
  case hw => w_witness2
  case hc =>
    refine L2.walk_ofE (l := PySem.Challenge.rw_darkrise_k41_pieces_sectors_and_ties) (n := 63) (k := 7) (x := "script") (CX := L2.CX0) rfl (by decide) (by kernel_rfl) ⟨rfl, by decide, by decide⟩ ?F (fun _ _ _ _ z => z)
    intro w mg fa h Y G hmg0
    obtain ⟨K, KX, c⟩ := Y
    have hmg : mg ("law" : PySem.Str) = some (.ref fa) := by
      have e : (HandSHeadRun.topDef (OpenLaw.row PySem.Challenge.rw_darkrise_k41_pieces_sectors_and_ties).prog 36).name = ("law" : PySem.Str) := by kernel_rfl
      rw [← e]
      exact hmg0
    have kn : DK.k41.Kn K mg := ⟨c.t.d, c.more, h, KX, G⟩
    have e := hmg.symm.trans (kn.glo 0)
    cases e
    obtain ⟨fd1, F1⟩ := kn.c.def_ 35 (d := DK.k41.d_law) rfl
    obtain ⟨fd, F, _⟩ := DK.k41.ok_law (P := (PySem.Challenge.rw_darkrise_k41_pieces_sectors_and_ties).prog) (w := w) (base := h) kn
    have b := L2.FunD.bindsA (ps := ["script"]) F fun _ _ _ _ _ _ us hl => match us, hl with | [_], _ => rfl
    refine ⟨K, fd, DK.spLaw K DK.k41.f_law, KX, fun s v => b s [v] rfl, fun H a ns hl _ hS => ⟨a, ns, rfl, hS, hl, hm ns hl, fun _ => rfl⟩, fun base _ _ => ?_⟩
    obtain ⟨fd2, F2, O2⟩ := DK.k41.ok_law (P := (PySem.Challenge.rw_darkrise_k41_pieces_sectors_and_ties).prog) (w := w) (base := base) kn
    rw [DK.fd_eq F F2]
    exact O2
end
section
set_option Elab.async false
set_option linter.all false
set_option autoImplicit false
set_option maxRecDepth 100000
set_option maxHeartbeats 4000000
/-! DKSup: own errors whose first word is super().__init__(..): the def as a promise. -/
namespace DK
open PySem L2
/-! ### the wrapper called -/
/-! ### the def -/
end DK
end
section
set_option Elab.async false
set_option linter.all false
set_option autoImplicit false
set_option maxRecDepth 100000
set_option maxHeartbeats 4000000
/-! DKSupR: an own error with fields is raised. -/
namespace DK
open PySem L2
section
variable {K : PySem.W.Frag} {ad : Str → Addr} {S S' : Hp} {r r' : Rg} {O O' : Store} {H H' : Hp}
/-- all that nobody knows, held -/
noncomputable def allFr (S : Hp) (r : Rg) (H : Hp) : Hp := fun b => open Classical in if S b = none ∧ b ∉ r.l then H b else none
/-- what stood then stands now -/
theorem Rs.dom (h0 : Rs K ad S r O H) (es : Same S S') (er : r.l <+: r'.l) (ef : ∀ b o, allFr S r H b = some o → r'.fr b = some o) (h : Rs K ad S' r' O' H') {b : Addr} (hb : H' b = none) : H b = none := by
  cases hH : H b with
  | none => rfl
  | some o =>
    exfalso
    by_cases hS : S b = none
    · by_cases hl : b ∈ r.l
      · obtain ⟨n, hn, en⟩ := List.getElem_of_mem hl
        have e1 : r'.l[n]? = some b := pre_get er (by show r.l[n]? = some b; rw [List.getElem?_eq_getElem hn, en])
        have hO : n < O'.length := by rw [← h.len]; exact (List.getElem?_eq_some_iff.mp e1).1
        obtain ⟨u, q⟩ := (h.ob n b O'[n] e1 (List.getElem?_eq_getElem hO)).there
        rw [hb] at q
        cases q
      · have : r'.fr b = some o := by
          refine ef b o ?_
          show (open Classical in if S b = none ∧ b ∉ r.l then H b else none) = some o
          rw [if_pos ⟨hS, hl⟩]
          exact hH
        have q := h.fr b o this
        rw [hb] at q
        cases q
    · cases hS2 : S b with
      | none => exact hS hS2
      | some u =>
        have q := h.sub b u (es b u hS2)
        rw [hb] at q
        cases q
end
end DK
end
section
set_option Elab.async false
set_option linter.all false
set_option autoImplicit false
set_option maxRecDepth 100000
set_option maxHeartbeats 4000000
/-! DKHeadI: the head's facts of own errors with an __init__; raising them. -/
namespace DK
open PySem L2
def oexOk (K : PySem.W.Frag) (C : Addr) : Bool := match K.lookup C with
  | some ⟨.type t, _, .cls cd, sl⟩ => decide (t = "type") && (decide (cd.mro.head? = some (.ref C)) && (PySem.HandSPX.refsVE (cd.mro.drop 1) && (cd.hasDict && (!cd.hasDel && (match sl.toList with
    | [_, _, _, _, some (.builtin id), _] => decide (id = "ValueError.__new__")
    | _ => false)))))
  | _ => false
/-- an error's __init__: its class, parameters, body, scope -/
structure IniD where
  cls : Str
  qual : Str
  params : Arguments
  body : List Stmt
  scope : Scope
abbrev FnC : Type := Option (Str × Str × Arguments × FuncBody × Scope × Addr × List Str × Value × Addr)
def IniD.at_ (d : IniD) : Str × Option Str := (d.cls, some "__init__")
def IniD.val (d : IniD) : FnC := some (("__init__" : Str), d.qual, d.params, FuncBody.stmts d.body, d.scope, mainGlobals, [("__class__" : Str)], Value.none, builtinsNs)
def IniD.ok (K : PySem.W.Frag) (main : Str) (d : IniD) : Bool := match K.lookup (He.fAd K d.at_) with
  | some ⟨_, _, .func fd, _⟩ => (match fd.closure, fd.code with
    | [(_, cc)], .ref cda => PySem.W.codeIn K (.ref cda) d.qual && ((match K.lookup cc with
        | some ⟨_, _, .cell (some v), _⟩ => decide (v = .ref (He.ga K d.cls))
        | _ => false) && ((match K.lookup cda with
        | some ⟨_, _, .fields vs, _⟩ => (match vs[2]? with
          | some (Value.str x _) => decide (x = main)
          | _ => false)
        | _ => false) && decide (PySem.W.mroIn K (He.ga K d.cls) (.ref (He.ga K d.cls)) = some true ∧ PySem.W.ks_superIn K (He.ga K d.cls) (He.ga K d.cls) "__init__" = some (some (.builtin "ValueError.__init__")) ∧ PySem.W.subIn K (.ref (He.ga K d.cls)) (.type "ValueError") = some true
          ∧ PySem.W.nsIn K cStatics "thirdparty.any" = some none ∧ PySem.W.nsIn K mainGlobals "super" = some none ∧ PySem.W.findIn K (.ref (He.ga K d.cls)) "__setattr__" = some (some (.builtin "object.__setattr__")) ∧ PySem.W.subIn K (.ref (He.ga K d.cls)) (.type "BaseException") = some true
          ∧ PySem.W.typeIn K (.ref (He.ga K d.cls)) = some (.type "type") ∧ PySem.W.keepIn K (.ref (He.ga K d.cls)) = true ∧ PySem.W.findIn K (.ref (He.ga K d.cls)) "__init__" = some (some (.ref (He.fAd K d.at_))) ∧ PySem.W.typeIn K (.ref (He.fAd K d.at_)) = some (.type "function") ∧ oexOk K (He.ga K d.cls) = true)))
    | _, _ => false)
  | _ => false
/-! ### the Hook -/
/-! ### a def that makes an error -/
end DK
end
section
set_option Elab.async false
set_option linter.all false
set_option autoImplicit false
set_option maxRecDepth 100000
set_option maxHeartbeats 4000000
/-! DKTry: except clauses that take errors with fields. -/
namespace DK
open PySem L2
def flatFs : List (Str × D) → Option (List (Str × V))
  | [] => some []
  | (f, d) :: r => match flatOf d, flatFs r with
    | some v, some vs => some ((f, v) :: vs)
    | _, _ => none
/-- the error's own dict, if it has one -/
def XfR (x : Exn) (od : Option Addr) (S : Hp) : Prop := match x.fs with
  | none => od = none
  | some fs => ∃ dd us, od = some dd ∧ S dd = some (.xd us) ∧ flatFs fs = some us
theorem XfR.mono {x : Exn} {od : Option Addr} {S S' : Hp} (e : Same S S') (h : XfR x od S) : XfR x od S' := by
  unfold XfR at *
  split at h
  · exact h
  · obtain ⟨dd, us, h1, h2, h3⟩ := h
    exact ⟨dd, us, h1, e _ _ h2, h3⟩
def Jf (i : Nat) (a : Addr) (x : Exn) (od : Option Addr) : JP := ⟨fun σ S => σ[i]? = some (some (.ref a)) ∧ XfR x od S, fun e h => ⟨h.1, h.2.mono e⟩⟩
def Jn (x : Exn) (od : Option Addr) : JP := ⟨fun _ S => XfR x od S, fun e h => h.mono e⟩
/-! ### isinstance of an error, whatever its own dict -/
/-! ### an __init__ by its parts -/
end DK
end
section
set_option Elab.async false
set_option linter.all false
set_option autoImplicit false
set_option maxRecDepth 100000
set_option maxHeartbeats 4000000
/-! DKManyE: several except clauses, with and without a name, over errors with fields; by mirrors. -/
namespace DK
open PySem PySem.Spec PyProof.Rows L2
/-- a clause's class, its name's slot, its suite -/
structure Cls3 where
  c : Value
  oi : Option Nat
  ts : Addr → Value → Option Addr → TS
inductive HdAll (X : Cx) : List ExceptHandler → List Cls3 → Prop
  | nil : HdAll X [] []
  | cons {x : Str} {c : Value} {ts : Addr → Value → Option Addr → TS} {b₀ : Stmt} {suite : List Stmt} {np pos' : Pos} {hds : List ExceptHandler} {l : List Cls3} (hc : Names X x c)
      (hsu : ∀ (a : Addr) (oe : Obj) (cls : Value) (d : Option Addr) (pn : List (Addr × Obj)), Zc cls d oe → (∃ vs, oe.data = .fields vs) → PSs (X.suite a ((a, oe) :: pn)) (b₀ :: suite) (ts a cls d)) (r : HdAll X hds l) :
      HdAll X (.ExceptHandler (some (.Name x np)) none (b₀ :: suite) pos' :: hds) (⟨c, none, ts⟩ :: l)
  | named {x n : Str} {i : Nat} {c : Value} {ts : Addr → Value → Option Addr → TS} {b₀ : Stmt} {suite : List Stmt} {np pos' : Pos} {hds : List ExceptHandler} {l : List Cls3} (hc : Names X x c) (hN : X.N.Nodup) (hi : X.N[i]? = some n) (hln : X.env.kindOf n = some .local)
      (hsu : ∀ (a : Addr) (oe : Obj) (cls : Value) (d : Option Addr) (pn : List (Addr × Obj)), Zc cls d oe → (∃ vs, oe.data = .fields vs) → PSs (X.suite a ((a, oe) :: pn)) (b₀ :: suite) (ts a cls d)) (r : HdAll X hds l) :
      HdAll X (.ExceptHandler (some (.Name x np)) (some n) (b₀ :: suite) pos' :: hds) (⟨c, some i, ts⟩ :: l)
/-! ### mirrors -/
structure HdE where
  sub : Str → Option Bool
  oi : Option Nat
  ss : Exn → SM
section
variable {X : Cx} {ad : Str → Addr} {W : WX} {pos : Pos} {body : List Stmt} {sb : SM}
inductive HdsE (X : Cx) (ad : Str → Addr) : List ExceptHandler → List HdE → List Cls3 → Prop
  | nil : HdsE X ad [] [] []
  | cons {x : Str} {cv : Value} {sub : Str → Option Bool} {ss : Exn → SM} {b0 : Stmt} {suite : List Stmt} {np pos' : Pos} {hds : List ExceptHandler} {ms : List HdE} {l : List Cls3} (hc : Names X x cv)
      (hsub : ∀ nm b, sub nm = some b → PySem.W.exmOne X.K (.ref (ad nm)) cv = some b)
      (hsu : ∀ (y : Exn) (a : Addr) (od : Option Addr) (oe : Obj) (pn : List (Addr × Obj)), sub y.cls = some true → Zc (.ref (ad y.cls)) od oe → (∃ vs, oe.data = .fields vs) → PSs (X.suite a ((a, oe) :: pn)) (b0 :: suite) (tS X.K ad (Jn y od) WF (ss y)))
      (r : HdsE X ad hds ms l) : HdsE X ad (.ExceptHandler (some (.Name x np)) none (b0 :: suite) pos' :: hds) (⟨sub, none, ss⟩ :: ms)
        (⟨cv, none, fun a cls d En σ H => ∃ y : Exn, (cls = .ref (ad y.cls) ∧ sub y.cls = some true) ∧ tS X.K ad (Jn y d) WF (ss y) En σ H⟩ :: l)
  | named {x n : Str} {i : Nat} {cv : Value} {sub : Str → Option Bool} {ss : Exn → SM} {b0 : Stmt} {suite : List Stmt} {np pos' : Pos} {hds : List ExceptHandler} {ms : List HdE} {l : List Cls3} (hc : Names X x cv) (hN : X.N.Nodup) (hi : X.N[i]? = some n) (hln : X.env.kindOf n = some .local)
      (hsub : ∀ nm b, sub nm = some b → PySem.W.exmOne X.K (.ref (ad nm)) cv = some b)
      (hsu : ∀ (y : Exn) (a : Addr) (od : Option Addr) (oe : Obj) (pn : List (Addr × Obj)), sub y.cls = some true → Zc (.ref (ad y.cls)) od oe → (∃ vs, oe.data = .fields vs) → PSs (X.suite a ((a, oe) :: pn)) (b0 :: suite) (tS X.K ad (Jf i a y od) WF (ss y)))
      (r : HdsE X ad hds ms l) : HdsE X ad (.ExceptHandler (some (.Name x np)) (some n) (b0 :: suite) pos' :: hds) (⟨sub, some i, ss⟩ :: ms)
        (⟨cv, some i, fun a cls d En σ H => ∃ y : Exn, (cls = .ref (ad y.cls) ∧ sub y.cls = some true) ∧ tS X.K ad (Jf i a y d) WF (ss y) En σ H⟩ :: l)
theorem HdsE.ok {hds : List ExceptHandler} {ms : List HdE} {l : List Cls3} (k : HdsE X ad hds ms l) : HdAll X hds l := by
  induction k with
  | nil => exact .nil
  | cons hc hsub hsu r ih =>
    refine .cons hc (fun a oe cls d pn hz hfl => ?_) ih
    exact pss_ex fun y hp => by
      obtain ⟨rfl, h3⟩ := hp
      exact hsu y a d oe pn h3 hz hfl
  | named hc hN hi hln hsub hsu r ih =>
    refine .named hc hN hi hln (fun a oe cls d pn hz hfl => ?_) ih
    exact pss_ex fun y hp => by
      obtain ⟨rfl, h3⟩ := hp
      exact hsu y a d oe pn h3 hz hfl
end
end DK
end
section
set_option Elab.async false
set_option linter.all false
set_option autoImplicit false
set_option maxRecDepth 100000
set_option maxHeartbeats 4000000
/-! DKPlain: the draws of the laws, in plain Lean. -/
namespace DK
open PySem L2
theorem set_at {O : Store} {n : Nat} {o p : Ob} (h : O[n]? = some o) : (O.set n p)[n]? = some p := List.getElem?_set_self (List.getElem?_eq_some_iff.mp h).1
theorem gMul_ok {O : Store} {i j : Int} (hi : i.natAbs < 2 ^ 4096) (hj : j.natAbs < 2 ^ 4096) : gMul O (.int i) (.int j) = some (.int (i * j), O) := by
  have h1 : i.natAbs.log2 ≤ 4096 := by
    by_cases h : i.natAbs = 0
    · rw [h]; decide
    · exact Nat.le_of_lt ((Nat.log2_lt h).mpr hi)
  have h2 : j.natAbs.log2 ≤ 4096 := by
    by_cases h : j.natAbs = 0
    · rw [h]; decide
    · exact Nat.le_of_lt ((Nat.log2_lt h).mpr hj)
  unfold gMul gI
  have e : decide (i.natAbs.log2 + j.natAbs.log2 < 1000000) = true := decide_eq_true (by omega)
  simp only [e, if_pos]
theorem gFdiv_ok {O : Store} {i j : Int} (h0 : 0 < j) (hj : j.natAbs < 2 ^ 4096) : gFdiv O (.int i) (.int j) = some (.int (i / j), O) := by
  have h2 : j.natAbs.log2 ≤ 4096 := Nat.le_of_lt ((Nat.log2_lt (by omega)).mpr hj)
  unfold gFdiv gI
  have e : decide (0 < j ∧ j.natAbs.log2 < 9000) = true := decide_eq_true ⟨h0, by omega⟩
  simp only [e, if_pos]
theorem gMod_ok {O : Store} {i j : Int} (h0 : 0 < j) : gMod O (.int i) (.int j) = some (.int (i % j), O) := by
  unfold gMod gI
  have e : decide (0 < j) = true := decide_eq_true h0
  simp only [e, if_pos]
theorem gPow_ok {O : Store} {i j : Int} (h0 : 0 ≤ j) (h1 : j ≤ 1000000) (h2 : i.natAbs < 2 ^ 64) : gPow O (.int i) (.int j) = some (.int (i ^ j.toNat), O) := by
  unfold gPow gI
  have e : decide (0 ≤ j ∧ j ≤ 1000000 ∧ i.natAbs < 2 ^ 64) = true := decide_eq_true ⟨h0, h1, h2⟩
  simp only [e, if_pos]
theorem gSub_ok {O : Store} {i j : Int} : gSub O (.int i) (.int j) = some (.int (i - j), O) := rfl
theorem gAdd_ok {O : Store} {h : Bool} {i j : Int} : gAdd h O (.int i) (.int j) = some (.int (i + j), O) := rfl
theorem gEq_int {O : Store} {i j : Int} : gEq O (.int i) (.int j) = some (.bl (decide (i = j)), O) := by
  have : decide (V.int i = V.int j) = decide (i = j) := by simp
  show (match some (decide (V.int i = V.int j)) with | some b => some (D.bl b, O) | none => none) = _
  rw [this]
theorem gNe_int {O : Store} {i j : Int} : gNe O (.int i) (.int j) = some (.bl (!decide (i = j)), O) := by
  have : decide (V.int i = V.int j) = decide (i = j) := by simp
  show (match some (decide (V.int i = V.int j)) with | some b => some (D.bl (!b), O) | none => none) = _
  rw [this]
theorem gLt_int {O : Store} {i j : Int} : gLt O (.int i) (.int j) = some (.bl (decide (i < j)), O) := rfl
theorem gLe_int {O : Store} {i j : Int} : gLe O (.int i) (.int j) = some (.bl (decide (i ≤ j)), O) := rfl
theorem gGt_int {O : Store} {i j : Int} : gGt O (.int i) (.int j) = some (.bl (decide (j < i)), O) := rfl
theorem gGe_int {O : Store} {i j : Int} : gGe O (.int i) (.int j) = some (.bl (decide (j ≤ i)), O) := rfl
theorem atI_nat {α : Type} {xs : List α} {i : Int} {x : α} (h0 : 0 ≤ i) (h : xs[i.toNat]? = some x) : atI xs i = some x := by
  have hl := (List.getElem?_eq_some_iff.mp h).1
  unfold atI ixN
  rw [if_pos h0, if_pos (by omega)]
  exact h
theorem big_of {i : Int} {n : Nat} (h0 : 0 ≤ i) (h : i ≤ n) (hn : n < 2 ^ 4096) : i.natAbs < 2 ^ 4096 := by omega
theorem atI_c0 {α : Type} {a : α} {xs : List α} : atI (a :: xs) 0 = some a := atI_nat (by decide) rfl
theorem atI_c1 {α : Type} {a b : α} {xs : List α} : atI (a :: b :: xs) 1 = some b := atI_nat (by decide) rfl
theorem atI_c2 {α : Type} {a b c : α} {xs : List α} : atI (a :: b :: c :: xs) 2 = some c := atI_nat (by decide) rfl
theorem atI_c3 {α : Type} {a b c d : α} {xs : List α} : atI (a :: b :: c :: d :: xs) 3 = some d := atI_nat (by decide) rfl
theorem atI_c4 {α : Type} {a b c d e : α} {xs : List α} : atI (a :: b :: c :: d :: e :: xs) 4 = some e := atI_nat (by decide) rfl
/-! ### evaluation -/
theorem kitTab : kitB "NoneType" "bool" = some false ∧ kitB "NoneType" "int" = some false ∧ kitB "NoneType" "str" = some false ∧ kitB "NoneType" "list" = some false ∧ kitB "NoneType" "tuple" = some false ∧ kitB "NoneType" "dict" = some false ∧ kitB "bool" "bool" = some true ∧ kitB "bool" "int" = some true ∧ kitB "bool" "str" = some false ∧ kitB "bool" "list" = some false ∧ kitB "bool" "tuple" = some false ∧ kitB "bool" "dict" = some false ∧ kitB "int" "bool" = some false ∧ kitB "int" "int" = some true ∧ kitB "int" "str" = some false ∧ kitB "int" "list" = some false ∧ kitB "int" "tuple" = some false ∧ kitB "int" "dict" = some false ∧ kitB "str" "bool" = some false ∧ kitB "str" "int" = some false ∧ kitB "str" "str" = some true ∧ kitB "str" "list" = some false ∧ kitB "str" "tuple" = some false ∧ kitB "str" "dict" = some false ∧ kitB "list" "bool" = some false ∧ kitB "list" "int" = some false ∧ kitB "list" "str" = some false ∧ kitB "list" "list" = some true ∧ kitB "list" "tuple" = some false ∧ kitB "list" "dict" = some false ∧ kitB "tuple" "bool" = some false ∧ kitB "tuple" "int" = some false ∧ kitB "tuple" "str" = some false ∧ kitB "tuple" "list" = some false ∧ kitB "tuple" "tuple" = some true ∧ kitB "tuple" "dict" = some false ∧ kitB "dict" "bool" = some false ∧ kitB "dict" "int" = some false ∧ kitB "dict" "str" = some false ∧ kitB "dict" "list" = some false ∧ kitB "dict" "tuple" = some false ∧ kitB "dict" "dict" = some true := by decide +kernel
theorem gNe_bl {O : Store} {i j : Bool} : gNe O (.bl i) (.bl j) = some (.bl (!decide (i = j)), O) := by cases i <;> cases j <;> rfl
theorem gEq_bl {O : Store} {i j : Bool} : gEq O (.bl i) (.bl j) = some (.bl (decide (i = j)), O) := by cases i <;> cases j <;> rfl
theorem gEq_str {O : Store} {i j : Str} : gEq O (.str i) (.str j) = some (.bl (decide (i = j)), O) := by
  have : decide (V.str i = V.str j) = decide (i = j) := by simp
  show (match some (decide (V.str i = V.str j)) with | some b => some (D.bl b, O) | none => none) = _
  rw [this]
theorem gNe_str {O : Store} {i j : Str} : gNe O (.str i) (.str j) = some (.bl (!decide (i = j)), O) := by
  have : decide (V.str i = V.str j) = decide (i = j) := by simp
  show (match some (decide (V.str i = V.str j)) with | some b => some (D.bl (!b), O) | none => none) = _
  rw [this]
theorem isNon_t : isNon .non = true ∧ (∀ b, isNon (.bl b) = false) ∧ (∀ b, isNon (.int b) = false) ∧ (∀ b, isNon (.str b) = false) ∧ (∀ b, isNon (.lst b) = false) ∧ (∀ b, isNon (.tup b) = false) ∧ (∀ b, isNon (.hdl b) = false) := ⟨rfl, fun _ => rfl, fun _ => rfl, fun _ => rfl, fun _ => rfl, fun _ => rfl, fun _ => rfl⟩
/-- a loop keeps what each turn keeps -/
theorem loopD_keeps {turn : D → SM} {I : Nat → Loc → Store → Prop} : ∀ (ds : List D) (i : Nat) (L : Loc) (O : Store), I i L O → (∀ j d L O, ds[j]? = some d → I (i + j) L O → ∃ L' O', turn d L O = .next L' O' ∧ I (i + j + 1) L' O') → ∃ L' O', loopD turn ds L O = .next L' O' ∧ I (i + ds.length) L' O'
  | [], i, L, O, h, _ => ⟨L, O, rfl, h⟩
  | d :: ds, i, L, O, h, k => by
    obtain ⟨L1, O1, e, h1⟩ := k 0 d L O rfl h
    obtain ⟨L2, O2, e2, h2⟩ := loopD_keeps ds (i + 1) L1 O1 h1 fun j d' L O hd hI => by
      have := k (j + 1) d' L O hd (by rw [show i + (j + 1) = i + 1 + j by omega]; exact hI)
      rw [show i + (j + 1) + 1 = i + 1 + j + 1 by omega] at this
      exact this
    refine ⟨L2, O2, ?_, by rw [show i + (d :: ds).length = i + 1 + ds.length by rw [List.length_cons]; omega]; exact h2⟩
    show (match turn d L O with
      | .next L1 O1 => loopD turn ds L1 O1
      | .cnt L1 O1 => loopD turn ds L1 O1
      | .brk L1 O1 => .next L1 O1
      | .ret d O1 => .ret d O1
      | .exc x L1 O1 => .exc x L1 O1
      | .bad => .bad) = _
    rw [e]
    exact e2
end DK
end
section
set_option Elab.async false
set_option linter.all false
set_option autoImplicit false
set_option maxRecDepth 100000
set_option maxHeartbeats 4000000
/-! DKLaws: what many laws share, in plain Lean: draws that keep the rest of the store, picks, checked numbers, sameness. -/
namespace DK
open PySem L2
/-! ### checked numbers -/
def bIsNum : SM := (sSeq (sIf (mOr (mTest (mIsi "bool" (mVar 0))) (mNot (mTest (mIsi "int" (mVar 0))))) (sRet (mC (.bl false))) sNext)
    (sRet (mChain gLe gLe (mVar 1) (mVar 0) (mVar 2))))
def fIsNum : FM := runF 3 bIsNum
def bChk : SM := (sSeq (sIf (mNot (mTest (mFn (arity 3 fIsNum) [] (mCons (mVar 0) (mCons (mVar 1) (mCons (mVar 2) mNil)))))) (sRaise "InvalidNumber" (mCons (mOp (gAdd false) (mOp (gAdd false) (mOp (gAdd false) (mC (.str "no number from ")) (mCall (g1 gStr) (mCons (mVar 1) mNil))) (mC (.str " to "))) (mCall (g1 gStr) (mCons (mVar 2) mNil))) mNil)) sNext)
    (sRet (mVar 0)))
def fChk : FM := runF 3 bChk
theorem chk_yes {O : Store} {v a c : Int} (h0 : a ≤ v) (h1 : v ≤ c) : fChk [.int v, .int a, .int c] O = .ok (.int v) O := by
  simp [fChk, bChk, fIsNum, bIsNum, runF, sSeq, sIf, sNext, sDrop, sRet, sRetN, sAsg, ofRes, ofB, bName, bNil, bCons, bTup, bLst, bSubL, mTest, mOp, mVar, mC, mChain, mAnd, mOr, mNot, mIf, mAndV, mOrV, mNotV, mNeg, mCons, mNil, mTup, mLst, newL, mCall, mFn, arity, g1, g2, gLen, gInt, gAbs, gMax2, gMin2, gIx, seqOf, lsqOf, lstOf, Res.bind, ofO, gAdd_ok, gSub_ok, gEq_int, gNe_int, gLt_int, gLe_int, gGt_int, gGe_int, gEq_bl, gNe_bl, gEq_str, gNe_str, mIsi, mIsiT, tyD, kitL, kitTab, atI_c0, atI_c1, atI_c2, atI_c3, atI_c4, sForR1, int1, int2, mMeth, mMake, mFld, sFldM, gIs, gIsNot, isNon_t, sRaise, gList, newLO, h0, h1]
/-! ### comprehensions over a range -/
theorem lc_keeps {I : Nat → Store → List D → Prop} {turn : D → Store → List D → Option (Store × List D)} {ds : List D} : ∀ (k i : Nat) (O : Store) (acc : List D), ds.length = i + k → I i O acc →
    (∀ j d O acc, ds[j]? = some d → I j O acc → ∃ O' acc', turn d O acc = some (O', acc') ∧ I (j + 1) O' acc') → ∃ O' acc', lcG (fun i _ => some ds[i]?) turn k i O acc = some (O', acc') ∧ I ds.length O' acc'
  | 0, i, O, acc, h, hI, _ => by
    have e : ds[i]? = none := List.getElem?_eq_none (by omega)
    refine ⟨O, acc, ?_, by rw [show ds.length = i by omega]; exact hI⟩
    unfold lcG
    rw [e]
  | k + 1, i, O, acc, h, hI, st => by
    obtain ⟨d, hd⟩ : ∃ d, ds[i]? = some d := ⟨ds[i]'(by omega), List.getElem?_eq_getElem _⟩
    obtain ⟨O1, acc1, e1, h1⟩ := st i d O acc hd hI
    obtain ⟨O2, acc2, e2, h2⟩ := lc_keeps k (i + 1) O1 acc1 (by omega) h1 st
    refine ⟨O2, acc2, ?_, h2⟩
    unfold lcG
    rw [hd]
    show (match turn d O acc with | some p => lcG (fun i _ => some ds[i]?) turn k (i + 1) p.1 p.2 | none => none) = _
    rw [e1]
    exact e2
theorem rangeD_len (a : Int) (n : Nat) : (rangeD a n).length = n := by simp [rangeD]
/-- a loop over a list of the store that the turns leave -/
theorem loopH_keeps {turn : D → SM} {n : Nat} {xs : List D} {I : Nat → Loc → Store → Prop} (ho : ∀ j L O, I j L O → O[n]? = some (.lst xs)) : ∀ (k i : Nat) (L : Loc) (O : Store), xs.length = i + k → I i L O →
    (∀ j d L O, xs[j]? = some d → I j L O → ∃ L' O', turn d L O = .next L' O' ∧ I (j + 1) L' O') → ∃ L' O', loopH turn n k i L O = .next L' O' ∧ I xs.length L' O'
  | 0, i, L, O, hk, h, _ => by
    refine ⟨L, O, ?_, by rw [show xs.length = i by omega]; exact h⟩
    show (match O[n]? with | some (.lst xs) => if xs.length ≤ i then SR.next L O else .bad | _ => .bad) = _
    rw [ho _ _ _ h]
    show (if xs.length ≤ i then SR.next L O else .bad) = _
    rw [if_pos (by omega)]
  | k + 1, i, L, O, hk, h, st => by
    obtain ⟨d, hd⟩ : ∃ d, xs[i]? = some d := ⟨xs[i]'(by omega), List.getElem?_eq_getElem _⟩
    obtain ⟨L1, O1, e, h1⟩ := st i d L O hd h
    obtain ⟨L2, O2, e2, h2⟩ := loopH_keeps ho k (i + 1) L1 O1 (by omega) h1 st
    refine ⟨L2, O2, ?_, h2⟩
    show (match O[n]? with
    | some (.lst xs) => match xs[i]? with
      | some d => match turn d L O with
        | .next L1 O1 => loopH turn n k (i + 1) L1 O1
        | .cnt L1 O1 => loopH turn n k (i + 1) L1 O1
        | .brk L1 O1 => .next L1 O1
        | .ret d O1 => .ret d O1
        | .exc x L1 O1 => .exc x L1 O1
        | .bad => .bad
      | none => .next L O
    | _ => .bad) = _
    rw [ho _ _ _ h]
    show (match xs[i]? with
      | some d => match turn d L O with
        | .next L1 O1 => loopH turn n k (i + 1) L1 O1
        | .cnt L1 O1 => loopH turn n k (i + 1) L1 O1
        | .brk L1 O1 => .next L1 O1
        | .ret d O1 => .ret d O1
        | .exc x L1 O1 => .exc x L1 O1
        | .bad => .bad
      | none => .next L O) = _
    rw [hd]
    show (match turn d L O with
        | .next L1 O1 => loopH turn n k (i + 1) L1 O1
        | .cnt L1 O1 => loopH turn n k (i + 1) L1 O1
        | .brk L1 O1 => .next L1 O1
        | .ret d O1 => .ret d O1
        | .exc x L1 O1 => .exc x L1 O1
        | .bad => .bad) = _
    rw [e]
    exact e2
end DK
end
section
set_option Elab.async false
set_option linter.all false
set_option autoImplicit false
set_option maxRecDepth 100000
set_option maxHeartbeats 4000000
/-! DKText: the takes of the laws; loops over the signs of a text, in plain Lean. -/
namespace DK
open PySem L2
def fCell : FM := runF 2 (sSeq (sIf (mTest (mOp gLt (mVar 1) (mCall (g1 gLen) (mCons (mVar 0) mNil)))) (sRet (mCall (g1 gAbs) (mCons (mCall (g1 gInt) (mCons (mOp gIx (mVar 0) (mVar 1)) mNil)) mNil))) sNext)
    (sRet (mOp (gAdd false) (mOp gMul (mC (.int 37)) (mVar 1)) (mC (.int 11)))))
def bTake : SM := (sSeq (sIf (mTest (mOp gGt (mOp gIx (mVar 0) (mC (.int 2))) (mC (.int 0)))) (sSeq (sAsg (mOp gMod (mCall (g1 gInt) (mCons (mOp gIx (mVar 0) (mC (.int 2))) mNil)) (mVar 1)) (bName 2))
    (sSeq (sAsg (mOp gFdiv (mCall (g1 gInt) (mCons (mOp gIx (mVar 0) (mC (.int 2))) mNil)) (mVar 1)) (bSubL (mVar 0) (mC (.int 2))))
    (sRet (mVar 2)))) sNext)
    (sSeq (sAsg (mFn (arity 2 fCell) [] (mCons (mOp gIx (mVar 0) (mC (.int 0))) (mCons (mOp gIx (mVar 0) (mC (.int 1))) mNil))) (bName 3))
    (sSeq (sAsg (mOp (gAdd false) (mOp gIx (mVar 0) (mC (.int 1))) (mC (.int 1))) (bSubL (mVar 0) (mC (.int 1))))
    (sSeq (sIf (mTest (mOp gGe (mVar 3) (mOp gPow (mC (.int 10)) (mC (.int 9))))) (sAsg (mOp gFdiv (mCall (g1 gInt) (mCons (mVar 3) mNil)) (mVar 1)) (bSubL (mVar 0) (mC (.int 2)))) sNext)
    (sRet (mOp gMod (mCall (g1 gInt) (mCons (mVar 3) mNil)) (mVar 1)))))))
def fTake : FM := runF 4 bTake
/-- the state of the takes at n: its script, place (at most b), what is left -/
def takeL (ns : List Int) (z la : Int) : List D := [.rol (ns.map D.int), .int z, .int la]
structure Take (b : Nat) (n : Nat) (O : Store) : Prop where
  ex : ∃ ns z la, O[n]? = some (.lst (takeL ns z la)) ∧ ns.length ≤ 1000 ∧ 0 ≤ z ∧ z ≤ b ∧ 0 ≤ la
theorem tmono {n a c : Nat} {O : Store} (hac : a ≤ c) : Take a n O → Take c n O := fun ⟨ns, z, la, h, h0, h1, h2, h3⟩ => ⟨ns, z, la, h, h0, h1, by omega, h3⟩
theorem cell_ok {ns : List Int} {z : Int} {O : Store} (h0 : 0 ≤ z) (h1 : z ≤ 2 ^ 64) : ∃ c, fCell [.rol (ns.map D.int), .int z] O = .ok (.int c) O ∧ 0 ≤ c := by
  have ml : ∀ O : Store, gMul O (.int 37) (.int z) = some (.int (37 * z), O) := fun O => gMul_ok (by decide) (big_of (n := 2 ^ 64) h0 (by omega) (by decide))
  by_cases c : z < ns.length
  · obtain ⟨x, hx⟩ : ∃ x, ns[z.toNat]? = some x := ⟨ns[z.toNat]'(by omega), List.getElem?_eq_getElem _⟩
    have hix : atI (ns.map D.int) z = some (.int x) := atI_nat h0 (by rw [List.getElem?_map, hx]; rfl)
    exact ⟨if x < 0 then -x else x, by simp [fCell, runF, sSeq, sIf, sNext, sDrop, sRet, sRetN, sAsg, ofRes, ofB, bName, bNil, bCons, bTup, bLst, bSubL, mTest, mOp, mVar, mC, mChain, mAnd, mOr, mNot, mIf, mAndV, mOrV, mNotV, mNeg, mCons, mNil, mTup, mLst, newL, mCall, mFn, arity, g1, g2, gLen, gInt, gAbs, gMax2, gMin2, gIx, seqOf, lsqOf, lstOf, Res.bind, ofO, gAdd_ok, gSub_ok, gEq_int, gNe_int, gLt_int, gLe_int, gGt_int, gGe_int, gEq_bl, gNe_bl, gEq_str, gNe_str, mIsi, mIsiT, tyD, kitL, kitTab, atI_c0, atI_c1, atI_c2, atI_c3, atI_c4, sForR1, int1, int2, mMeth, mMake, mFld, sFldM, gIs, gIsNot, isNon_t, sRaise, gList, newLO, c, hix], by split <;> omega⟩
  · exact ⟨37 * z + 11, by simp [fCell, runF, sSeq, sIf, sNext, sDrop, sRet, sRetN, sAsg, ofRes, ofB, bName, bNil, bCons, bTup, bLst, bSubL, mTest, mOp, mVar, mC, mChain, mAnd, mOr, mNot, mIf, mAndV, mOrV, mNotV, mNeg, mCons, mNil, mTup, mLst, newL, mCall, mFn, arity, g1, g2, gLen, gInt, gAbs, gMax2, gMin2, gIx, seqOf, lsqOf, lstOf, Res.bind, ofO, gAdd_ok, gSub_ok, gEq_int, gNe_int, gLt_int, gLe_int, gGt_int, gGe_int, gEq_bl, gNe_bl, gEq_str, gNe_str, mIsi, mIsiT, tyD, kitL, kitTab, atI_c0, atI_c1, atI_c2, atI_c3, atI_c4, sForR1, int1, int2, mMeth, mMake, mFld, sFldM, gIs, gIsNot, isNon_t, sRaise, gList, newLO, c, ml], by omega⟩
theorem ixN3_1 : ixN 3 1 = some 1 := rfl
theorem ixN3_2 : ixN 3 2 = some 2 := rfl
theorem take_ok {b n : Nat} {O : Store} {m : Int} (h : Take b n O) (hm : 0 < m) (hm2 : m ≤ 2 ^ 64) (hb : b ≤ 2 ^ 32) :
    ∃ v P, fTake [.hdl n, .int m] O = .ok (.int v) (O.set n (.lst P)) ∧ 0 ≤ v ∧ v < m ∧ Take (b + 1) n (O.set n (.lst P)) := by
  obtain ⟨ns, z, la, h, hl, hz0, hz1, hla0⟩ := h
  have hmb : m.natAbs < 2 ^ 4096 := big_of (n := 2 ^ 64) (by omega) hm2 (by decide)
  have fd : ∀ (O : Store) (i : Int), gFdiv O (.int i) (.int m) = some (.int (i / m), O) := fun O i => gFdiv_ok hm hmb
  have md : ∀ (O : Store) (i : Int), gMod O (.int i) (.int m) = some (.int (i % m), O) := fun O i => gMod_ok hm
  have v0 : ∀ i : Int, 0 ≤ i % m ∧ i % m < m := fun i => ⟨Int.emod_nonneg i (by omega), Int.emod_lt_of_pos i hm⟩
  have hset : ∀ p : Ob, (O.set n p)[n]? = some p := fun p => set_at h
  have pw : ∀ (O : Store), gPow O (.int 10) (.int 9) = some (.int (10 ^ 9), O) := fun O => gPow_ok (by decide) (by decide) (by decide)
  by_cases c1 : 0 < la
  · refine ⟨la % m, takeL ns z (la / m), ?_, (v0 la).1, (v0 la).2, ns, z, la / m, set_at h, hl, hz0, by omega, Int.ediv_nonneg (by omega) (by omega)⟩
    simp [fTake, bTake, runF, sSeq, sIf, sNext, sDrop, sRet, sRetN, sAsg, ofRes, ofB, bName, bNil, bCons, bTup, bLst, bSubL, mTest, mOp, mVar, mC, mChain, mAnd, mOr, mNot, mIf, mAndV, mOrV, mNotV, mNeg, mCons, mNil, mTup, mLst, newL, mCall, mFn, arity, g1, g2, gLen, gInt, gAbs, gMax2, gMin2, gIx, seqOf, lsqOf, lstOf, Res.bind, ofO, gAdd_ok, gSub_ok, gEq_int, gNe_int, gLt_int, gLe_int, gGt_int, gGe_int, gEq_bl, gNe_bl, gEq_str, gNe_str, mIsi, mIsiT, tyD, kitL, kitTab, atI_c0, atI_c1, atI_c2, atI_c3, atI_c4, sForR1, int1, int2, mMeth, mMake, mFld, sFldM, gIs, gIsNot, isNon_t, sRaise, gList, newLO, h, hset, takeL, fd, md, c1, ixN3_1, ixN3_2]
  · obtain ⟨c, hc, c0⟩ := cell_ok (ns := ns) (O := O) hz0 (by omega)
    by_cases c2 : (10 : Int) ^ 9 ≤ c
    · refine ⟨c % m, takeL ns (z + 1) (c / m), ?_, (v0 c).1, (v0 c).2, ns, z + 1, c / m, set_at h, hl, by omega, by omega, Int.ediv_nonneg c0 (by omega)⟩
      simp only [show (10 : Int) ^ 9 = 1000000000 by decide] at c2 pw
      simp [fTake, bTake, runF, sSeq, sIf, sNext, sDrop, sRet, sRetN, sAsg, ofRes, ofB, bName, bNil, bCons, bTup, bLst, bSubL, mTest, mOp, mVar, mC, mChain, mAnd, mOr, mNot, mIf, mAndV, mOrV, mNotV, mNeg, mCons, mNil, mTup, mLst, newL, mCall, mFn, arity, g1, g2, gLen, gInt, gAbs, gMax2, gMin2, gIx, seqOf, lsqOf, lstOf, Res.bind, ofO, gAdd_ok, gSub_ok, gEq_int, gNe_int, gLt_int, gLe_int, gGt_int, gGe_int, gEq_bl, gNe_bl, gEq_str, gNe_str, mIsi, mIsiT, tyD, kitL, kitTab, atI_c0, atI_c1, atI_c2, atI_c3, atI_c4, sForR1, int1, int2, mMeth, mMake, mFld, sFldM, gIs, gIsNot, isNon_t, sRaise, gList, newLO, h, hset, takeL, fd, md, c1, c2, pw, hc, ixN3_1, ixN3_2]
    · refine ⟨c % m, takeL ns (z + 1) la, ?_, (v0 c).1, (v0 c).2, ns, z + 1, la, set_at h, hl, by omega, by omega, hla0⟩
      simp only [show (10 : Int) ^ 9 = 1000000000 by decide] at c2 pw
      simp [fTake, bTake, runF, sSeq, sIf, sNext, sDrop, sRet, sRetN, sAsg, ofRes, ofB, bName, bNil, bCons, bTup, bLst, bSubL, mTest, mOp, mVar, mC, mChain, mAnd, mOr, mNot, mIf, mAndV, mOrV, mNotV, mNeg, mCons, mNil, mTup, mLst, newL, mCall, mFn, arity, g1, g2, gLen, gInt, gAbs, gMax2, gMin2, gIx, seqOf, lsqOf, lstOf, Res.bind, ofO, gAdd_ok, gSub_ok, gEq_int, gNe_int, gLt_int, gLe_int, gGt_int, gGe_int, gEq_bl, gNe_bl, gEq_str, gNe_str, mIsi, mIsiT, tyD, kitL, kitTab, atI_c0, atI_c1, atI_c2, atI_c3, atI_c4, sForR1, int1, int2, mMeth, mMake, mFld, sFldM, gIs, gIsNot, isNon_t, sRaise, gList, newLO, h, hset, takeL, fd, md, c1, c2, pw, hc, ixN3_1, ixN3_2]
/-! ### signs -/
end DK
end
section
set_option Elab.async false
set_option linter.all false
set_option autoImplicit false
set_option maxRecDepth 100000
set_option maxHeartbeats 4000000
/-! DKLoop: loops, comprehensions and frames, in plain Lean. -/
namespace DK
open PySem L2
/-! ### frames -/
/-- all but the draws' state stands as before -/
def Fr (O O' : Store) : Prop := O.length ≤ O'.length ∧ ∀ i, 0 < i → i < O.length → O'[i]? = O[i]?
theorem Fr.refl (O : Store) : Fr O O := ⟨Nat.le_refl _, fun _ _ _ => rfl⟩
theorem Fr.trans {O O1 O2 : Store} (a : Fr O O1) (b : Fr O1 O2) : Fr O O2 := ⟨Nat.le_trans a.1 b.1, fun i h0 h => (b.2 i h0 (Nat.lt_of_lt_of_le h a.1)).trans (a.2 i h0 h)⟩
theorem Fr.at {O O' : Store} {i : Nat} {x : Ob} (f : Fr O O') (h0 : 0 < i) (h : O[i]? = some x) : O'[i]? = some x := (f.2 i h0 (List.getElem?_eq_some_iff.mp h).1).trans h
theorem fr_set0 {O : Store} {p : Ob} : Fr O (O.set 0 p) := ⟨by rw [List.length_set]; exact Nat.le_refl _, fun i h0 _ => List.getElem?_set_ne (by omega)⟩
theorem fr_app {O : Store} {J : Store} : Fr O (O ++ J) := ⟨by rw [List.length_append]; omega, fun i h0 h => List.getElem?_append_left h⟩
theorem fr_setNew {O O' : Store} {n : Nat} {p : Ob} (f : Fr O O') (h : O.length ≤ n) : Fr O (O'.set n p) := ⟨by rw [List.length_set]; exact f.1, fun i h0 hi => by rw [List.getElem?_set_ne (by omega)]; exact f.2 i h0 hi⟩
/-- everything stands as before -/
def Fz (O O' : Store) : Prop := O.length ≤ O'.length ∧ ∀ i, i < O.length → O'[i]? = O[i]?
theorem Fz.refl (O : Store) : Fz O O := ⟨Nat.le_refl _, fun _ _ => rfl⟩
theorem Fz.trans {O O1 O2 : Store} (a : Fz O O1) (b : Fz O1 O2) : Fz O O2 := ⟨Nat.le_trans a.1 b.1, fun i h => (b.2 i (Nat.lt_of_lt_of_le h a.1)).trans (a.2 i h)⟩
theorem Fz.at {O O' : Store} {i : Nat} {x : Ob} (f : Fz O O') (h : O[i]? = some x) : O'[i]? = some x := (f.2 i (List.getElem?_eq_some_iff.mp h).1).trans h
theorem Fz.fr {O O' : Store} (f : Fz O O') : Fr O O' := ⟨f.1, fun i _ h => f.2 i h⟩
theorem fz_app {O : Store} {J : Store} : Fz O (O ++ J) := ⟨by rw [List.length_append]; omega, fun i h => List.getElem?_append_left h⟩
theorem fz_setNew {O O' : Store} {n : Nat} {p : Ob} (f : Fz O O') (h : O.length ≤ n) : Fz O (O'.set n p) := ⟨by rw [List.length_set]; exact f.1, fun i hi => by rw [List.getElem?_set_ne (by omega)]; exact f.2 i hi⟩
theorem Take.fz {b : Nat} {O O' : Store} (h : Take b 0 O) (f : Fz O O') : Take b 0 O' := by
  obtain ⟨ns, z, la, h, r⟩ := h
  exact ⟨ns, z, la, f.at h, r⟩
theorem Take.len {b : Nat} {O : Store} (h : Take b 0 O) : 0 < O.length := by
  obtain ⟨ns, z, la, h, r⟩ := h
  exact (List.getElem?_eq_some_iff.mp h).1
theorem Take.set {b n : Nat} {O : Store} {p : Ob} (h : Take b 0 O) (hn : n ≠ 0) : Take b 0 (O.set n p) := by
  obtain ⟨ns, z, la, h, r⟩ := h
  exact ⟨ns, z, la, by rw [List.getElem?_set_ne hn]; exact h, r⟩
theorem tk1 {b : Nat} {O : Store} {m : Int} (h : Take b 0 O) (hm : 0 < m) (hm2 : m ≤ 2 ^ 32) (hb : b ≤ 2 ^ 31) :
    ∃ v O', fTake [.hdl 0, .int m] O = .ok (.int v) O' ∧ 0 ≤ v ∧ v < m ∧ Take (b + 1) 0 O' ∧ Fr O O' ∧ O'.length = O.length := by
  obtain ⟨v, P, e, v0, v1, p⟩ := take_ok h hm (by omega) (by omega)
  exact ⟨v, _, e, v0, v1, p, fr_set0, List.length_set ..⟩
/-! ### loops -/
theorem forR1_keeps {t : AM} {b : BM} {body : SM} {I : Nat → Loc → Store → Prop} {L : Loc} {O O1 : Store} {j : Int} (ht : t L O = .ok [.int j] O1) (h0 : 0 ≤ j) (h1 : j ≤ 1000000) (hI : I 0 L O1)
    (st : ∀ (i : Nat) L O, (i : Int) < j → I i L O → ∃ L' O', turnOf b body (.int i) L O = .next L' O' ∧ I (i + 1) L' O') : ∃ L' O', sForR1 t b body L O = .next L' O' ∧ I j.toNat L' O' := by
  obtain ⟨L', O', e, h⟩ := loopD_keeps (turn := turnOf b body) (I := I) (rangeD 0 j.toNat) 0 L O1 hI fun i d L O hd hI => by
    have hl := (List.getElem?_eq_some_iff.mp hd).1
    rw [rangeD_len] at hl
    obtain rfl : d = .int (i : Int) := by
      unfold rangeD at hd
      rw [List.getElem?_map, List.getElem?_range hl] at hd
      have := (Option.some.inj hd).symm
      rw [this]
      show D.int (0 + (i : Int)) = _
      rw [Int.zero_add]
    rw [Nat.zero_add] at hI ⊢
    exact st i L O (by omega) hI
  rw [Nat.zero_add, rangeD_len] at h
  refine ⟨L', O', ?_, h⟩
  show ofRes L (t L O) (fun ds O1 => match int1 ds with
    | some j => loopD (turnOf b body) (rangeD 0 j.toNat) L O1
    | none => .bad) = _
  rw [ht]
  show (match int1 [.int j] with
    | some j => loopD (turnOf b body) (rangeD 0 j.toNat) L O1
    | none => .bad) = _
  rw [show int1 [.int j] = some j by simp [int1]; omega]
  exact e
theorem forL_keeps {m : EM} {b : BM} {body : SM} {I : Nat → Loc → Store → Prop} {L : Loc} {O O1 : Store} {ds : List D} (ht : m L O = .ok (.lst ds) O1) (hI : I 0 L O1)
    (st : ∀ (i : Nat) d L O, ds[i]? = some d → I i L O → ∃ L' O', turnOf b body d L O = .next L' O' ∧ I (i + 1) L' O') : ∃ L' O', sForL m b body L O = .next L' O' ∧ I ds.length L' O' := by
  obtain ⟨L', O', e, h⟩ := loopD_keeps (turn := turnOf b body) (I := I) ds 0 L O1 hI fun i d L O hd hI => by
    rw [Nat.zero_add] at hI ⊢
    exact st i d L O hd hI
  rw [Nat.zero_add] at h
  refine ⟨L', O', ?_, h⟩
  show ofRes L (m L O) _ = _
  rw [ht]
  exact e
/-! ### comprehensions -/
theorem lc_pureG {nx : Nat → Store → Option (Option D)} {turn : D → Store → List D → Option (Store × List D)} {ds : List D} {O : Store} {f : D → Option D} (hn : ∀ i, nx i O = some ds[i]?)
    (ht : ∀ d ∈ ds, ∀ acc : List D, acc.length ≤ 900000 → turn d O acc = some (O, acc ++ (f d).toList)) : ∀ (k i : Nat) (acc : List D), ds.length = i + k → acc.length + k ≤ 900000 → lcG nx turn k i O acc = some (O, acc ++ (ds.drop i).filterMap f)
  | 0, i, acc, h, hl => by
    unfold lcG
    rw [hn, List.getElem?_eq_none (by omega), List.drop_eq_nil_of_le (by omega)]
    simp
  | k + 1, i, acc, h, hl => by
    have hi : i < ds.length := by omega
    unfold lcG
    rw [hn, List.getElem?_eq_getElem hi]
    show (match turn ds[i] O acc with | some p => lcG nx turn k (i + 1) p.1 p.2 | none => none) = _
    rw [ht _ (List.getElem_mem hi) acc (by omega)]
    show lcG nx turn k (i + 1) O (acc ++ (f ds[i]).toList) = _
    have hz : (f ds[i]).toList.length ≤ 1 := by cases f ds[i] <;> simp
    rw [lc_pureG hn ht k (i + 1) _ (by omega) (by rw [List.length_append]; omega), List.drop_eq_getElem_cons hi, List.filterMap_cons, List.append_assoc]
    cases f ds[i] <;> rfl
theorem lcL_pure {src : EM} {vs : List Nat} {b : BM} {tt : TM} {el : EM} {L : Loc} {O O1 : Store} {d : D} {ds : List D} (f : D → Option D) (hs : src L O = .ok d O1) (hd : lsqOf O1 d = some ds) (hl : ds.length ≤ 900000)
    (st : ∀ d ∈ ds, ∃ L', b d (wipeL L vs) O1 = some (L', O1) ∧ ((∃ y, tt L' O1 = .ok true O1 ∧ el L' O1 = .ok y O1 ∧ f d = some y) ∨ (tt L' O1 = .ok false O1 ∧ f d = none))) :
    mLcL false src vs b tt el L O = .ok (.lst (ds.filterMap f)) O1 := by
  show ((src L O).bind fun d O1 => match lsqOf O1 d with
    | some xs => lcEnd false (lcG (fun i O => (lsqOf O d).map (·[i]?)) (lcTurn vs b tt el L) xs.length 0 O1 [])
    | none => .bad) = _
  rw [hs]
  show (match lsqOf O1 d with
    | some xs => lcEnd false (lcG (fun i O => (lsqOf O d).map (·[i]?)) (lcTurn vs b tt el L) xs.length 0 O1 [])
    | none => .bad) = _
  rw [hd]
  show lcEnd false (lcG (fun i O => (lsqOf O d).map (·[i]?)) (lcTurn vs b tt el L) ds.length 0 O1 []) = _
  rw [lc_pureG (f := f) (ds := ds) (fun i => by rw [hd]; rfl) (fun d' hd' acc ha => by
    obtain ⟨L', e1, e2⟩ := st d' hd'
    show (match b d' (wipeL L vs) O1 with
      | some p => (match tt p.1 p.2 with
        | .ok true O2 => (match el p.1 O2 with
          | .ok y O3 => if acc.length ≤ 900000 then some (O3, acc ++ [y]) else none
          | _ => none)
        | .ok false O2 => some (O2, acc)
        | _ => none)
      | none => none) = _
    rw [e1]
    rcases e2 with ⟨y, e2, e3, e4⟩ | ⟨e2, e4⟩
    · simp only [e2, e3, e4, if_pos ha]
      rfl
    · simp only [e2, e4]
      simp) ds.length 0 [] (by omega) (by simpa using hl)]
  show newL false ([] ++ (ds.drop 0).filterMap f) O1 = _
  have : (ds.filterMap f).length ≤ 1000000 := Nat.le_trans (List.length_filterMap_le ..) (by omega)
  simp [newL, this]
/-- elements and tests that may change the store -/
theorem lcL_keeps {I : Nat → Store → List D → Prop} {src : EM} {vs : List Nat} {b : BM} {tt : TM} {el : EM} {L : Loc} {O O1 : Store} {ds : List D} (hs : src L O = .ok (.lst ds) O1) (hI : I 0 O1 []) (hl : ds.length ≤ 800000)
    (st : ∀ (i : Nat) d O acc, ds[i]? = some d → acc.length ≤ i → I i O acc → ∃ L' O' acc', b d (wipeL L vs) O = some (L', O) ∧ ((∃ y O2, tt L' O = .ok true O2 ∧ el L' O2 = .ok y O' ∧ acc' = acc ++ [y]) ∨ (tt L' O = .ok false O' ∧ acc' = acc)) ∧ I (i + 1) O' acc') :
    ∃ O' ys, mLcL false src vs b tt el L O = .ok (.lst ys) O' ∧ I ds.length O' ys ∧ ys.length ≤ ds.length := by
  obtain ⟨O2, ys, e, h, hy⟩ := lc_keeps (I := fun i O acc => I i O acc ∧ acc.length ≤ i) (turn := lcTurn vs b tt el L) (ds := ds) ds.length 0 O1 [] (by omega) ⟨hI, Nat.le_refl _⟩ fun i d O acc hd ⟨hI, ha⟩ => by
    have hi := (List.getElem?_eq_some_iff.mp hd).1
    obtain ⟨L', O', acc', e1, e2, h2⟩ := st i d O acc hd ha hI
    refine ⟨O', acc', ?_, h2, ?_⟩
    · show (match b d (wipeL L vs) O with
        | some p => (match tt p.1 p.2 with
          | .ok true O2 => (match el p.1 O2 with
            | .ok y O3 => if acc.length ≤ 900000 then some (O3, acc ++ [y]) else none
            | _ => none)
          | .ok false O2 => some (O2, acc)
          | _ => none)
        | none => none) = _
      rw [e1]
      rcases e2 with ⟨y, O2, e2, e3, rfl⟩ | ⟨e2, rfl⟩
      · simp only [e2, e3, if_pos (show acc.length ≤ 900000 by omega)]
      · simp only [e2]
    · rcases e2 with ⟨y, O2, e2, e3, rfl⟩ | ⟨e2, rfl⟩
      · rw [List.length_append, List.length_singleton]; omega
      · omega
  refine ⟨O2, ys, ?_, h, hy⟩
  show ((src L O).bind fun d O1 => match lsqOf O1 d with
    | some xs => lcEnd false (lcG (fun i O => (lsqOf O d).map (·[i]?)) (lcTurn vs b tt el L) xs.length 0 O1 [])
    | none => .bad) = _
  rw [hs]
  show lcEnd false (lcG (fun i _ => some ds[i]?) (lcTurn vs b tt el L) ds.length 0 O1 []) = _
  rw [e]
  show newL false ys O2 = _
  simp [newL]
  omega
/-! ### lists that grow -/
theorem app_ok {m e : EM} {L : Loc} {O O1 O2 : Store} {n : Nat} {xs0 xs : List D} {y : D} (hm : m L O = .ok (.hdl n) O1) (h0 : O1[n]? = some (.lst xs0)) (he : e L O1 = .ok y O2) (h1 : O2[n]? = some (.lst xs)) (hl : xs.length ≤ 1000000) :
    mApp m e L O = .ok .non (O2.set n (.lst (xs ++ [y]))) := by
  simp [mApp, hm, Res.bind, lstOf, h0, he, h1, hl]
theorem slice_to {O : Store} {xs : List D} {v : Int} (h0 : 0 ≤ v) (hl : xs.length ≤ 1000000) : gSl false (.lst xs) none (some v) O = .ok (.lst (xs.take v.toNat)) O := by
  show newL false (cutD xs none (some v)) O = _
  have e : cutD xs none (some v) = xs.take v.toNat := by
    unfold cutD
    rw [show HT.sIx xs.length 0 none = 0 from rfl]
    show (xs.drop 0).take ((if v < 0 then (v + (xs.length : Int)).toNat else min v.toNat xs.length) - 0) = _
    rw [if_neg (by omega), List.drop_zero, Nat.sub_zero]
    rcases Nat.le_total v.toNat xs.length with c | c
    · rw [Nat.min_eq_left c]
    · rw [Nat.min_eq_right c, List.take_length, List.take_of_length_le c]
  rw [e]
  have : (xs.take v.toNat).length ≤ 1000000 := by rw [List.length_take]; omega
  simp [newL]
  omega
/-! ### texts in order -/
theorem ltSV_total {a b : Str} (h : a ≠ b) : ltSV a b = true ∨ ltSV b a = true := by
  cases h1 : ltSV a b
  · cases h2 : ltSV b a
    · exact absurd (leS_anti a b (by unfold leS; unfold ltSV at h2; rw [h2]; rfl) (by unfold leS; unfold ltSV at h1; rw [h1]; rfl)) h
    · exact .inr rfl
  · exact .inl rfl
theorem ltSV_asym {a b : Str} (h : ltSV a b = true) : ltSV b a = false := by
  cases h2 : ltSV b a
  · rfl
  · have := leS_total a b
    unfold leS at this
    unfold ltSV at h h2
    rw [h, h2] at this
    simp at this
theorem ltSV_ne {a b : Str} (h : ltSV a b = true) : a ≠ b := by
  intro z
  subst z
  have := ltSV_asym h
  rw [h] at this
  cases this
/-- the lesser and the greater one of two texts -/
theorem minmax {a b : Str} (h : a ≠ b) : ∃ x y, (if ltSV b a = true then b else a) = x ∧ (if ltSV a b = true then b else a) = y ∧ ltSV x y = true ∧ ((x = a ∧ y = b) ∨ (x = b ∧ y = a)) := by
  rcases ltSV_total h with h1 | h1
  · have h2 := ltSV_asym h1
    exact ⟨a, b, by rw [h2]; rfl, by rw [h1]; rfl, h1, .inl ⟨rfl, rfl⟩⟩
  · have h2 := ltSV_asym h1
    exact ⟨b, a, by rw [h1]; rfl, by rw [h2]; rfl, h1, .inr ⟨rfl, rfl⟩⟩
end DK
end
section
set_option Elab.async false
set_option linter.all false
set_option autoImplicit false
set_option maxRecDepth 100000
set_option maxHeartbeats 4000000
/-! mirrors that many laws share: printed by mirrors.py. -/
namespace DK.W
open PySem L2 DK
def b_law_cell : SM := (sSeq (sIf (mTest (mOp gLt (mVar 1) (mCall (g1 gLen) (mCons (mVar 0) mNil)))) (sRet (mCall (g1 gAbs) (mCons (mCall (g1 gInt) (mCons (mOp gIx (mVar 0) (mVar 1)) mNil)) mNil))) sNext)
    (sRet (mOp (gAdd false) (mOp gMul (mC (.int 37)) (mVar 1)) (mC (.int 11)))))
def f_law_cell : FM := runF 2 b_law_cell
def b_law_take : SM := (sSeq (sIf (mTest (mOp gGt (mOp gIx (mVar 0) (mC (.int 2))) (mC (.int 0)))) (sSeq (sAsg (mOp gMod (mCall (g1 gInt) (mCons (mOp gIx (mVar 0) (mC (.int 2))) mNil)) (mVar 1)) (bName 2))
    (sSeq (sAsg (mOp gFdiv (mCall (g1 gInt) (mCons (mOp gIx (mVar 0) (mC (.int 2))) mNil)) (mVar 1)) (bSubL (mVar 0) (mC (.int 2))))
    (sRet (mVar 2)))) sNext)
    (sSeq (sAsg (mFn (arity 2 f_law_cell) [] (mCons (mOp gIx (mVar 0) (mC (.int 0))) (mCons (mOp gIx (mVar 0) (mC (.int 1))) mNil))) (bName 3))
    (sSeq (sAsg (mOp (gAdd false) (mOp gIx (mVar 0) (mC (.int 1))) (mC (.int 1))) (bSubL (mVar 0) (mC (.int 1))))
    (sSeq (sIf (mTest (mOp gGe (mVar 3) (mOp gPow (mC (.int 10)) (mC (.int 9))))) (sAsg (mOp gFdiv (mCall (g1 gInt) (mCons (mVar 3) mNil)) (mVar 1)) (bSubL (mVar 0) (mC (.int 2)))) sNext)
    (sRet (mOp gMod (mCall (g1 gInt) (mCons (mVar 3) mNil)) (mVar 1)))))))
def f_law_take : FM := runF 4 b_law_take
def b_law_plant : SM := (sSeq (sAsg (mOp gIx (mVar 2) (mFn (arity 2 f_law_take) [] (mCons (mVar 0) (mCons (mCall (g1 gLen) (mCons (mVar 2) mNil)) mNil)))) (bName 3))
    (sSeq (sAsg (mOp gIx (mLst false (mCons (mC (.int 0)) (mCons (mC (.int 3)) (mCons (mC (.int 5)) (mCons (mC (.int 9)) (mCons (mC (.int 12)) (mCons (mC (.int 20)) mNil))))))) (mFn (arity 2 f_law_take) [] (mCons (mVar 0) (mCons (mC (.int 6)) mNil)))) (bName 4))
    (sSeq (sIf (mOr (mTest (mOp gEq (mFn (arity 2 f_law_take) [] (mCons (mVar 0) (mCons (mC (.int 3)) mNil))) (mC (.int 0)))) (mTest (mOp gEq (mVar 1) (mC (.str "pa"))))) (sSeq (sAsg (mOp (gAdd false) (mC (.int 1)) (mFn (arity 2 f_law_take) [] (mCons (mVar 0) (mCons (mC (.int 9)) mNil)))) (bName 5))
    (sRet (mTup (mCons (mVar 1) (mCons (mVar 3) (mCons (mC (.int 0)) (mCons (mVar 4) (mCons (mVar 5) (mCons (mC (.int 1000000)) (mCons (mC (.int 1000000)) (mCons (mVar 5) (mCons (mC (.bl true)) mNil)))))))))))) sNext)
    (sSeq (sAsg (mOp gIx (mLst false (mCons (mC (.int 0)) (mCons (mC (.int 3)) (mCons (mC (.int 5)) (mCons (mC (.int 9)) (mCons (mC (.int 14)) (mCons (mC (.int 25)) mNil))))))) (mFn (arity 2 f_law_take) [] (mCons (mVar 0) (mCons (mC (.int 6)) mNil)))) (bName 6))
    (sSeq (sAsg (mOp (gAdd false) (mC (.int 1)) (mFn (arity 2 f_law_take) [] (mCons (mVar 0) (mCons (mC (.int 6)) mNil)))) (bName 7))
    (sSeq (sAsg (mOp gIx (mLst false (mCons (mC (.int 0)) (mCons (mC (.int 4)) (mCons (mC (.int 9)) (mCons (mC (.int 15)) (mCons (mC (.int 30)) (mCons (mC (.int 200)) mNil))))))) (mFn (arity 2 f_law_take) [] (mCons (mVar 0) (mCons (mC (.int 6)) mNil)))) (bName 8))
    (sSeq (sAsg (mOp (gAdd false) (mVar 8) (mOp gIx (mLst false (mCons (mC (.int 0)) (mCons (mC (.int 1)) (mCons (mC (.int 5)) (mCons (mC (.int 12)) (mCons (mC (.int 40)) mNil)))))) (mFn (arity 2 f_law_take) [] (mCons (mVar 0) (mCons (mC (.int 5)) mNil))))) (bName 9))
    (sRet (mTup (mCons (mVar 1) (mCons (mVar 3) (mCons (mVar 6) (mCons (mVar 4) (mCons (mVar 7) (mCons (mVar 8) (mCons (mVar 9) (mCons (mOp (gAdd false) (mVar 7) (mFn (arity 2 f_law_take) [] (mCons (mVar 0) (mCons (mC (.int 9)) mNil)))) (mCons (mC (.bl false)) mNil))))))))))))))))))
def f_law_plant : FM := runF 10 b_law_plant
def b_law_line : SM := (sSeq (sAsg (mFn (arity 2 f_law_take) [] (mCons (mVar 0) (mCons (mCall (g1 gLen) (mCons (mVar 2) mNil)) mNil))) (bName 3))
    (sSeq (sAsg (mOp gMod (mOp (gAdd false) (mOp (gAdd false) (mVar 3) (mC (.int 1))) (mFn (arity 2 f_law_take) [] (mCons (mVar 0) (mCons (mOp gSub (mCall (g1 gLen) (mCons (mVar 2) mNil)) (mC (.int 1))) mNil)))) (mCall (g1 gLen) (mCons (mVar 2) mNil))) (bName 4))
    (sSeq (sAsg (mOp gIx (mLst false (mCons (mC (.int 0)) (mCons (mC (.int 0)) (mCons (mC (.int 3)) (mCons (mC (.int 8)) (mCons (mC (.int 12)) (mCons (mC (.int 20)) (mCons (mC (.int 31)) mNil)))))))) (mFn (arity 2 f_law_take) [] (mCons (mVar 0) (mCons (mC (.int 7)) mNil)))) (bName 5))
    (sRet (mTup (mCons (mVar 1) (mCons (mCall (g2 gMinA) (mCons (mOp gIx (mVar 2) (mVar 3)) (mCons (mOp gIx (mVar 2) (mVar 4)) mNil))) (mCons (mCall (g2 gMaxA) (mCons (mOp gIx (mVar 2) (mVar 3)) (mCons (mOp gIx (mVar 2) (mVar 4)) mNil))) (mCons (mVar 5) (mCons (mOp (gAdd false) (mC (.int 1)) (mFn (arity 2 f_law_take) [] (mCons (mVar 0) (mCons (mC (.int 9)) mNil)))) mNil))))))))))
def f_law_line : FM := runF 6 b_law_line
def b_law_world : SM := (sSeq (sAsg (mSl false (mLst false (mCons (mC (.str "ash")) (mCons (mC (.str "bay")) (mCons (mC (.str "elm")) (mCons (mC (.str "fir")) (mCons (mC (.str "gum")) (mCons (mC (.str "ivy")) mNil))))))) oNone (oSome (mOp (gAdd false) (mC (.int 1)) (mFn (arity 2 f_law_take) [] (mCons (mVar 0) (mCons (mC (.int 6)) mNil)))))) (bName 1))
    (sSeq (sAsg (mLst true mNil) (bName 2))
    (sSeq (sIf (mTest (mOp gGt (mCall (g1 gLen) (mCons (mVar 1) mNil)) (mC (.int 1)))) (sForR1 (mCons (mFn (arity 2 f_law_take) [] (mCons (mVar 0) (mCons (mC (.int 9)) mNil))) mNil) (bName 3) (sDrop (mApp (mVar 2) (mFn (arity 3 f_law_line) [] (mCons (mVar 0) (mCons (mOp (gAdd false) (mC (.str "l")) (mOp gIx (mC (.str "abcdefgh")) (mVar 3))) (mCons (mVar 1) mNil))))))) sNext)
    (sSeq (sAsg (mLst true mNil) (bName 4))
    (sSeq (sForR1 (mCons (mFn (arity 2 f_law_take) [] (mCons (mVar 0) (mCons (mC (.int 6)) mNil))) mNil) (bName 3) (sDrop (mApp (mVar 4) (mFn (arity 3 f_law_plant) [] (mCons (mVar 0) (mCons (mOp (gAdd false) (mC (.str "p")) (mOp gIx (mC (.str "abcde")) (mVar 3))) (mCons (mVar 1) mNil)))))))
    (sRet (mLst false (mCons (mVar 1) (mCons (mFrz (mVar 2)) (mCons (mFrz (mVar 4)) mNil))))))))))
def f_law_world : FM := runF 5 b_law_world
def b_land_init : SM := (sSeq (sFldM "Land" "_stations" (mVar 0) (mLst true mNil))
    (sSeq (sFldM "Land" "_lines" (mVar 0) mDNew)
    (sSeq (sFldM "Land" "_plants" (mVar 0) mDNew)
    (sFldM "Land" "_selves" (mVar 0) (mLst true mNil)))))
def f_land_init : FM := runF 1 b_land_init
def b_is_name : SM := (sSeq (sIf (mOr (mNot (mTest (mIsi "str" (mVar 0)))) (mNot (mTest (mChain gLe gLe (mC (.int 1)) (mCall (g1 gLen) (mCons (mVar 0) mNil)) (mC (.int 12)))))) (sRet (mC (.bl false))) sNext)
    (sSeq (sForS (mVar 0) (bName 1) (sIf (mTest (mOp gNotIn (mVar 1) (mC (.str "abcdefghijklmnopqrstuvwxyz")))) (sRet (mC (.bl false))) sNext))
    (sRet (mC (.bl true)))))
def f_is_name : FM := runF 2 b_is_name
def b_checked_name : SM := (sSeq (sIf (mNot (mTest (mFn (arity 1 f_is_name) [] (mCons (mVar 0) mNil)))) (sRaise "InvalidName" (mCons (mC (.str "no name")) mNil)) sNext)
    (sRet (mVar 0)))
def f_checked_name : FM := runF 1 b_checked_name
def b_land_kind : SM := (sSeq (sIf (mTest (mOp gIn (mVar 1) (mFld "Land" "_stations" (mVar 0)))) (sRet (mC (.str "station"))) sNext)
    (sSeq (sIf (mTest (mDIn true (mVar 1) (mFld "Land" "_lines" (mVar 0)))) (sRet (mC (.str "line"))) sNext)
    (sSeq (sIf (mTest (mDIn true (mVar 1) (mFld "Land" "_plants" (mVar 0)))) (sRet (mC (.str "plant"))) sNext)
    (sRet (mC .non)))))
def f_land_kind : FM := runF 2 b_land_kind
def b_land_free : SM := (sSeq (sDrop (mFn (arity 1 f_checked_name) [] (mCons (mVar 1) mNil)))
    (sIf (mTest (mOp gIsNot (mMeth "Land" "kind" (arity 2 f_land_kind) [] (mVar 0) (mCons (mVar 1) mNil)) (mC .non))) (sRaise "DuplicateName" (mCons (mVar 1) mNil)) sNext))
def f_land_free : FM := runF 2 b_land_free
def b_land_room : SM := (sIf (mTest (mOp gGe (mCall (g1 gLen) (mCons (mVar 1) mNil)) (mC (.int 60)))) (sRaise "TooMany" (mCons (mOp (gAdd false) (mC (.str "more than ")) (mCall (g1 gStr) (mCons (mC (.int 60)) mNil))) mNil)) sNext)
def f_land_room : FM := runF 2 b_land_room
def b_land_add_station : SM := (sSeq (sDrop (mMeth "Land" "_free" (arity 2 f_land_free) [] (mVar 0) (mCons (mVar 1) mNil)))
    (sSeq (sDrop (mMeth "Land" "_room" (arity 2 f_land_room) [] (mVar 0) (mCons (mFld "Land" "_stations" (mVar 0)) mNil)))
    (sFldM "Land" "_stations" (mVar 0) (mCall (g1 (gSorted true)) (mCons (mOp (gAdd false) (mFld "Land" "_stations" (mVar 0)) (mLst false (mCons (mVar 1) mNil))) mNil)))))
def f_land_add_station : FM := runF 2 b_land_add_station
def b_land_there : SM := (sIf (mTest (mOp gNotIn (mVar 1) (mFld "Land" "_stations" (mVar 0)))) (sRaise "UnknownName" (mCons (mC (.str "station")) mNil)) sNext)
def f_land_there : FM := runF 2 b_land_there
def b_is_number : SM := (sSeq (sIf (mOr (mTest (mIsi "bool" (mVar 0))) (mNot (mTest (mIsi "int" (mVar 0))))) (sRet (mC (.bl false))) sNext)
    (sRet (mChain gLe gLe (mVar 1) (mVar 0) (mVar 2))))
def f_is_number : FM := runF 3 b_is_number
def b_checked_number : SM := (sSeq (sIf (mNot (mTest (mFn (arity 3 f_is_number) [] (mCons (mVar 0) (mCons (mVar 1) (mCons (mVar 2) mNil)))))) (sRaise "InvalidNumber" (mCons (mOp (gAdd false) (mOp (gAdd false) (mOp (gAdd false) (mC (.str "no number from ")) (mCall (g1 gStr) (mCons (mVar 1) mNil))) (mC (.str " to "))) (mCall (g1 gStr) (mCons (mVar 2) mNil))) mNil)) sNext)
    (sRet (mVar 0)))
def f_checked_number : FM := runF 3 b_checked_number
def b_land_add_line : SM := (sSeq (sDrop (mMeth "Land" "_free" (arity 2 f_land_free) [] (mVar 0) (mCons (mVar 1) mNil)))
    (sSeq (sDrop (mMeth "Land" "_there" (arity 2 f_land_there) [] (mVar 0) (mCons (mVar 2) mNil)))
    (sSeq (sDrop (mMeth "Land" "_there" (arity 2 f_land_there) [] (mVar 0) (mCons (mVar 3) mNil)))
    (sSeq (sIf (mTest (mOp gEq (mVar 2) (mVar 3))) (sRaise "SameStation" (mCons (mVar 2) mNil)) sNext)
    (sSeq (sDrop (mFn (arity 3 f_checked_number) [.int 0, .int 1000000] (mCons (mVar 4) mNil)))
    (sSeq (sDrop (mFn (arity 3 f_checked_number) [.int 1000000] (mCons (mVar 5) (mCons (mC (.int 1)) mNil))))
    (sSeq (sDrop (mMeth "Land" "_room" (arity 2 f_land_room) [] (mVar 0) (mCons (mFld "Land" "_lines" (mVar 0)) mNil)))
    (sDPutM (mFld "Land" "_lines" (mVar 0)) (mVar 1) (mTup (mCons (mCall (g2 gMinA) (mCons (mVar 2) (mCons (mVar 3) mNil))) (mCons (mCall (g2 gMaxA) (mCons (mVar 2) (mCons (mVar 3) mNil))) (mCons (mVar 4) (mCons (mVar 5) mNil)))))))))))))
def f_land_add_line : FM := runF 6 b_land_add_line
def b_land_add_self : SM := (sSeq (sDrop (mMeth "Land" "_free" (arity 2 f_land_free) [] (mVar 0) (mCons (mVar 1) mNil)))
    (sSeq (sDrop (mMeth "Land" "_there" (arity 2 f_land_there) [] (mVar 0) (mCons (mVar 2) mNil)))
    (sSeq (sDrop (mFn (arity 3 f_checked_number) [.int 0, .int 1000000] (mCons (mVar 3) mNil)))
    (sSeq (sDrop (mFn (arity 3 f_checked_number) [.int 1000000] (mCons (mVar 4) (mCons (mC (.int 1)) mNil))))
    (sSeq (sDrop (mMeth "Land" "_room" (arity 2 f_land_room) [] (mVar 0) (mCons (mFld "Land" "_plants" (mVar 0)) mNil)))
    (sSeq (sDPutM (mFld "Land" "_plants" (mVar 0)) (mVar 1) (mTup (mCons (mVar 2) (mCons (mC (.int 0)) (mCons (mVar 3) (mCons (mVar 4) (mCons (mC (.int 1000000)) (mCons (mC (.int 1000000)) (mCons (mVar 4) mNil)))))))))
    (sDrop (mApp (mFld "Land" "_selves" (mVar 0)) (mVar 1)))))))))
def f_land_add_self : FM := runF 5 b_land_add_self
def b_land_add_plant : SM := (sSeq (sDrop (mMeth "Land" "_free" (arity 2 f_land_free) [] (mVar 0) (mCons (mVar 1) mNil)))
    (sSeq (sDrop (mMeth "Land" "_there" (arity 2 f_land_there) [] (mVar 0) (mCons (mVar 2) mNil)))
    (sSeq (sForT (mTup (mCons (mVar 3) (mCons (mVar 4) mNil))) (bName 9) (sDrop (mFn (arity 3 f_checked_number) [.int 0, .int 1000000] (mCons (mVar 9) mNil))))
    (sSeq (sDrop (mFn (arity 3 f_checked_number) [.int 1000000] (mCons (mVar 5) (mCons (mC (.int 1)) mNil))))
    (sSeq (sDrop (mFn (arity 3 f_checked_number) [.int 0, .int 1000000] (mCons (mVar 6) mNil)))
    (sSeq (sDrop (mFn (arity 3 f_checked_number) [.int 0, .int 1000000] (mCons (mVar 7) mNil)))
    (sSeq (sDrop (mFn (arity 3 f_checked_number) [.int 1000000] (mCons (mVar 8) (mCons (mC (.int 1)) mNil))))
    (sSeq (sIf (mOr (mTest (mOp gLt (mVar 8) (mVar 5))) (mTest (mOp gLt (mVar 7) (mVar 6)))) (sRaise "InvalidNumber" (mCons (mC (.str "slow below quick, or cool below hot")) mNil)) sNext)
    (sSeq (sDrop (mMeth "Land" "_room" (arity 2 f_land_room) [] (mVar 0) (mCons (mFld "Land" "_plants" (mVar 0)) mNil)))
    (sDPutM (mFld "Land" "_plants" (mVar 0)) (mVar 1) (mTup (mCons (mVar 2) (mCons (mVar 3) (mCons (mVar 4) (mCons (mVar 5) (mCons (mVar 6) (mCons (mVar 7) (mCons (mVar 8) mNil))))))))))))))))))
def f_land_add_plant : FM := runF 10 b_land_add_plant
def b_law_build : SM := (sSeq (sAsg (mMake "Land" (arity 1 f_land_init) [] mNil) (bName 1))
    (sSeq (sForL (mOp gIx (mVar 0) (mC (.int 0))) (bName 2) (sDrop (mMeth "Land" "add_station" (arity 2 f_land_add_station) [] (mVar 1) (mCons (mVar 2) mNil))))
    (sSeq (sForL (mOp gIx (mVar 0) (mC (.int 1))) (bTup 5 (bCons (bName 2) (bCons (bName 3) (bCons (bName 4) (bCons (bName 5) (bCons (bName 6) bNil)))))) (sDrop (mMeth "Land" "add_line" (arity 6 f_land_add_line) [] (mVar 1) (mCons (mVar 2) (mCons (mVar 3) (mCons (mVar 4) (mCons (mVar 5) (mCons (mVar 6) mNil))))))))
    (sSeq (sForL (mOp gIx (mVar 0) (mC (.int 2))) (bTup 9 (bCons (bName 2) (bCons (bName 7) (bCons (bName 5) (bCons (bName 8) (bCons (bName 9) (bCons (bName 10) (bCons (bName 11) (bCons (bName 12) (bCons (bName 13) bNil)))))))))) (sIf (mTru (mVar 13)) (sDrop (mMeth "Land" "add_self" (arity 5 f_land_add_self) [] (mVar 1) (mCons (mVar 2) (mCons (mVar 7) (mCons (mVar 8) (mCons (mVar 9) mNil)))))) (sDrop (mMeth "Land" "add_plant" (arity 9 f_land_add_plant) [] (mVar 1) (mCons (mVar 2) (mCons (mVar 7) (mCons (mVar 5) (mCons (mVar 8) (mCons (mVar 9) (mCons (mVar 10) (mCons (mVar 11) (mCons (mVar 12) mNil))))))))))))
    (sRet (mVar 1))))))
def f_law_build : FM := runF 14 b_law_build
def b_land_stations : SM := (sRet (mCall (g1 (gList false)) (mCons (mFld "Land" "_stations" (mVar 0)) mNil)))
def f_land_stations : FM := runF 1 b_land_stations
def b_land_line : SM := (sSeq (sIf (mTest (mDIn false (mVar 1) (mFld "Land" "_lines" (mVar 0)))) (sRaise "UnknownName" (mCons (mC (.str "line")) mNil)) sNext)
    (sRet (mDGet (mFld "Land" "_lines" (mVar 0)) (mVar 1))))
def f_land_line : FM := runF 2 b_land_line
def b_moment_mark : SM := (sSeq (sAsg mDNew (bName 1))
    (sSeq (sForL (mFld "Moment" "_lit" (mVar 0)) (bName 2) (sDPutM (mVar 1) (mVar 2) (mLst true mNil)))
    (sSeq (sForL (mFld "Moment" "_closed" (mVar 0)) (bName 2) (sSeq (sAsg (mMeth "Land" "line" (arity 2 f_land_line) [] (mFld "Moment" "_land" (mVar 0)) (mCons (mVar 2) mNil)) (bTup 4 (bCons (bName 3) (bCons (bName 4) (bCons (bName 5) (bCons (bName 6) bNil))))))
    (sIf (mAnd (mTest (mDIn true (mVar 3) (mVar 1))) (mTest (mDIn true (mVar 4) (mVar 1)))) (sSeq (sDrop (mApp (mDGet (mVar 1) (mVar 3)) (mVar 4)))
    (sDrop (mApp (mDGet (mVar 1) (mVar 4)) (mVar 3)))) sNext)))
    (sForL (mFld "Moment" "_lit" (mVar 0)) (bName 7) (sIf (mTest (mDIn false (mVar 7) (mFld "Moment" "_root" (mVar 0)))) (sSeq (sDPutM (mFld "Moment" "_root" (mVar 0)) (mVar 7) (mVar 7))
    (sSeq (sAsg (mLst true (mCons (mVar 7) mNil)) (bName 8))
    (sWhile 10000 (mTru (mVar 8)) (sForL (mDGet (mVar 1) (mBL gPop (mVar 8) mNil)) (bName 4) (sIf (mTest (mDIn false (mVar 4) (mFld "Moment" "_root" (mVar 0)))) (sSeq (sDPutM (mFld "Moment" "_root" (mVar 0)) (mVar 4) (mVar 7))
    (sDrop (mApp (mVar 8) (mVar 4)))) sNext))))) sNext)))))
def f_moment_mark : FM := runF 9 b_moment_mark
def b_land_lines : SM := (sRet (mCall (g1 (gSorted false)) (mCons (mFld "Land" "_lines" (mVar 0)) mNil)))
def f_land_lines : FM := runF 1 b_land_lines
def b_land_plants : SM := (sRet (mCall (g1 (gSorted false)) (mCons (mFld "Land" "_plants" (mVar 0)) mNil)))
def f_land_plants : FM := runF 1 b_land_plants
def b_moment_init : SM := (sSeq (sFldM "Moment" "_land" (mVar 0) (mVar 1))
    (sSeq (sFldM "Moment" "_names" (mVar 0) (mMeth "Land" "stations" (arity 1 f_land_stations) [] (mVar 1) mNil))
    (sSeq (sFldM "Moment" "_lit" (mVar 0) (mLcL false (mFld "Moment" "_names" (mVar 0)) [5] (bName 5) (mTest (mOp gIn (mVar 5) (mVar 2))) (mVar 5)))
    (sSeq (sFldM "Moment" "_closed" (mVar 0) (mLcL false (mMeth "Land" "lines" (arity 1 f_land_lines) [] (mVar 1) mNil) [5] (bName 5) (mTest (mOp gIn (mVar 5) (mVar 3))) (mVar 5)))
    (sSeq (sFldM "Moment" "_running" (mVar 0) (mLcL false (mMeth "Land" "plants" (arity 1 f_land_plants) [] (mVar 1) mNil) [5] (bName 5) (mTest (mOp gIn (mVar 5) (mVar 4))) (mVar 5)))
    (sSeq (sFldM "Moment" "_root" (mVar 0) mDNew)
    (sDrop (mMeth "Moment" "_mark" (arity 1 f_moment_mark) [] (mVar 0) mNil))))))))
def f_moment_init : FM := runF 6 b_moment_init
def b_law_ends : SM := (sRet (mIf (mTest (mOp gEq (mCall (g1 gLen) (mCons (mVar 0) mNil)) (mC (.int 9)))) (mLst false (mCons (mOp gIx (mVar 0) (mC (.int 1))) mNil)) (mLst false (mCons (mOp gIx (mVar 0) (mC (.int 1))) (mCons (mOp gIx (mVar 0) (mC (.int 2))) mNil)))))
def f_law_ends : FM := runF 1 b_law_ends
def b_moment_known : SM := (sIf (mTest (mOp gNotIn (mVar 1) (mFld "Moment" "_names" (mVar 0)))) (sRaise "UnknownName" (mCons (mC (.str "station")) mNil)) sNext)
def f_moment_known : FM := runF 2 b_moment_known
def b_land_plant : SM := (sSeq (sIf (mTest (mDIn false (mVar 1) (mFld "Land" "_plants" (mVar 0)))) (sRaise "UnknownName" (mCons (mC (.str "plant")) mNil)) sNext)
    (sRet (mDGet (mFld "Land" "_plants" (mVar 0)) (mVar 1))))
def f_land_plant : FM := runF 2 b_land_plant
end DK.W
end
section
set_option Elab.async false
set_option linter.all false
set_option autoImplicit false
set_option maxRecDepth 100000
set_option maxHeartbeats 4000000
/-! DKWorld: the drawn lands of the laws, in plain Lean. -/
namespace DK.W
open PySem L2 DK
abbrev STN : List Str := ["ash", "bay", "elm", "fir", "gum", "ivy"]
abbrev LNN : List Str := ["la", "lb", "lc", "ld", "le", "lf", "lg", "lh", "ma", "mb", "mc", "md"]
abbrev PLN : List Str := ["pa", "pb", "pc", "pd", "pe", "qa", "qb", "qc", "qd"]
structure Ln where
  n : Str
  a : Str
  b : Str
  need : Int
  min : Int
structure Pl where
  n : Str
  s : Str
  need : Int
  gives : Int
  quick : Int
  hot : Int
  cool : Int
  slow : Int
  alone : Bool
abbrev encL (l : Ln) : D := .tup [.str l.n, .str l.a, .str l.b, .int l.need, .int l.min]
abbrev encP (p : Pl) : D := .tup [.str p.n, .str p.s, .int p.need, .int p.gives, .int p.quick, .int p.hot, .int p.cool, .int p.slow, .bl p.alone]
structure LnOK (st : List Str) (l : Ln) : Prop where
  a : l.a ∈ st
  b : l.b ∈ st
  ab : ltSV l.a l.b = true
  need : 0 ≤ l.need ∧ l.need ≤ 31
  min : 1 ≤ l.min ∧ l.min ≤ 9
structure PlOK (st : List Str) (p : Pl) : Prop where
  s : p.s ∈ st
  need : 0 ≤ p.need ∧ p.need ≤ 25
  gives : 0 ≤ p.gives ∧ p.gives ≤ 100
  quick : 1 ≤ p.quick ∧ p.quick ≤ 9
  slow : p.quick ≤ p.slow ∧ p.slow ≤ 20
  hot : 0 ≤ p.hot ∧ p.hot ≤ 1000000
  cool : p.hot ≤ p.cool ∧ p.cool ≤ 1000000
  alone : p.alone = true → p.need = 0 ∧ p.slow = p.quick ∧ p.hot = 1000000 ∧ p.cool = 1000000
structure Wd where
  st : List Str
  ls : List Ln
  ps : List Pl
abbrev encW (w : Wd) : D := .lst [.lst (w.st.map .str), .lst (w.ls.map encL), .lst (w.ps.map encP)]
/-- .. and its minutes are small, as the laws draw them -/
structure PlS (st : List Str) (p : Pl) : Prop where
  ok : PlOK st p
  sm : p.alone = false → p.cool ≤ 240
structure WOK (w : Wd) : Prop where
  st : w.st.Sublist STN
  ll : w.ls.length ≤ 12
  ln : (w.ls.map (·.n)).Sublist LNN
  pl : w.ps.length ≤ 9
  pn : (w.ps.map (·.n)).Sublist PLN
  lok : ∀ l ∈ w.ls, LnOK w.st l
  pok : ∀ p ∈ w.ps, PlOK w.st p
  tot : w.ls.length + w.ps.length ≤ 17
theorem take_is : f_law_take = fTake := rfl
theorem pickI {xs : List Int} {v : Int} (h0 : 0 ≤ v) (h1 : v < xs.length) : ∃ k ∈ xs, atI (xs.map D.int) v = some (.int k) := by
  obtain ⟨k, hk⟩ : ∃ k, xs[v.toNat]? = some k := ⟨xs[v.toNat]'(by omega), List.getElem?_eq_getElem _⟩
  exact ⟨k, List.mem_of_getElem? hk, atI_nat h0 (by rw [List.getElem?_map, hk]; rfl)⟩
theorem pickS {xs : List Str} {v : Int} (h0 : 0 ≤ v) (h1 : v < xs.length) : ∃ k, xs[v.toNat]? = some k ∧ atI (xs.map D.str) v = some (.str k) := by
  obtain ⟨k, hk⟩ : ∃ k, xs[v.toNat]? = some k := ⟨xs[v.toNat]'(by omega), List.getElem?_eq_getElem _⟩
  exact ⟨k, hk, atI_nat h0 (by rw [List.getElem?_map, hk]; rfl)⟩
theorem line_ok {b : Nat} {O : Store} {nm : Str} {st : List Str} (h : Take b 0 O) (hb : b ≤ 2 ^ 30) (nd : st.Nodup) (h2 : 2 ≤ st.length) (h6 : st.length ≤ 6) :
    ∃ l O', f_law_line [.hdl 0, .str nm, .lst (st.map .str)] O = .ok (encL l) O' ∧ l.n = nm ∧ LnOK st l ∧ Take (b + 4) 0 O' ∧ Fr O O' ∧ O'.length = O.length := by
  obtain ⟨v1, O1, e1, v10, v11, t1, f1, l1⟩ := tk1 (m := st.length) h (by omega) (by omega) (by omega)
  obtain ⟨v2, O2, e2, v20, v21, t2, f2, l2⟩ := tk1 (m := (st.length : Int) - 1) t1 (by omega) (by omega) (by omega)
  obtain ⟨v3, O3, e3, v30, v31, t3, f3, l3⟩ := tk1 (m := 7) t2 (by omega) (by omega) (by omega)
  obtain ⟨v4, O4, e4, v40, v41, t4, f4, l4⟩ := tk1 (m := 9) t3 (by omega) (by omega) (by omega)
  obtain ⟨w, hw⟩ : ∃ w, (v1 + 1 + v2) % (st.length : Int) = w := ⟨_, rfl⟩
  have hw0 : 0 ≤ w ∧ w < st.length ∧ w ≠ v1 := by
    rcases Int.lt_or_le (v1 + 1 + v2) (st.length : Int) with c | c
    · rw [Int.emod_eq_of_lt (by omega) c] at hw
      omega
    · rw [← Int.sub_emod_right, Int.emod_eq_of_lt (by omega) (by omega)] at hw
      omega
  have hm : ∀ O : Store, gMod O (.int (v1 + 1 + v2)) (.int (st.length : Int)) = some (.int w, O) := fun O => by
    rw [← hw]
    exact gMod_ok (by omega)
  obtain ⟨k3, hk3, i3⟩ := pickI (xs := [0, 0, 3, 8, 12, 20, 31]) (v := v3) v30 (by simpa using v31)
  simp only [List.map_cons, List.map_nil] at i3
  obtain ⟨s1, hs1, i1⟩ := pickS (xs := st) v10 v11
  obtain ⟨s2, hs2, i2⟩ := pickS (xs := st) hw0.1 hw0.2.1
  have ne : s1 ≠ s2 := fun z => by
    subst z
    obtain ⟨q1, q2⟩ := List.getElem?_eq_some_iff.mp hs1
    obtain ⟨q3, q4⟩ := List.getElem?_eq_some_iff.mp hs2
    have := (List.getElem_inj nd).mp (q2.trans q4.symm)
    omega
  obtain ⟨x, y, hx, hy, xy, cs⟩ := minmax ne
  refine ⟨⟨nm, x, y, k3, 1 + v4⟩, O4, ?_, rfl, ⟨?_, ?_, xy, ?_, by show 1 ≤ 1 + v4 ∧ 1 + v4 ≤ 9; omega⟩, tmono (by omega) t4, (f1.trans f2).trans (f3.trans f4), by omega⟩
  · simp [f_law_line, b_law_line, runF, sSeq, sIf, sNext, sDrop, sRet, sRetN, sAsg, ofRes, ofB, bName, bNil, bCons, bTup, bLst, bSubL, mTest, mOp, mVar, mC, mChain, mAnd, mOr, mNot, mIf, mAndV, mOrV, mNotV, mNeg, mCons, mNil, mTup, mLst, newL, mCall, mFn, arity, g1, g2, gLen, gInt, gAbs, gMax2, gMin2, gIx, seqOf, lsqOf, lstOf, Res.bind, ofO, gAdd_ok, gSub_ok, gEq_int, gNe_int, gLt_int, gLe_int, gGt_int, gGe_int, gEq_bl, gNe_bl, gEq_str, gNe_str, mIsi, mIsiT, tyD, kitL, kitTab, atI_c0, atI_c1, atI_c2, atI_c3, atI_c4, sForR1, int1, int2, mMeth, mMake, mFld, sFldM, gIs, gIsNot, isNon_t, sRaise, gList, newLO, take_is, e1, e2, e3, e4, hm, i1, i2, i3, gMinA, gMaxA, hx, hy]
  · show x ∈ st
    rcases cs with ⟨rfl, _⟩ | ⟨rfl, _⟩
    · exact List.mem_of_getElem? hs1
    · exact List.mem_of_getElem? hs2
  · show y ∈ st
    rcases cs with ⟨_, rfl⟩ | ⟨_, rfl⟩
    · exact List.mem_of_getElem? hs2
    · exact List.mem_of_getElem? hs1
  · show 0 ≤ k3 ∧ k3 ≤ 31
    simp at hk3
    omega
theorem plant_ok {b : Nat} {O : Store} {nm : Str} {st : List Str} (h : Take b 0 O) (hb : b ≤ 2 ^ 30) (h2 : 1 ≤ st.length) (h6 : st.length ≤ 6) :
    ∃ p O', f_law_plant [.hdl 0, .str nm, .lst (st.map .str)] O = .ok (encP p) O' ∧ p.n = nm ∧ PlS st p ∧ Take (b + 8) 0 O' ∧ Fr O O' ∧ O'.length = O.length := by
  obtain ⟨v1, O1, e1, v10, v11, t1, f1, l1⟩ := tk1 (m := st.length) h (by omega) (by omega) (by omega)
  obtain ⟨v2, O2, e2, v20, v21, t2, f2, l2⟩ := tk1 (m := 6) t1 (by omega) (by omega) (by omega)
  obtain ⟨v3, O3, e3, v30, v31, t3, f3, l3⟩ := tk1 (m := 3) t2 (by omega) (by omega) (by omega)
  obtain ⟨s1, hs1, i1⟩ := pickS (xs := st) v10 v11
  obtain ⟨k2, hk2, i2⟩ := pickI (xs := [0, 3, 5, 9, 12, 20]) (v := v2) v20 (by simpa using v21)
  simp only [List.map_cons, List.map_nil] at i2
  have g2 : 0 ≤ k2 ∧ k2 ≤ 20 := by
    simp at hk2
    omega
  have f123 := (f1.trans f2).trans f3
  by_cases c : v3 = 0 ∨ nm = "pa"
  · obtain ⟨v4, O4, e4, v40, v41, t4, f4, l4⟩ := tk1 (m := 9) t3 (by omega) (by omega) (by omega)
    refine ⟨⟨nm, s1, 0, k2, 1 + v4, 1000000, 1000000, 1 + v4, true⟩, O4, ?_, rfl, ⟨⟨List.mem_of_getElem? hs1, ⟨Int.le_refl 0, by show (0 : Int) ≤ 25; decide⟩, ⟨g2.1, Int.le_trans g2.2 (by decide)⟩, by show 1 ≤ 1 + v4 ∧ 1 + v4 ≤ 9; omega, by show 1 + v4 ≤ 1 + v4 ∧ 1 + v4 ≤ 20; omega, by show (0 : Int) ≤ 1000000 ∧ (1000000 : Int) ≤ 1000000; decide, by show (1000000 : Int) ≤ 1000000 ∧ (1000000 : Int) ≤ 1000000; decide, fun _ => ⟨rfl, rfl, rfl, rfl⟩⟩, (fun z => by cases z)⟩, tmono (by omega) t4, f123.trans f4, by omega⟩
    rcases c with c | c
    · simp [f_law_plant, b_law_plant, runF, sSeq, sIf, sNext, sDrop, sRet, sRetN, sAsg, ofRes, ofB, bName, bNil, bCons, bTup, bLst, bSubL, mTest, mOp, mVar, mC, mChain, mAnd, mOr, mNot, mIf, mAndV, mOrV, mNotV, mNeg, mCons, mNil, mTup, mLst, newL, mCall, mFn, arity, g1, g2, gLen, gInt, gAbs, gMax2, gMin2, gIx, seqOf, lsqOf, lstOf, Res.bind, ofO, gAdd_ok, gSub_ok, gEq_int, gNe_int, gLt_int, gLe_int, gGt_int, gGe_int, gEq_bl, gNe_bl, gEq_str, gNe_str, mIsi, mIsiT, tyD, kitL, kitTab, atI_c0, atI_c1, atI_c2, atI_c3, atI_c4, sForR1, int1, int2, mMeth, mMake, mFld, sFldM, gIs, gIsNot, isNon_t, sRaise, gList, newLO, take_is, e1, e2, e3, e4, i1, i2, c]
    · by_cases c3 : v3 = 0
      · simp [f_law_plant, b_law_plant, runF, sSeq, sIf, sNext, sDrop, sRet, sRetN, sAsg, ofRes, ofB, bName, bNil, bCons, bTup, bLst, bSubL, mTest, mOp, mVar, mC, mChain, mAnd, mOr, mNot, mIf, mAndV, mOrV, mNotV, mNeg, mCons, mNil, mTup, mLst, newL, mCall, mFn, arity, g1, g2, gLen, gInt, gAbs, gMax2, gMin2, gIx, seqOf, lsqOf, lstOf, Res.bind, ofO, gAdd_ok, gSub_ok, gEq_int, gNe_int, gLt_int, gLe_int, gGt_int, gGe_int, gEq_bl, gNe_bl, gEq_str, gNe_str, mIsi, mIsiT, tyD, kitL, kitTab, atI_c0, atI_c1, atI_c2, atI_c3, atI_c4, sForR1, int1, int2, mMeth, mMake, mFld, sFldM, gIs, gIsNot, isNon_t, sRaise, gList, newLO, take_is, e1, e2, e3, e4, i1, i2, c3]
      · simp [f_law_plant, b_law_plant, runF, sSeq, sIf, sNext, sDrop, sRet, sRetN, sAsg, ofRes, ofB, bName, bNil, bCons, bTup, bLst, bSubL, mTest, mOp, mVar, mC, mChain, mAnd, mOr, mNot, mIf, mAndV, mOrV, mNotV, mNeg, mCons, mNil, mTup, mLst, newL, mCall, mFn, arity, g1, g2, gLen, gInt, gAbs, gMax2, gMin2, gIx, seqOf, lsqOf, lstOf, Res.bind, ofO, gAdd_ok, gSub_ok, gEq_int, gNe_int, gLt_int, gLe_int, gGt_int, gGe_int, gEq_bl, gNe_bl, gEq_str, gNe_str, mIsi, mIsiT, tyD, kitL, kitTab, atI_c0, atI_c1, atI_c2, atI_c3, atI_c4, sForR1, int1, int2, mMeth, mMake, mFld, sFldM, gIs, gIsNot, isNon_t, sRaise, gList, newLO, take_is, e1, e2, e3, e4, i1, i2, c3, c]
  · have c3 : ¬ v3 = 0 := fun z => c (.inl z)
    have cn : ¬ nm = "pa" := fun z => c (.inr z)
    obtain ⟨v4, O4, e4, v40, v41, t4, f4, l4⟩ := tk1 (m := 6) t3 (by omega) (by omega) (by omega)
    obtain ⟨v5, O5, e5, v50, v51, t5, f5, l5⟩ := tk1 (m := 6) t4 (by omega) (by omega) (by omega)
    obtain ⟨v6, O6, e6, v60, v61, t6, f6, l6⟩ := tk1 (m := 6) t5 (by omega) (by omega) (by omega)
    obtain ⟨v7, O7, e7, v70, v71, t7, f7, l7⟩ := tk1 (m := 5) t6 (by omega) (by omega) (by omega)
    obtain ⟨v8, O8, e8, v80, v81, t8, f8, l8⟩ := tk1 (m := 9) t7 (by omega) (by omega) (by omega)
    obtain ⟨k4, hk4, i4⟩ := pickI (xs := [0, 3, 5, 9, 14, 25]) (v := v4) v40 (by simpa using v41)
    obtain ⟨k6, hk6, i6⟩ := pickI (xs := [0, 4, 9, 15, 30, 200]) (v := v6) v60 (by simpa using v61)
    obtain ⟨k7, hk7, i7⟩ := pickI (xs := [0, 1, 5, 12, 40]) (v := v7) v70 (by simpa using v71)
    simp only [List.map_cons, List.map_nil] at i4 i6 i7
    have b4 : 0 ≤ k4 ∧ k4 ≤ 25 := by
      simp at hk4
      omega
    have b6 : 0 ≤ k6 ∧ k6 ≤ 200 := by
      simp at hk6
      omega
    have b7 : 0 ≤ k7 ∧ k7 ≤ 40 := by
      simp at hk7
      omega
    refine ⟨⟨nm, s1, k4, k2, 1 + v5, k6, k6 + k7, 1 + v5 + v8, false⟩, O8, ?_, rfl, ⟨⟨List.mem_of_getElem? hs1, b4, ⟨g2.1, Int.le_trans g2.2 (by decide)⟩, by show 1 ≤ 1 + v5 ∧ 1 + v5 ≤ 9; omega, by show 1 + v5 ≤ 1 + v5 + v8 ∧ 1 + v5 + v8 ≤ 20; omega, by show 0 ≤ k6 ∧ k6 ≤ 1000000; omega, by show k6 ≤ k6 + k7 ∧ k6 + k7 ≤ 1000000; omega, (fun z => by cases z)⟩, (fun _ => by show k6 + k7 ≤ 240; omega)⟩, tmono (by omega) t8, (f123.trans (f4.trans f5)).trans (f6.trans (f7.trans f8)), by omega⟩
    simp [f_law_plant, b_law_plant, runF, sSeq, sIf, sNext, sDrop, sRet, sRetN, sAsg, ofRes, ofB, bName, bNil, bCons, bTup, bLst, bSubL, mTest, mOp, mVar, mC, mChain, mAnd, mOr, mNot, mIf, mAndV, mOrV, mNotV, mNeg, mCons, mNil, mTup, mLst, newL, mCall, mFn, arity, g1, g2, gLen, gInt, gAbs, gMax2, gMin2, gIx, seqOf, lsqOf, lstOf, Res.bind, ofO, gAdd_ok, gSub_ok, gEq_int, gNe_int, gLt_int, gLe_int, gGt_int, gGe_int, gEq_bl, gNe_bl, gEq_str, gNe_str, mIsi, mIsiT, tyD, kitL, kitTab, atI_c0, atI_c1, atI_c2, atI_c3, atI_c4, sForR1, int1, int2, mMeth, mMake, mFld, sFldM, gIs, gIsNot, isNon_t, sRaise, gList, newLO, take_is, e1, e2, e3, e4, e5, e6, e7, e8, i1, i2, i4, i6, i7, c3, cn]
theorem stn_nodup (n : Nat) : (STN.take n).Nodup := (by decide : STN.Nodup).sublist (List.take_sublist _ _)
theorem lname {O : Store} {k : Nat} (h : k < 8) : ∃ c nm : Str, LNN[k]? = some nm ∧ gIx O (.str "abcdefgh") (.int (k : Int)) = some (.str c, O) ∧ gAdd false O (.str "l") (.str c) = some (.str nm, O) := by
  match k, h with
  | 0, _ => exact ⟨_, _, rfl, rfl, rfl⟩
  | 1, _ => exact ⟨_, _, rfl, rfl, rfl⟩
  | 2, _ => exact ⟨_, _, rfl, rfl, rfl⟩
  | 3, _ => exact ⟨_, _, rfl, rfl, rfl⟩
  | 4, _ => exact ⟨_, _, rfl, rfl, rfl⟩
  | 5, _ => exact ⟨_, _, rfl, rfl, rfl⟩
  | 6, _ => exact ⟨_, _, rfl, rfl, rfl⟩
  | 7, _ => exact ⟨_, _, rfl, rfl, rfl⟩
theorem pname {O : Store} {k : Nat} (h : k < 5) : ∃ c nm : Str, PLN[k]? = some nm ∧ gIx O (.str "abcde") (.int (k : Int)) = some (.str c, O) ∧ gAdd false O (.str "p") (.str c) = some (.str nm, O) := by
  match k, h with
  | 0, _ => exact ⟨_, _, rfl, rfl, rfl⟩
  | 1, _ => exact ⟨_, _, rfl, rfl, rfl⟩
  | 2, _ => exact ⟨_, _, rfl, rfl, rfl⟩
  | 3, _ => exact ⟨_, _, rfl, rfl, rfl⟩
  | 4, _ => exact ⟨_, _, rfl, rfl, rfl⟩
abbrev lnE : SM := sDrop (mApp (mVar 2) (mFn (arity 3 f_law_line) [] (mCons (mVar 0) (mCons (mOp (gAdd false) (mC (.str "l")) (mOp gIx (mC (.str "abcdefgh")) (mVar 3))) (mCons (mVar 1) mNil)))))
abbrev plE : SM := sDrop (mApp (mVar 4) (mFn (arity 3 f_law_plant) [] (mCons (mVar 0) (mCons (mOp (gAdd false) (mC (.str "p")) (mOp gIx (mC (.str "abcde")) (mVar 3))) (mCons (mVar 1) mNil)))))
theorem take_snoc {xs : List Str} {j : Nat} {y : Str} (h : xs[j]? = some y) : xs.take (j + 1) = xs.take j ++ [y] := by
  rw [List.take_succ, h]
  rfl
def bWorld (p q r : Int) : SM := (sSeq (sAsg (mSl false (mLst false (mCons (mC (.str "ash")) (mCons (mC (.str "bay")) (mCons (mC (.str "elm")) (mCons (mC (.str "fir")) (mCons (mC (.str "gum")) (mCons (mC (.str "ivy")) mNil))))))) oNone (oSome (mOp (gAdd false) (mC (.int 1)) (mFn (arity 2 f_law_take) [] (mCons (mVar 0) (mCons (mC (.int p)) mNil)))))) (bName 1))
    (sSeq (sAsg (mLst true mNil) (bName 2))
    (sSeq (sIf (mTest (mOp gGt (mCall (g1 gLen) (mCons (mVar 1) mNil)) (mC (.int 1)))) (sForR1 (mCons (mFn (arity 2 f_law_take) [] (mCons (mVar 0) (mCons (mC (.int q)) mNil))) mNil) (bName 3) (sDrop (mApp (mVar 2) (mFn (arity 3 f_law_line) [] (mCons (mVar 0) (mCons (mOp (gAdd false) (mC (.str "l")) (mOp gIx (mC (.str "abcdefgh")) (mVar 3))) (mCons (mVar 1) mNil))))))) sNext)
    (sSeq (sAsg (mLst true mNil) (bName 4))
    (sSeq (sForR1 (mCons (mFn (arity 2 f_law_take) [] (mCons (mVar 0) (mCons (mC (.int r)) mNil))) mNil) (bName 3) (sDrop (mApp (mVar 4) (mFn (arity 3 f_law_plant) [] (mCons (mVar 0) (mCons (mOp (gAdd false) (mC (.str "p")) (mOp gIx (mC (.str "abcde")) (mVar 3))) (mCons (mVar 1) mNil)))))))
    (sRet (mLst false (mCons (mVar 1) (mCons (mFrz (mVar 2)) (mCons (mFrz (mVar 4)) mNil))))))))))
theorem world_okS {p q r : Int} {b : Nat} {O : Store} (hp1 : 1 ≤ p) (hp2 : p ≤ 6) (hq1 : 1 ≤ q) (hq2 : q ≤ 9) (hr1 : 1 ≤ r) (hr2 : r ≤ 6) (h : Take b 0 O) (hb : b ≤ 2 ^ 29) : ∃ w O', runF 5 (bWorld p q r) [.hdl 0] O = .ok (encW w) O' ∧ WOK w ∧ Take (b + 100) 0 O' ∧ Fr O O' ∧ ((w.st.length : Int) ≤ p ∧ (w.ls.length : Int) < q ∧ (w.ps.length : Int) < r) ∧ ∀ y ∈ w.ps, y.alone = false → y.cool ≤ 240 := by
  obtain ⟨v, O1, e1, v0, v1, t1, f1, l1⟩ := tk1 (m := p) h (by omega) (by omega) (by omega)
  obtain ⟨st, hst⟩ : ∃ st, STN.take (1 + v).toNat = st := ⟨_, rfl⟩
  have hsl : st.length = (1 + v).toNat := by rw [← hst, List.length_take]; show min _ 6 = _; omega
  have hnd : st.Nodup := by rw [← hst]; exact stn_nodup _
  have hsl2 := slice_to (O := O1) (xs := STN.map .str) (v := 1 + v) (by omega) (by decide)
  rw [← List.map_take, hst] at hsl2
  simp only [List.map_cons, List.map_nil] at hsl2
  have tA : Take (b + 1) 0 (O1 ++ [.lst []]) := t1.fz fz_app
  have hn0 : O1.length ≠ 0 := by have := t1.len; omega
  -- the lines
  obtain ⟨y3, O3, eL, ls, hls, hll, hllq, hln, hlok, t3, f3, l3⟩ : ∃ (y3 : Option D) (O3 : Store), (sIf (mTest (mOp gGt (mCall (g1 gLen) (mCons (mVar 1) mNil)) (mC (.int 1)))) (sForR1 (mCons (mFn (arity 2 f_law_take) [] (mCons (mVar 0) (mCons (mC (.int q)) mNil))) mNil) (bName 3) lnE) sNext) [some (.hdl 0), some (.lst (st.map .str)), some (.hdl O1.length), none, none] (O1 ++ [.lst []]) = .next [some (.hdl 0), some (.lst (st.map .str)), some (.hdl O1.length), y3, none] O3 ∧
      ∃ ls : List Ln, O3[O1.length]? = some (.lst (ls.map encL)) ∧ ls.length ≤ 8 ∧ (ls.length : Int) < q ∧ ls.map (·.n) = LNN.take ls.length ∧ (∀ l ∈ ls, LnOK st l) ∧ Take (b + 40) 0 O3 ∧ Fr O1 O3 ∧ O3.length = O1.length + 1 := by
    by_cases c : 1 < st.length
    · obtain ⟨j, O2, e2, j0, j1, t2, f2, l2⟩ := tk1 (m := q) tA (by omega) (by omega) (by omega)
      obtain ⟨L', O3, e, ls, y3, rfl, hx, hl, hn, hok, t3, f3, l3⟩ := forR1_keeps (t := mCons (mFn (arity 2 f_law_take) [] (mCons (mVar 0) (mCons (mC (.int q)) mNil))) mNil) (b := bName 3) (body := lnE) (L := [some (.hdl 0), some (.lst (st.map .str)), some (.hdl O1.length), none, none]) (O := O1 ++ [.lst []]) (O1 := O2) (j := j)
        (I := fun i L O => ∃ (ls : List Ln) (y3 : Option D), L = [some (.hdl 0), some (.lst (st.map .str)), some (.hdl O1.length), y3, none] ∧ O[O1.length]? = some (.lst (ls.map encL)) ∧ ls.length = i ∧ ls.map (·.n) = LNN.take i ∧ (∀ l ∈ ls, LnOK st l) ∧ Take (b + 2 + 4 * i) 0 O ∧ Fr O1 O ∧ O.length = O1.length + 1)
        (by simp [runF, sSeq, sIf, sNext, sDrop, sRet, sRetN, sAsg, ofRes, ofB, bName, bNil, bCons, bTup, bLst, bSubL, mTest, mOp, mVar, mC, mChain, mAnd, mOr, mNot, mIf, mAndV, mOrV, mNotV, mNeg, mCons, mNil, mTup, mLst, newL, mCall, mFn, arity, g1, g2, gLen, gInt, gAbs, gMax2, gMin2, gIx, seqOf, lsqOf, lstOf, Res.bind, ofO, gAdd_ok, gSub_ok, gEq_int, gNe_int, gLt_int, gLe_int, gGt_int, gGe_int, gEq_bl, gNe_bl, gEq_str, gNe_str, mIsi, mIsiT, tyD, kitL, kitTab, atI_c0, atI_c1, atI_c2, atI_c3, atI_c4, sForR1, int1, int2, mMeth, mMake, mFld, sFldM, gIs, gIsNot, isNon_t, sRaise, gList, newLO, take_is, e2]) j0 (by omega)
        ⟨[], none, rfl, by rw [f2.2 _ (by omega) (by simp)]; simp, rfl, rfl, by simp, tmono (by omega) t2, fr_app.trans f2, by rw [l2]; simp⟩ fun i L O hi ⟨ls, y3, hL, hx, hl, hn, hok, t, f, l⟩ => by
          subst hL
          obtain ⟨l1, O', e, q1, q2, q3, q4, q5⟩ := line_ok (nm := (LNN[i]?).getD "") t (by omega) hnd (by omega) (by omega)
          obtain ⟨c, nm, n1, n2, n3⟩ := lname (O := O) (k := i) (by omega)
          rw [n1] at e q1
          simp only [Option.getD_some] at e q1
          refine ⟨_, O'.set O1.length (.lst (ls.map encL ++ [encL l1])), ?_, ls ++ [l1], some (.int i), rfl, ?_, ?_, ?_, ?_, ?_, ?_, ?_⟩
          · have ea := app_ok (m := mVar 2) (e := (mFn (arity 3 f_law_line) [] (mCons (mVar 0) (mCons (mOp (gAdd false) (mC (.str "l")) (mOp gIx (mC (.str "abcdefgh")) (mVar 3))) (mCons (mVar 1) mNil))))) (L := [some (.hdl 0), some (.lst (st.map .str)), some (.hdl O1.length), some (.int i), none]) (O := O) (O1 := O) (O2 := O') (n := O1.length) (xs0 := ls.map encL) (xs := ls.map encL) (y := encL l1) rfl hx
              (by simp [mFn, mCons, mNil, mVar, mOp, mC, arity, Res.bind, ofO, n2, n3, e]) (q4.at (by omega) hx) (by rw [List.length_map]; omega)
            show (lnE) _ _ = _
            simp only [lnE, sDrop, List.set_cons_succ, List.set_cons_zero]
            rw [ea]
            rfl
          · rw [List.getElem?_set_self (by omega), List.map_append]
            rfl
          · rw [List.length_append, List.length_singleton, hl]
          · rw [List.map_append, hn, take_snoc n1, ← q1]
            rfl
          · intro x hx
            rcases List.mem_append.mp hx with hx | hx
            · exact hok x hx
            · rw [List.mem_singleton.mp hx]; exact q2
          · exact tmono (by omega) (q3.set hn0)
          · exact fr_setNew (f.trans q4) (Nat.le_refl _)
          · rw [List.length_set, q5, l]
      refine ⟨y3, O3, ?_, ls, hx, by omega, by omega, by rw [hl, hn], hok, tmono (by omega) t3, f3, l3⟩
      have c2 : (1 : Int) < st.length := by omega
      simp only [sIf, mTest, mOp, mCall, mCons, mNil, mVar, mC, g1, gLen, seqOf, Res.bind, ofO, ofRes, List.getElem?_cons_succ, List.getElem?_cons_zero, List.length_map, gGt_int, c2, decide_true, if_true]
      exact e
    · refine ⟨none, O1 ++ [.lst []], ?_, [], by simp, by simp, by show (0 : Int) < q; omega, rfl, by simp, tmono (by omega) tA, fr_app, by simp⟩
      have c2 : ¬ (1 : Int) < st.length := by omega
      simp [runF, sSeq, sIf, sNext, sDrop, sRet, sRetN, sAsg, ofRes, ofB, bName, bNil, bCons, bTup, bLst, bSubL, mTest, mOp, mVar, mC, mChain, mAnd, mOr, mNot, mIf, mAndV, mOrV, mNotV, mNeg, mCons, mNil, mTup, mLst, newL, mCall, mFn, arity, g1, g2, gLen, gInt, gAbs, gMax2, gMin2, gIx, seqOf, lsqOf, lstOf, Res.bind, ofO, gAdd_ok, gSub_ok, gEq_int, gNe_int, gLt_int, gLe_int, gGt_int, gGe_int, gEq_bl, gNe_bl, gEq_str, gNe_str, mIsi, mIsiT, tyD, kitL, kitTab, atI_c0, atI_c1, atI_c2, atI_c3, atI_c4, sForR1, int1, int2, mMeth, mMake, mFld, sFldM, gIs, gIsNot, isNon_t, sRaise, gList, newLO, c2]
  -- the plants
  have hf3 : O3[O1.length]? = some (.lst (ls.map encL)) := hls
  have tB : Take (b + 40) 0 (O3 ++ [.lst []]) := t3.fz fz_app
  have hn3 : O3.length ≠ 0 := by omega
  obtain ⟨j, O4, e4, j0, j1, t4, f4, l4⟩ := tk1 (m := r) tB (by omega) (by omega) (by omega)
  obtain ⟨L', O5, eP, ps, y5, rfl, hps, hpl, hpn, hpok, t5, f5, l5⟩ := forR1_keeps (t := mCons (mFn (arity 2 f_law_take) [] (mCons (mVar 0) (mCons (mC (.int r)) mNil))) mNil) (b := bName 3) (body := plE) (L := [some (.hdl 0), some (.lst (st.map .str)), some (.hdl O1.length), y3, some (.hdl O3.length)]) (O := O3 ++ [.lst []]) (O1 := O4) (j := j)
    (I := fun i L O => ∃ (ps : List Pl) (y3 : Option D), L = [some (.hdl 0), some (.lst (st.map .str)), some (.hdl O1.length), y3, some (.hdl O3.length)] ∧ O[O3.length]? = some (.lst (ps.map encP)) ∧ ps.length = i ∧ ps.map (·.n) = PLN.take i ∧ (∀ l ∈ ps, PlS st l) ∧ Take (b + 42 + 8 * i) 0 O ∧ Fr O3 O ∧ O.length = O3.length + 1)
    (by simp [runF, sSeq, sIf, sNext, sDrop, sRet, sRetN, sAsg, ofRes, ofB, bName, bNil, bCons, bTup, bLst, bSubL, mTest, mOp, mVar, mC, mChain, mAnd, mOr, mNot, mIf, mAndV, mOrV, mNotV, mNeg, mCons, mNil, mTup, mLst, newL, mCall, mFn, arity, g1, g2, gLen, gInt, gAbs, gMax2, gMin2, gIx, seqOf, lsqOf, lstOf, Res.bind, ofO, gAdd_ok, gSub_ok, gEq_int, gNe_int, gLt_int, gLe_int, gGt_int, gGe_int, gEq_bl, gNe_bl, gEq_str, gNe_str, mIsi, mIsiT, tyD, kitL, kitTab, atI_c0, atI_c1, atI_c2, atI_c3, atI_c4, sForR1, int1, int2, mMeth, mMake, mFld, sFldM, gIs, gIsNot, isNon_t, sRaise, gList, newLO, take_is, e4]) j0 (by omega)
    ⟨[], y3, rfl, by rw [f4.2 _ (by omega) (by simp)]; simp, rfl, rfl, by simp, tmono (by omega) t4, fr_app.trans f4, by rw [l4]; simp⟩ fun i L O hi ⟨ps, y3, hL, hx, hl, hn, hok, t, f, l⟩ => by
      subst hL
      obtain ⟨p1, O', e, q1, q2, q3, q4, q5⟩ := plant_ok (nm := (PLN[i]?).getD "") t (by omega) (show 1 ≤ st.length by omega) (by omega)
      obtain ⟨c, nm, n1, n2, n3⟩ := pname (O := O) (k := i) (by omega)
      rw [n1] at e q1
      simp only [Option.getD_some] at e q1
      refine ⟨_, O'.set O3.length (.lst (ps.map encP ++ [encP p1])), ?_, ps ++ [p1], some (.int i), rfl, ?_, ?_, ?_, ?_, ?_, ?_, ?_⟩
      · have ea := app_ok (m := mVar 4) (e := (mFn (arity 3 f_law_plant) [] (mCons (mVar 0) (mCons (mOp (gAdd false) (mC (.str "p")) (mOp gIx (mC (.str "abcde")) (mVar 3))) (mCons (mVar 1) mNil))))) (L := [some (.hdl 0), some (.lst (st.map .str)), some (.hdl O1.length), some (.int i), some (.hdl O3.length)]) (O := O) (O1 := O) (O2 := O') (n := O3.length) (xs0 := ps.map encP) (xs := ps.map encP) (y := encP p1) rfl hx
          (by simp [mFn, mCons, mNil, mVar, mOp, mC, arity, Res.bind, ofO, n2, n3, e]) (q4.at (by omega) hx) (by rw [List.length_map]; omega)
        show (plE) _ _ = _
        simp only [plE, sDrop, List.set_cons_succ, List.set_cons_zero]
        rw [ea]
        rfl
      · rw [List.getElem?_set_self (by omega), List.map_append]
        rfl
      · rw [List.length_append, List.length_singleton, hl]
      · rw [List.map_append, hn, take_snoc n1, ← q1]
        rfl
      · intro x hx
        rcases List.mem_append.mp hx with hx | hx
        · exact hok x hx
        · rw [List.mem_singleton.mp hx]; exact q2
      · exact tmono (by omega) (q3.set hn3)
      · exact fr_setNew (f.trans q4) (Nat.le_refl _)
      · rw [List.length_set, q5, l]
  have hls5 : O5[O1.length]? = some (.lst (ls.map encL)) := by rw [f5.2 _ (by omega) (by omega)]; exact hls
  have hps5 : (O5.set O1.length .dead)[O3.length]? = some (.lst (ps.map encP)) := by rw [List.getElem?_set_ne (by omega)]; exact hps
  refine ⟨⟨st, ls, ps⟩, (O5.set O1.length .dead).set O3.length .dead, ?_, ⟨by show st.Sublist STN; rw [← hst]; exact List.take_sublist _ _, by show ls.length ≤ 12; omega, by show (ls.map _).Sublist LNN; rw [hln]; exact List.take_sublist _ _, by show ps.length ≤ 9; omega, by show (ps.map _).Sublist PLN; rw [hpn]; exact List.take_sublist _ _, hlok, fun y hy => (hpok y hy).ok, by show ls.length + ps.length ≤ 17; omega⟩, tmono (by omega) ((t5.set hn0).set hn3), fr_setNew (fr_setNew (f1.trans (f3.trans f5)) (by omega)) (by omega), ⟨by show (st.length : Int) ≤ p; omega, hllq, by show (ps.length : Int) < r; omega⟩, fun y hy => (hpok y hy).sm⟩
  simp only [bWorld]
  generalize (sIf (mTest (mOp gGt (mCall (g1 gLen) (mCons (mVar 1) mNil)) (mC (.int 1)))) (sForR1 (mCons (mFn (arity 2 f_law_take) [] (mCons (mVar 0) (mCons (mC (.int q)) mNil))) mNil) (bName 3) lnE) sNext) = sL at eL ⊢
  generalize (sForR1 (mCons (mFn (arity 2 f_law_take) [] (mCons (mVar 0) (mCons (mC (.int r)) mNil))) mNil) (bName 3) plE) = sP at eP ⊢
  simp [runF, sSeq, sIf, sNext, sDrop, sRet, sRetN, sAsg, ofRes, ofB, bName, bNil, bCons, bTup, bLst, bSubL, mTest, mOp, mVar, mC, mChain, mAnd, mOr, mNot, mIf, mAndV, mOrV, mNotV, mNeg, mCons, mNil, mTup, mLst, newL, mCall, mFn, arity, g1, g2, gLen, gInt, gAbs, gMax2, gMin2, gIx, seqOf, lsqOf, lstOf, Res.bind, ofO, gAdd_ok, gSub_ok, gEq_int, gNe_int, gLt_int, gLe_int, gGt_int, gGe_int, gEq_bl, gNe_bl, gEq_str, gNe_str, mIsi, mIsiT, tyD, kitL, kitTab, atI_c0, atI_c1, atI_c2, atI_c3, atI_c4, sForR1, int1, int2, mMeth, mMake, mFld, sFldM, gIs, gIsNot, isNon_t, sRaise, gList, newLO, mSl, oNone, oSome, take_is, e1, hsl2, eL, eP, mFrz, frzD, hls5, hps5]
theorem world_okP {p q r : Int} {b : Nat} {O : Store} (hp1 : 1 ≤ p) (hp2 : p ≤ 6) (hq1 : 1 ≤ q) (hq2 : q ≤ 9) (hr1 : 1 ≤ r) (hr2 : r ≤ 6) (h : Take b 0 O) (hb : b ≤ 2 ^ 29) : ∃ w O', runF 5 (bWorld p q r) [.hdl 0] O = .ok (encW w) O' ∧ WOK w ∧ Take (b + 100) 0 O' ∧ Fr O O' ∧ (w.st.length : Int) ≤ p ∧ (w.ls.length : Int) < q ∧ (w.ps.length : Int) < r := by
  obtain ⟨w, O', e, k, t, f, l, _⟩ := world_okS hp1 hp2 hq1 hq2 hr1 hr2 h hb
  exact ⟨w, O', e, k, t, f, l⟩
theorem world_ok {b : Nat} {O : Store} (h : Take b 0 O) (hb : b ≤ 2 ^ 29) : ∃ w O', f_law_world [.hdl 0] O = .ok (encW w) O' ∧ WOK w ∧ Take (b + 100) 0 O' ∧ Fr O O' := by
  obtain ⟨w, O', e, k, t, f, _⟩ := world_okP (p := 6) (q := 9) (r := 6) (by decide) (by decide) (by decide) (by decide) (by decide) (by decide) h hb
  exact ⟨w, O', e, k, t, f⟩
end DK.W
end
section
set_option Elab.async false
set_option linter.all false
set_option autoImplicit false
set_option maxRecDepth 100000
set_option maxHeartbeats 4000000
/-! DKLand: the program's land, in plain Lean. -/
namespace DK.W
open PySem L2 DK
/-! ### membership, dicts -/
theorem inV_strs {nm : Str} : ∀ {xs : List Str}, inV (.str nm) (xs.map V.str) = decide (nm ∈ xs)
  | [] => by simp [inV]
  | x :: xs => by
    have ih := inV_strs (nm := nm) (xs := xs)
    unfold inV at ih ⊢
    rw [List.map_cons, List.any_cons, ih]
    have : eqV (.str x) (.str nm) = decide (nm = x) := by
      show (x == nm) = _
      by_cases e : nm = x
      · subst e; simp
      · have e2 : ¬ x = nm := fun z => e z.symm
        simp [e, e2]
    rw [this]
    by_cases h : nm = x <;> simp [h]
theorem flats_strs : ∀ {xs : List Str}, (xs.map D.str).mapM flatOf = some (xs.map V.str)
  | [] => by simp
  | x :: xs => by
    rw [List.map_cons, mapM_cons, flats_strs]
    rfl
theorem in_strs {O : Store} {d : D} {xs : List Str} {nm : Str} (h : seqOf O d = some (xs.map D.str)) : gIn O (.str nm) d = some (.bl (decide (nm ∈ xs)), O) := by
  have e : inD O (.str nm) d = some (decide (nm ∈ xs)) := by
    cases d with
    | str z => cases h
    | _ => simp only [inD, h, flatOf, flats_strs, inV_strs]
  unfold gIn
  rw [e]
theorem notin_strs {O : Store} {d : D} {xs : List Str} {nm : Str} (h : seqOf O d = some (xs.map D.str)) : gNotIn O (.str nm) d = some (.bl (!decide (nm ∈ xs)), O) := by
  have e : inD O (.str nm) d = some (decide (nm ∈ xs)) := by
    cases d with
    | str z => cases h
    | _ => simp only [inD, h, flatOf, flats_strs, inV_strs]
  unfold gNotIn
  rw [e]
/-- a dict by names -/
abbrev dicS {α : Type} (n : α → Str) (g : α → D) (xs : List α) : List (Key × D) := xs.map fun x => (Sum.inr (n x), g x)
theorem val_dicS {α : Type} {n : α → Str} {g : α → D} {nm : Str} : ∀ {xs : List α}, valD (dicS n g xs) (.inr nm) = (xs.find? fun x => decide (n x = nm)).map g
  | [] => rfl
  | x :: xs => by
    have ih := val_dicS (n := n) (g := g) (nm := nm) (xs := xs)
    unfold valD at ih ⊢
    rw [show dicS n g (x :: xs) = (Sum.inr (n x), g x) :: dicS n g xs from rfl, List.find?_cons, List.find?_cons]
    by_cases h : n x = nm
    · simp [h]
    · simp [h]
      simpa using ih
theorem has_dicS {α : Type} {n : α → Str} {g : α → D} {nm : Str} {xs : List α} : (valD (dicS n g xs) (.inr nm)).isSome = decide (nm ∈ xs.map n) := by
  rw [val_dicS]
  rw [Option.isSome_map, Bool.eq_iff_iff, List.find?_isSome]
  simp
theorem put_dicS {α : Type} {n : α → Str} {g : α → D} {x : α} {xs : List α} (h : n x ∉ xs.map n) : putKD (dicS n g xs) (.inr (n x)) (g x) = dicS n g (xs ++ [x]) := by
  unfold putKD
  rw [if_neg]
  · show _ = (xs ++ [x]).map _
    rw [List.map_append]
    rfl
  · intro z
    rw [List.any_eq_true] at z
    obtain ⟨p, hp, hq⟩ := z
    obtain ⟨y, hy, rfl⟩ := List.mem_map.mp hp
    simp at hq
    exact h (List.mem_map.mpr ⟨y, hy, hq⟩)
/-! ### names -/
abbrev NAMES : List Str := STN ++ LNN ++ PLN
theorem name_ok {nm : Str} {O : Store} (h : nm ∈ NAMES) : f_is_name [.str nm] O = .ok (.bl true) O := by
  simp at h
  rcases h with rfl | rfl | rfl | rfl | rfl | rfl | rfl | rfl | rfl | rfl | rfl | rfl | rfl | rfl | rfl | rfl | rfl | rfl | rfl | rfl | rfl | rfl | rfl | rfl | rfl | rfl | rfl <;> rfl
theorem chk_is : f_checked_number = fChk := rfl
/-! ### the land -/
abbrev lineD (l : Ln) : D := .tup [.str l.a, .str l.b, .int l.need, .int l.min]
abbrev plantD (p : Pl) : D := .tup [.str p.s, .int p.need, .int p.gives, .int p.quick, .int p.hot, .int p.cool, .int p.slow]
abbrev landO (s l p v : Nat) : Ob := .ins "Land" [("_stations", .hdl s), ("_lines", .hdl l), ("_plants", .hdl p), ("_selves", .hdl v)]
/-- the land at h, its lists and dicts at s, l, p, v -/
structure LandAt (h s l p v : Nat) (w : Wd) (O : Store) : Prop where
  eo : O[h]? = some (landO s l p v)
  es : O[s]? = some (.lst (w.st.map .str))
  el : O[l]? = some (.dct (dicS (·.n) lineD w.ls))
  ep : O[p]? = some (.dct (dicS (·.n) plantD w.ps))
  ev : O[v]? = some (.lst ((w.ps.filter (·.alone)).map fun p => .str p.n))
  lp : l ≠ p
  sv : s ≠ v
  pos : 0 < h ∧ 0 < s ∧ 0 < l ∧ 0 < p ∧ 0 < v
theorem LandAt.fr {h s l p v : Nat} {w : Wd} {O O' : Store} (a : LandAt h s l p v w O) (f : Fr O O') : LandAt h s l p v w O' :=
  ⟨f.at a.pos.1 a.eo, f.at a.pos.2.1 a.es, f.at a.pos.2.2.1 a.el, f.at a.pos.2.2.2.1 a.ep, f.at a.pos.2.2.2.2 a.ev, a.lp, a.sv, a.pos⟩
theorem lks {s l p v : D} : List.lookup ("_stations" : Str) [(("_stations" : Str), s), (("_lines" : Str), l), (("_plants" : Str), p), (("_selves" : Str), v)] = some s := rfl
theorem lkl {s l p v : D} : List.lookup ("_lines" : Str) [(("_stations" : Str), s), (("_lines" : Str), l), (("_plants" : Str), p), (("_selves" : Str), v)] = some l := rfl
theorem lkp {s l p v : D} : List.lookup ("_plants" : Str) [(("_stations" : Str), s), (("_lines" : Str), l), (("_plants" : Str), p), (("_selves" : Str), v)] = some p := rfl
theorem lkv {s l p v : D} : List.lookup ("_selves" : Str) [(("_stations" : Str), s), (("_lines" : Str), l), (("_plants" : Str), p), (("_selves" : Str), v)] = some v := rfl
/-- the methods are no fields -/
theorem lkm {m : Str} {s l p v : D} (h : m ∉ ([("_stations" : Str), "_lines", "_plants", "_selves"])) : List.lookup m [(("_stations" : Str), s), (("_lines" : Str), l), (("_plants" : Str), p), (("_selves" : Str), v)] = none := by
  simp at h
  rw [List.lookup_cons, beq_false_of_ne h.1, List.lookup_cons, beq_false_of_ne h.2.1, List.lookup_cons, beq_false_of_ne h.2.2.1, List.lookup_cons, beq_false_of_ne h.2.2.2]
  rfl
def kindD (w : Wd) (nm : Str) : D := if nm ∈ w.st then .str "station" else if nm ∈ w.ls.map (·.n) then .str "line" else if nm ∈ w.ps.map (·.n) then .str "plant" else .non
section
variable {h s l p v : Nat} {w : Wd} {O : Store} {nm : Str}
theorem kind_ok (a : LandAt h s l p v w O) : f_land_kind [.hdl h, .str nm] O = .ok (kindD w nm) O := by
  have i1 : gIn O (.str nm) (.hdl s) = some (.bl (decide (nm ∈ w.st)), O) := in_strs (by simp [seqOf, a.es])
  have i2 := has_dicS (n := Ln.n) (g := lineD) (nm := nm) (xs := w.ls)
  have i3 := has_dicS (n := Pl.n) (g := plantD) (nm := nm) (xs := w.ps)
  have al := a.el
  have ap := a.ep
  generalize dicS Ln.n lineD w.ls = dl at *
  generalize dicS Pl.n plantD w.ps = dp at *
  unfold kindD
  by_cases c1 : nm ∈ w.st <;> by_cases c2 : nm ∈ w.ls.map (·.n) <;> by_cases c3 : nm ∈ w.ps.map (·.n) <;> simp only [c1, c2, c3, decide_true, decide_false] at i1 i2 i3 <;> simp [f_land_kind, b_land_kind, mDIn, dctOf, keyD, runF, sSeq, sIf, sNext, sDrop, sRet, sRetN, sAsg, ofRes, ofB, bName, bNil, bCons, bTup, bLst, bSubL, mTest, mOp, mVar, mC, mChain, mAnd, mOr, mNot, mIf, mAndV, mOrV, mNotV, mNeg, mCons, mNil, mTup, mLst, newL, mCall, mFn, arity, g1, g2, gLen, gInt, gAbs, gMax2, gMin2, gIx, seqOf, lsqOf, lstOf, Res.bind, ofO, gAdd_ok, gSub_ok, gEq_int, gNe_int, gLt_int, gLe_int, gGt_int, gGe_int, gEq_bl, gNe_bl, gEq_str, gNe_str, mIsi, mIsiT, tyD, kitL, kitTab, atI_c0, atI_c1, atI_c2, atI_c3, atI_c4, sForR1, int1, int2, mMeth, mMake, mFld, sFldM, gIs, gIsNot, isNon_t, sRaise, gList, newLO, a.eo, al, ap, lks, lkl, lkp, i1, i2, i3, c1, c2, c3]
theorem free_ok (a : LandAt h s l p v w O) (hn : nm ∈ NAMES) (k : kindD w nm = .non) : f_land_free [.hdl h, .str nm] O = .ok .non O := by
  have e := kind_ok (nm := nm) a
  rw [k] at e
  have n := name_ok (O := O) hn
  have lk : List.lookup ("kind" : Str) [(("_stations" : Str), D.hdl s), (("_lines" : Str), .hdl l), (("_plants" : Str), .hdl p), (("_selves" : Str), .hdl v)] = none := rfl
  simp [f_land_free, b_land_free, f_checked_name, b_checked_name, runF, sSeq, sIf, sNext, sDrop, sRet, sRetN, sAsg, ofRes, ofB, bName, bNil, bCons, bTup, bLst, bSubL, mTest, mOp, mVar, mC, mChain, mAnd, mOr, mNot, mIf, mAndV, mOrV, mNotV, mNeg, mCons, mNil, mTup, mLst, newL, mCall, mFn, arity, g1, g2, gLen, gInt, gAbs, gMax2, gMin2, gIx, seqOf, lsqOf, lstOf, Res.bind, ofO, gAdd_ok, gSub_ok, gEq_int, gNe_int, gLt_int, gLe_int, gGt_int, gGe_int, gEq_bl, gNe_bl, gEq_str, gNe_str, mIsi, mIsiT, tyD, kitL, kitTab, atI_c0, atI_c1, atI_c2, atI_c3, atI_c4, sForR1, int1, int2, mMeth, mMake, mFld, sFldM, gIs, gIsNot, isNon_t, sRaise, gList, newLO, a.eo, e, n, lk]
theorem there_ok (a : LandAt h s l p v w O) (hn : nm ∈ w.st) : f_land_there [.hdl h, .str nm] O = .ok .non O := by
  have i1 : gNotIn O (.str nm) (.hdl s) = some (.bl (!decide (nm ∈ w.st)), O) := notin_strs (by simp [seqOf, a.es])
  simp [f_land_there, b_land_there, runF, sSeq, sIf, sNext, sDrop, sRet, sRetN, sAsg, ofRes, ofB, bName, bNil, bCons, bTup, bLst, bSubL, mTest, mOp, mVar, mC, mChain, mAnd, mOr, mNot, mIf, mAndV, mOrV, mNotV, mNeg, mCons, mNil, mTup, mLst, newL, mCall, mFn, arity, g1, g2, gLen, gInt, gAbs, gMax2, gMin2, gIx, seqOf, lsqOf, lstOf, Res.bind, ofO, gAdd_ok, gSub_ok, gEq_int, gNe_int, gLt_int, gLe_int, gGt_int, gGe_int, gEq_bl, gNe_bl, gEq_str, gNe_str, mIsi, mIsiT, tyD, kitL, kitTab, atI_c0, atI_c1, atI_c2, atI_c3, atI_c4, sForR1, int1, int2, mMeth, mMake, mFld, sFldM, gIs, gIsNot, isNon_t, sRaise, gList, newLO, a.eo, lks, i1, hn]
theorem room_ok {d : D} {n : Nat} (e : gLen O d = some (.int (n : Int), O)) (hn : n < 60) (a : LandAt h s l p v w O) : f_land_room [.hdl h, d] O = .ok .non O := by
  have : ¬ (60 : Int) ≤ (n : Int) := by omega
  simp [f_land_room, b_land_room, sSeq, sIf, sNext, ofRes, mTest, mOp, mVar, mC, mCall, mCons, mNil, g1, Res.bind, ofO, runF, gGe_int, e, this]
theorem strsD_map : ∀ {xs : List Str}, strsD (xs.map D.str) = some xs
  | [] => rfl
  | x :: xs => by
    show (strsD (xs.map D.str)).map (x :: ·) = _
    rw [strsD_map]
    rfl
theorem intsOf_strs {x : Str} {xs : List Str} : intsOf ((x :: xs).map D.str) = none := rfl
theorem sorted_strs {O : Store} {d : D} {xs : List Str} {hm : Bool} (hd : lsqOf O d = some (xs.map D.str)) (hx : dctOf O d = none) (h0 : 0 < xs.length) (h1 : xs.length < 64) : gSorted hm O d = newLO hm ((sortS xs).map .str) O := by
  unfold gSorted
  rw [hx]
  simp only [hd]
  cases xs with
  | nil => simp at h0
  | cons x xs =>
    rw [intsOf_strs]
    simp only [strsD_map, if_pos h1]
theorem add_station_ok {st' : List Str} (a : LandAt h s l p v w O) (hn : nm ∈ NAMES) (k : kindD w nm = .non) (hl : w.st.length < 60) (hs : sortS (w.st ++ [nm]) = st') (hs1 : st'.length ≤ 1000) :
    f_land_add_station [.hdl h, .str nm] O = .ok .non ((O ++ [Ob.lst (st'.map .str)]).set h (landO O.length l p v)) ∧ LandAt h O.length l p v ⟨st', w.ls, w.ps⟩ ((O ++ [Ob.lst (st'.map .str)]).set h (landO O.length l p v)) := by
  have lh := (List.getElem?_eq_some_iff.mp a.eo).1
  have ll := (List.getElem?_eq_some_iff.mp a.el).1
  have lp := (List.getElem?_eq_some_iff.mp a.ep).1
  have lv := (List.getElem?_eq_some_iff.mp a.ev).1
  constructor
  · have e1 := free_ok a hn k
    have e2 := room_ok (d := .hdl s) (n := w.st.length) (by simp [gLen, a.es]) hl a
    have lk1 : List.lookup ("_free" : Str) [(("_stations" : Str), D.hdl s), (("_lines" : Str), .hdl l), (("_plants" : Str), .hdl p), (("_selves" : Str), .hdl v)] = none := rfl
    have lk2 : List.lookup ("_room" : Str) [(("_stations" : Str), D.hdl s), (("_lines" : Str), .hdl l), (("_plants" : Str), .hdl p), (("_selves" : Str), .hdl v)] = none := rfl
    have e3 : gAdd false O (.hdl s) (.lst [.str nm]) = some (.lst ((w.st ++ [nm]).map D.str), O) := by
      simp [gAdd, lsqOf, lstOf, a.es, newLO]
      omega
    have e4 : gSorted true O (.lst ((w.st ++ [nm]).map D.str)) = some (.hdl O.length, O ++ [.lst (st'.map .str)]) := by
      rw [sorted_strs (xs := w.st ++ [nm]) rfl rfl (by simp) (by simp; omega), hs]
      simp [newLO]
      omega
    have e5 : (O ++ [Ob.lst (st'.map .str)])[h]? = some (landO s l p v) := by rw [List.getElem?_append_left lh]; exact a.eo
    have pt : putD "_stations" (.hdl O.length) [(("_stations" : Str), D.hdl s), (("_lines" : Str), .hdl l), (("_plants" : Str), .hdl p), (("_selves" : Str), .hdl v)] = [(("_stations" : Str), D.hdl O.length), (("_lines" : Str), .hdl l), (("_plants" : Str), .hdl p), (("_selves" : Str), .hdl v)] := rfl
    generalize List.map D.str (w.st ++ [nm]) = z at e3 e4
    simp [f_land_add_station, b_land_add_station, runF, sSeq, sIf, sNext, sDrop, sRet, sRetN, sAsg, ofRes, ofB, bName, bNil, bCons, bTup, bLst, bSubL, mTest, mOp, mVar, mC, mChain, mAnd, mOr, mNot, mIf, mAndV, mOrV, mNotV, mNeg, mCons, mNil, mTup, mLst, newL, mCall, mFn, arity, g1, g2, gLen, gInt, gAbs, gMax2, gMin2, gIx, seqOf, lsqOf, lstOf, Res.bind, ofO, gAdd_ok, gSub_ok, gEq_int, gNe_int, gLt_int, gLe_int, gGt_int, gGe_int, gEq_bl, gNe_bl, gEq_str, gNe_str, mIsi, mIsiT, tyD, kitL, kitTab, atI_c0, atI_c1, atI_c2, atI_c3, atI_c4, sForR1, int1, int2, mMeth, mMake, mFld, sFldM, gIs, gIsNot, isNon_t, sRaise, gList, newLO, a.eo, e1, e2, e3, e4, e5, lk1, lk2, lks, pt]
  · have ne : h ≠ l ∧ h ≠ p ∧ h ≠ v := ⟨(fun z => by have := a.eo; rw [z, a.el] at this; cases this), (fun z => by have := a.eo; rw [z, a.ep] at this; cases this), fun z => by have := a.eo; rw [z, a.ev] at this; cases this⟩
    refine ⟨List.getElem?_set_self (by rw [List.length_append]; omega), ?_, ?_, ?_, ?_, a.lp, by omega, a.pos.1, by omega, a.pos.2.2.1, a.pos.2.2.2.1, a.pos.2.2.2.2⟩
    · rw [List.getElem?_set_ne (by omega), List.getElem?_append_right (Nat.le_refl _)]
      simp
    · rw [List.getElem?_set_ne ne.1, List.getElem?_append_left ll]; exact a.el
    · rw [List.getElem?_set_ne ne.2.1, List.getElem?_append_left lp]; exact a.ep
    · rw [List.getElem?_set_ne ne.2.2, List.getElem?_append_left lv]; exact a.ev
theorem chk1 {O : Store} {x a c : Int} (h0 : a ≤ x) (h1 : x ≤ c) : f_checked_number [.int x, .int a, .int c] O = .ok (.int x) O := chk_yes h0 h1
theorem add_line_ok {l1 : Ln} (a : LandAt h s l p v w O) (hn : l1.n ∈ NAMES) (k : kindD w l1.n = .non) (hl : w.ls.length < 60) (ok : LnOK w.st l1) :
    f_land_add_line [.hdl h, .str l1.n, .str l1.a, .str l1.b, .int l1.need, .int l1.min] O = .ok .non (O.set l (.dct (dicS (·.n) lineD (w.ls ++ [l1])))) ∧ LandAt h s l p v ⟨w.st, w.ls ++ [l1], w.ps⟩ (O.set l (.dct (dicS (·.n) lineD (w.ls ++ [l1])))) := by
  have ll := (List.getElem?_eq_some_iff.mp a.el).1
  have hnl : l1.n ∉ w.ls.map (·.n) := fun z => by
    unfold kindD at k
    by_cases c : l1.n ∈ w.st
    · rw [if_pos c] at k; cases k
    · rw [if_neg c, if_pos z] at k; cases k
  constructor
  · have e1 := free_ok a hn k
    have e2 := there_ok a ok.a
    have e3 := there_ok a ok.b
    have e4 := room_ok (d := .hdl l) (n := w.ls.length) (by simp [gLen, a.el]) hl a
    have e5 := chk1 (O := O) (x := l1.need) (a := 0) (c := 1000000) ok.need.1 (by have := ok.need; omega)
    have e6 := chk1 (O := O) (x := l1.min) (a := 1) (c := 1000000) ok.min.1 (by have := ok.min; omega)
    have ne : ¬ l1.a = l1.b := ltSV_ne ok.ab
    have ab := ok.ab
    have ba := ltSV_asym ok.ab
    have lk1 : List.lookup ("_free" : Str) [(("_stations" : Str), D.hdl s), (("_lines" : Str), .hdl l), (("_plants" : Str), .hdl p), (("_selves" : Str), .hdl v)] = none := rfl
    have lk2 : List.lookup ("_room" : Str) [(("_stations" : Str), D.hdl s), (("_lines" : Str), .hdl l), (("_plants" : Str), .hdl p), (("_selves" : Str), .hdl v)] = none := rfl
    have lk3 : List.lookup ("_there" : Str) [(("_stations" : Str), D.hdl s), (("_lines" : Str), .hdl l), (("_plants" : Str), .hdl p), (("_selves" : Str), .hdl v)] = none := rfl
    have pt := put_dicS (n := Ln.n) (g := lineD) (x := l1) (xs := w.ls) hnl
    have dl : (dicS Ln.n lineD w.ls).length ≤ 1000000 := by simp; omega
    have al := a.el
    generalize dicS Ln.n lineD w.ls = dx at *
    generalize dicS Ln.n lineD (w.ls ++ [l1]) = dy at *
    simp [f_land_add_line, b_land_add_line, runF, sSeq, sIf, sNext, sDrop, sRet, sRetN, sAsg, ofRes, ofB, bName, bNil, bCons, bTup, bLst, bSubL, mTest, mOp, mVar, mC, mChain, mAnd, mOr, mNot, mIf, mAndV, mOrV, mNotV, mNeg, mCons, mNil, mTup, mLst, newL, mCall, mFn, arity, g1, g2, gLen, gInt, gAbs, gMax2, gMin2, gIx, seqOf, lsqOf, lstOf, Res.bind, ofO, gAdd_ok, gSub_ok, gEq_int, gNe_int, gLt_int, gLe_int, gGt_int, gGe_int, gEq_bl, gNe_bl, gEq_str, gNe_str, mIsi, mIsiT, tyD, kitL, kitTab, atI_c0, atI_c1, atI_c2, atI_c3, atI_c4, sForR1, int1, int2, mMeth, mMake, mFld, sFldM, gIs, gIsNot, isNon_t, sRaise, gList, newLO, sDPutM, dctOf, keyD, hdlN, gMinA, gMaxA, a.eo, al, lks, lkl, lk1, lk2, lk3, e1, e2, e3, e4, e5, e6, ne, ab, ba, pt, dl]
  · have ne : l ≠ h ∧ l ≠ s ∧ l ≠ p ∧ l ≠ v := ⟨(fun z => by have := a.el; rw [z, a.eo] at this; cases this), (fun z => by have := a.el; rw [z, a.es] at this; cases this), a.lp, fun z => by have := a.el; rw [z, a.ev] at this; cases this⟩
    refine ⟨?_, ?_, List.getElem?_set_self ll, ?_, ?_, a.lp, a.sv, a.pos⟩
    · rw [List.getElem?_set_ne ne.1]; exact a.eo
    · rw [List.getElem?_set_ne ne.2.1]; exact a.es
    · rw [List.getElem?_set_ne ne.2.2.1]; exact a.ep
    · rw [List.getElem?_set_ne ne.2.2.2]; exact a.ev
theorem add_self_ok {p1 : Pl} (a : LandAt h s l p v w O) (hn : p1.n ∈ NAMES) (k : kindD w p1.n = .non) (hl : w.ps.length < 60) (ok : PlOK w.st p1) (al : p1.alone = true) :
    ∃ O', f_land_add_self [.hdl h, .str p1.n, .str p1.s, .int p1.gives, .int p1.quick] O = .ok .non O' ∧ LandAt h s l p v ⟨w.st, w.ls, w.ps ++ [p1]⟩ O' ∧ O'.length = O.length ∧ ∀ i, i ≠ p → i ≠ v → O'[i]? = O[i]? := by
  have ll := (List.getElem?_eq_some_iff.mp a.ep).1
  have lv := (List.getElem?_eq_some_iff.mp a.ev).1
  obtain ⟨a1, a2, a3, a4⟩ := ok.alone al
  have hnl : p1.n ∉ w.ps.map (·.n) := fun z => by
    unfold kindD at k
    by_cases c : p1.n ∈ w.st
    · rw [if_pos c] at k; cases k
    · by_cases c2 : p1.n ∈ w.ls.map (·.n)
      · rw [if_neg c, if_pos c2] at k; cases k
      · rw [if_neg c, if_neg c2, if_pos z] at k; cases k
  have pv : p ≠ v := fun z => by have := a.ep; rw [z, a.ev] at this; cases this
  have hp : plantD p1 = .tup [.str p1.s, .int 0, .int p1.gives, .int p1.quick, .int 1000000, .int 1000000, .int p1.quick] := by simp only [plantD, a1, a2, a3, a4]
  refine ⟨(O.set p (.dct (dicS (·.n) plantD (w.ps ++ [p1])))).set v (.lst ((w.ps.filter (·.alone)).map (fun p => D.str p.n) ++ [.str p1.n])), ?_, ?_, by simp, fun i h1 h2 => by rw [List.getElem?_set_ne (fun z => h2 z.symm), List.getElem?_set_ne (fun z => h1 z.symm)]⟩
  · have e1 := free_ok a hn k
    have e2 := there_ok a ok.s
    have e4 := room_ok (d := .hdl p) (n := w.ps.length) (by simp [gLen, a.ep]) hl a
    have e5 := chk1 (O := O) (x := p1.gives) (a := 0) (c := 1000000) ok.gives.1 (by have := ok.gives; omega)
    have e6 := chk1 (O := O) (x := p1.quick) (a := 1) (c := 1000000) ok.quick.1 (by have := ok.quick; omega)
    have lk1 : List.lookup ("_free" : Str) [(("_stations" : Str), D.hdl s), (("_lines" : Str), .hdl l), (("_plants" : Str), .hdl p), (("_selves" : Str), .hdl v)] = none := rfl
    have lk2 : List.lookup ("_room" : Str) [(("_stations" : Str), D.hdl s), (("_lines" : Str), .hdl l), (("_plants" : Str), .hdl p), (("_selves" : Str), .hdl v)] = none := rfl
    have lk3 : List.lookup ("_there" : Str) [(("_stations" : Str), D.hdl s), (("_lines" : Str), .hdl l), (("_plants" : Str), .hdl p), (("_selves" : Str), .hdl v)] = none := rfl
    have pt := put_dicS (n := Pl.n) (g := plantD) (x := p1) (xs := w.ps) hnl
    rw [hp] at pt
    have dl : (dicS Pl.n plantD w.ps).length ≤ 1000000 := by simp; omega
    have ap := a.ep
    have av := a.ev
    have vl : ((w.ps.filter (·.alone)).map fun p => D.str p.n).length ≤ 1000000 := by
      rw [List.length_map]
      exact Nat.le_trans (List.length_filter_le ..) (by omega)
    generalize ((w.ps.filter (·.alone)).map fun p => D.str p.n) = vv at *
    generalize dicS Pl.n plantD w.ps = dx at *
    generalize dicS Pl.n plantD (w.ps ++ [p1]) = dy at *
    have s1 : ∀ q : Ob, (O.set p q)[h]? = some (landO s l p v) := fun q => by rw [List.getElem?_set_ne (fun z => by have := a.eo; rw [← z, ap] at this; cases this)]; exact a.eo
    have s2 : ∀ q : Ob, (O.set p q)[v]? = some (.lst vv) := fun q => by rw [List.getElem?_set_ne pv]; exact av
    simp [f_land_add_self, b_land_add_self, runF, sSeq, sIf, sNext, sDrop, sRet, sRetN, sAsg, ofRes, ofB, bName, bNil, bCons, bTup, bLst, bSubL, mTest, mOp, mVar, mC, mChain, mAnd, mOr, mNot, mIf, mAndV, mOrV, mNotV, mNeg, mCons, mNil, mTup, mLst, newL, mCall, mFn, arity, g1, g2, gLen, gInt, gAbs, gMax2, gMin2, gIx, seqOf, lsqOf, lstOf, Res.bind, ofO, gAdd_ok, gSub_ok, gEq_int, gNe_int, gLt_int, gLe_int, gGt_int, gGe_int, gEq_bl, gNe_bl, gEq_str, gNe_str, mIsi, mIsiT, tyD, kitL, kitTab, atI_c0, atI_c1, atI_c2, atI_c3, atI_c4, sForR1, int1, int2, mMeth, mMake, mFld, sFldM, gIs, gIsNot, isNon_t, sRaise, gList, newLO, mApp, sDPutM, dctOf, keyD, hdlN, a.eo, ap, lks, lkp, lkv, lk1, lk2, lk3, e1, e2, e4, e5, e6, pt, dl, s1, s2, vl]
  · refine ⟨?_, ?_, ?_, ?_, ?_, a.lp, a.sv, a.pos⟩
    · rw [List.getElem?_set_ne (fun z => by have := a.ev; rw [z, a.eo] at this; cases this), List.getElem?_set_ne (fun z => by have := a.ep; rw [z, a.eo] at this; cases this)]; exact a.eo
    · rw [List.getElem?_set_ne (fun z => a.sv z.symm), List.getElem?_set_ne (fun z => by have := a.ep; rw [z, a.es] at this; cases this)]; exact a.es
    · rw [List.getElem?_set_ne (fun z => by have := a.ev; rw [z, a.el] at this; cases this), List.getElem?_set_ne (fun z => a.lp z.symm)]; exact a.el
    · rw [List.getElem?_set_ne (fun z => pv z.symm), List.getElem?_set_self ll]
    · rw [List.getElem?_set_self (by rw [List.length_set]; exact lv), List.filter_append]
      simp [al]
theorem add_plant_ok {p1 : Pl} (a : LandAt h s l p v w O) (hn : p1.n ∈ NAMES) (k : kindD w p1.n = .non) (hl : w.ps.length < 60) (ok : PlOK w.st p1) (al : p1.alone = false) :
    ∃ O', f_land_add_plant [.hdl h, .str p1.n, .str p1.s, .int p1.need, .int p1.gives, .int p1.quick, .int p1.hot, .int p1.cool, .int p1.slow] O = .ok .non O' ∧ LandAt h s l p v ⟨w.st, w.ls, w.ps ++ [p1]⟩ O' ∧ O'.length = O.length ∧ ∀ i, i ≠ p → i ≠ v → O'[i]? = O[i]? := by
  have ll := (List.getElem?_eq_some_iff.mp a.ep).1
  have hnl : p1.n ∉ w.ps.map (·.n) := fun z => by
    unfold kindD at k
    by_cases c : p1.n ∈ w.st
    · rw [if_pos c] at k; cases k
    · by_cases c2 : p1.n ∈ w.ls.map (·.n)
      · rw [if_neg c, if_pos c2] at k; cases k
      · rw [if_neg c, if_neg c2, if_pos z] at k; cases k
  refine ⟨O.set p (.dct (dicS (·.n) plantD (w.ps ++ [p1]))), ?_, ?_, by simp, fun i h1 h2 => by rw [List.getElem?_set_ne (fun z => h1 z.symm)]⟩
  · have e1 := free_ok a hn k
    have e2 := there_ok a ok.s
    have e4 := room_ok (d := .hdl p) (n := w.ps.length) (by simp [gLen, a.ep]) hl a
    have e5 := chk1 (O := O) (x := p1.gives) (a := 0) (c := 1000000) ok.gives.1 (by have := ok.gives; omega)
    have e6 := chk1 (O := O) (x := p1.need) (a := 0) (c := 1000000) ok.need.1 (by have := ok.need; omega)
    have e7 := chk1 (O := O) (x := p1.quick) (a := 1) (c := 1000000) ok.quick.1 (by have := ok.quick; omega)
    have e8 := chk1 (O := O) (x := p1.hot) (a := 0) (c := 1000000) ok.hot.1 ok.hot.2
    have e9 := chk1 (O := O) (x := p1.cool) (a := 0) (c := 1000000) (by have := ok.hot; have := ok.cool; omega) ok.cool.2
    have e10 := chk1 (O := O) (x := p1.slow) (a := 1) (c := 1000000) (by have := ok.quick; have := ok.slow; omega) (by have := ok.slow; omega)
    have n1 : ¬ p1.slow < p1.quick := by have := ok.slow; omega
    have n2 : ¬ p1.cool < p1.hot := by have := ok.cool; omega
    have lk1 : List.lookup ("_free" : Str) [(("_stations" : Str), D.hdl s), (("_lines" : Str), .hdl l), (("_plants" : Str), .hdl p), (("_selves" : Str), .hdl v)] = none := rfl
    have lk2 : List.lookup ("_room" : Str) [(("_stations" : Str), D.hdl s), (("_lines" : Str), .hdl l), (("_plants" : Str), .hdl p), (("_selves" : Str), .hdl v)] = none := rfl
    have lk3 : List.lookup ("_there" : Str) [(("_stations" : Str), D.hdl s), (("_lines" : Str), .hdl l), (("_plants" : Str), .hdl p), (("_selves" : Str), .hdl v)] = none := rfl
    have pt := put_dicS (n := Pl.n) (g := plantD) (x := p1) (xs := w.ps) hnl
    have dl : (dicS Pl.n plantD w.ps).length ≤ 1000000 := by simp; omega
    have ap := a.ep
    generalize dicS Pl.n plantD w.ps = dx at *
    generalize dicS Pl.n plantD (w.ps ++ [p1]) = dy at *
    simp [f_land_add_plant, b_land_add_plant, runF, sSeq, sIf, sNext, sDrop, sRet, sRetN, sAsg, ofRes, ofB, bName, bNil, bCons, bTup, bLst, bSubL, mTest, mOp, mVar, mC, mChain, mAnd, mOr, mNot, mIf, mAndV, mOrV, mNotV, mNeg, mCons, mNil, mTup, mLst, newL, mCall, mFn, arity, g1, g2, gLen, gInt, gAbs, gMax2, gMin2, gIx, seqOf, lsqOf, lstOf, Res.bind, ofO, gAdd_ok, gSub_ok, gEq_int, gNe_int, gLt_int, gLe_int, gGt_int, gGe_int, gEq_bl, gNe_bl, gEq_str, gNe_str, mIsi, mIsiT, tyD, kitL, kitTab, atI_c0, atI_c1, atI_c2, atI_c3, atI_c4, sForR1, int1, int2, mMeth, mMake, mFld, sFldM, gIs, gIsNot, isNon_t, sRaise, gList, newLO, sForT, loopD, turnOf, sDPutM, dctOf, keyD, hdlN, a.eo, ap, lks, lkp, lk1, lk2, lk3, e1, e2, e4, e5, e6, e7, e8, e9, e10, n1, n2, pt, dl]
  · refine ⟨?_, ?_, ?_, ?_, ?_, a.lp, a.sv, a.pos⟩
    · rw [List.getElem?_set_ne (fun z => by have := a.ep; rw [z, a.eo] at this; cases this)]; exact a.eo
    · rw [List.getElem?_set_ne (fun z => by have := a.ep; rw [z, a.es] at this; cases this)]; exact a.es
    · rw [List.getElem?_set_ne (fun z => a.lp z.symm)]; exact a.el
    · rw [List.getElem?_set_self ll]
    · rw [List.getElem?_set_ne (fun z => by have := a.ep; rw [z, a.ev] at this; cases this), a.ev, List.filter_append]
      simp [al]
end
/-! ### a land is built -/
theorem nodup_mid {A B : List Str} {x : Str} (h : (A ++ x :: B).Nodup) : x ∉ A := fun z => by
  rw [List.nodup_append] at h
  exact h.2.2 x z x (by simp) rfl
theorem WOK.st6 {w : Wd} (k : WOK w) : w.st.length ≤ 6 := k.st.length_le
theorem WOK.stp {w : Wd} (k : WOK w) : w.st.Pairwise fun a b => leS a b = true := List.Pairwise.sublist k.st (by decide +kernel)
theorem pw_sortS {X : List Str} (h : X.Pairwise fun a b => leS a b = true) : sortS X = X := perm_sorted (le := fun a b => leS a b = true) leS_anti _ _ (List.mergeSort_perm _ _) (List.pairwise_mergeSort leS_trans leS_total _) h
theorem WOK.st_srt {w : Wd} (k : WOK w) : sortS w.st = w.st := pw_sortS k.stp
theorem WOK.nd {w : Wd} (k : WOK w) : (w.st ++ (w.ls.map (·.n) ++ w.ps.map (·.n))).Nodup := by
  exact (by decide : (STN ++ (LNN ++ PLN)).Nodup).sublist (k.st.append (k.ln.append k.pn))
theorem WOK.snm {w : Wd} (k : WOK w) {x : Str} (h : x ∈ w.st) : x ∈ NAMES := by
  exact List.mem_append_left _ (List.mem_append_left _ (k.st.subset h))
theorem WOK.lnm {w : Wd} (k : WOK w) {x : Ln} (h : x ∈ w.ls) : x.n ∈ NAMES := by
  have : x.n ∈ w.ls.map (·.n) := List.mem_map.mpr ⟨x, h, rfl⟩
  exact List.mem_append_left _ (List.mem_append_right _ (k.ln.subset this))
theorem WOK.pnm {w : Wd} (k : WOK w) {x : Pl} (h : x ∈ w.ps) : x.n ∈ NAMES := by
  have : x.n ∈ w.ps.map (·.n) := List.mem_map.mpr ⟨x, h, rfl⟩
  exact List.mem_append_right _ (k.pn.subset this)
theorem kind_non {w : Wd} {nm : Str} (h1 : nm ∉ w.st) (h2 : nm ∉ w.ls.map (·.n)) (h3 : nm ∉ w.ps.map (·.n)) : kindD w nm = .non := by
  unfold kindD
  rw [if_neg h1, if_neg h2, if_neg h3]
theorem drop_get {α : Type} {xs : List α} {i : Nat} {x : α} (h : xs[i]? = some x) : xs.drop i = x :: xs.drop (i + 1) := by
  obtain ⟨hi, rfl⟩ := List.getElem?_eq_some_iff.mp h
  exact List.drop_eq_getElem_cons hi
theorem take_get {α : Type} {xs : List α} {i : Nat} {x : α} (h : xs[i]? = some x) : xs.take (i + 1) = xs.take i ++ [x] := by
  rw [List.take_succ, h]
  rfl
theorem sort_stn {X : List Str} {i : Nat} {x : Str} (hp : X.Pairwise fun a b => leS a b = true) (h : X[i]? = some x) : sortS (X.take i ++ [x]) = X.take (i + 1) := by
  rw [take_get h]
  exact pw_sortS (by rw [← take_get h]; exact hp.sublist (List.take_sublist _ _))
theorem init_ok {O : Store} : f_land_init [.hdl O.length] (O ++ [.ins "Land" []]) = .ok .non (O ++ [landO (O.length + 1) (O.length + 2) (O.length + 3) (O.length + 4), .lst [], .dct [], .dct [], .lst []]) := by
  have p1 : ∀ d : D, putD "_stations" d [] = [(("_stations" : Str), d)] := fun _ => rfl
  have p2 : ∀ d a : D, putD "_lines" d [(("_stations" : Str), a)] = [(("_stations" : Str), a), (("_lines" : Str), d)] := fun _ _ => rfl
  have p3 : ∀ d a b : D, putD "_plants" d [(("_stations" : Str), a), (("_lines" : Str), b)] = [(("_stations" : Str), a), (("_lines" : Str), b), (("_plants" : Str), d)] := fun _ _ _ => rfl
  have p4 : ∀ d a b c : D, putD "_selves" d [(("_stations" : Str), a), (("_lines" : Str), b), (("_plants" : Str), c)] = [(("_stations" : Str), a), (("_lines" : Str), b), (("_plants" : Str), c), (("_selves" : Str), d)] := fun _ _ _ _ => rfl
  simp [f_land_init, b_land_init, mDNew, p1, p2, p3, p4, runF, sSeq, sIf, sNext, sDrop, sRet, sRetN, sAsg, ofRes, ofB, bName, bNil, bCons, bTup, bLst, bSubL, mTest, mOp, mVar, mC, mChain, mAnd, mOr, mNot, mIf, mAndV, mOrV, mNotV, mNeg, mCons, mNil, mTup, mLst, newL, mCall, mFn, arity, g1, g2, gLen, gInt, gAbs, gMax2, gMin2, gIx, seqOf, lsqOf, lstOf, Res.bind, ofO, gAdd_ok, gSub_ok, gEq_int, gNe_int, gLt_int, gLe_int, gGt_int, gGe_int, gEq_bl, gNe_bl, gEq_str, gNe_str, mIsi, mIsiT, tyD, kitL, kitTab, atI_c0, atI_c1, atI_c2, atI_c3, atI_c4, sForR1, int1, int2, mMeth, mMake, mFld, sFldM, gIs, gIsNot, isNon_t, sRaise, gList, newLO]
abbrev bSt : SM := (sDrop (mMeth "Land" "add_station" (arity 2 f_land_add_station) [] (mVar 1) (mCons (mVar 2) mNil)))
abbrev bLn : SM := (sDrop (mMeth "Land" "add_line" (arity 6 f_land_add_line) [] (mVar 1) (mCons (mVar 2) (mCons (mVar 3) (mCons (mVar 4) (mCons (mVar 5) (mCons (mVar 6) mNil)))))))
abbrev bPl : SM := (sIf (mTru (mVar 13)) (sDrop (mMeth "Land" "add_self" (arity 5 f_land_add_self) [] (mVar 1) (mCons (mVar 2) (mCons (mVar 7) (mCons (mVar 8) (mCons (mVar 9) mNil)))))) (sDrop (mMeth "Land" "add_plant" (arity 9 f_land_add_plant) [] (mVar 1) (mCons (mVar 2) (mCons (mVar 7) (mCons (mVar 5) (mCons (mVar 8) (mCons (mVar 9) (mCons (mVar 10) (mCons (mVar 11) (mCons (mVar 12) mNil)))))))))))
abbrev gLn : BM := (bTup 5 (bCons (bName 2) (bCons (bName 3) (bCons (bName 4) (bCons (bName 5) (bCons (bName 6) bNil))))))
abbrev gPl : BM := (bTup 9 (bCons (bName 2) (bCons (bName 7) (bCons (bName 5) (bCons (bName 8) (bCons (bName 9) (bCons (bName 10) (bCons (bName 11) (bCons (bName 12) (bCons (bName 13) bNil))))))))))
theorem build_ok {w : Wd} {O : Store} (k : WOK w) (h0 : 0 < O.length) : ∃ (h s l p v : Nat) (O' : Store), f_law_build [encW w] O = .ok (.hdl h) O' ∧ LandAt h s l p v w O' ∧ Fz O O' ∧ O.length ≤ h ∧ O.length ≤ s ∧ O.length ≤ l ∧ O.length ≤ p ∧ O.length ≤ v := by
  obtain ⟨n, hn⟩ : ∃ n, O.length = n := ⟨_, rfl⟩
  have nd := k.nd
  have hs6 : w.st.length ≤ 6 := k.st6
  obtain ⟨OA, hOA⟩ : ∃ OA, O ++ [landO (n + 1) (n + 2) (n + 3) (n + 4), .lst [], .dct [], .dct [], .lst []] = OA := ⟨_, rfl⟩
  have hget : ∀ (i : Nat), OA[n + i]? = [landO (n + 1) (n + 2) (n + 3) (n + 4), Ob.lst [], .dct [], .dct [], .lst []][i]? := fun i => by
    rw [← hOA, List.getElem?_append_right (by omega), hn]
    congr 1
    omega
  have aA : LandAt n (n + 1) (n + 2) (n + 3) (n + 4) ⟨[], [], []⟩ OA := ⟨hget 0, hget 1, hget 2, hget 3, hget 4, by omega, by omega, by omega⟩
  have fA : Fz O OA := hOA ▸ fz_app
  -- the stations
  obtain ⟨L1, O1, e1, s1, y1, hL1, a1, f1, ns1'⟩ := forL_keeps (m := mOp gIx (mVar 0) (mC (.int 0))) (b := bName 2) (body := bSt) (L := [some (encW w), some (.hdl n), none, none, none, none, none, none, none, none, none, none, none, none]) (O := OA) (O1 := OA) (ds := w.st.map .str)
    (I := fun i L O' => ∃ (s : Nat) (y : Option D), L = [some (encW w), some (.hdl n), y, none, none, none, none, none, none, none, none, none, none, none] ∧ LandAt n s (n + 2) (n + 3) (n + 4) ⟨w.st.take i, [], []⟩ O' ∧ Fz O O' ∧ n ≤ s)
    (by simp [runF, sSeq, sIf, sNext, sDrop, sRet, sRetN, sAsg, ofRes, ofB, bName, bNil, bCons, bTup, bLst, bSubL, mTest, mOp, mVar, mC, mChain, mAnd, mOr, mNot, mIf, mAndV, mOrV, mNotV, mNeg, mCons, mNil, mTup, mLst, newL, mCall, mFn, arity, g1, g2, gLen, gInt, gAbs, gMax2, gMin2, gIx, seqOf, lsqOf, lstOf, Res.bind, ofO, gAdd_ok, gSub_ok, gEq_int, gNe_int, gLt_int, gLe_int, gGt_int, gGe_int, gEq_bl, gNe_bl, gEq_str, gNe_str, mIsi, mIsiT, tyD, kitL, kitTab, atI_c0, atI_c1, atI_c2, atI_c3, atI_c4, sForR1, int1, int2, mMeth, mMake, mFld, sFldM, gIs, gIsNot, isNon_t, sRaise, gList, newLO]) ⟨n + 1, none, rfl, by simpa using aA, fA, by omega⟩ fun i d L O' hd ⟨s, y, hL, a, f, _⟩ => by
      subst hL
      rw [List.getElem?_map] at hd
      obtain ⟨x, hx, rfl⟩ := Option.map_eq_some_iff.mp hd
      have hi := (List.getElem?_eq_some_iff.mp hx).1
      have hxm := List.mem_of_getElem? hx
      have hni : x ∉ w.st.take i := nodup_mid (B := w.st.drop (i + 1) ++ (w.ls.map (·.n) ++ w.ps.map (·.n))) (by
        rw [← List.cons_append, ← List.append_assoc, ← drop_get hx, List.take_append_drop]; exact nd)
      obtain ⟨q1, q2⟩ := add_station_ok (st' := w.st.take (i + 1)) a (k.snm hxm) (kind_non hni (by simp) (by simp)) (by show (w.st.take i).length < 60; rw [List.length_take]; omega) (by
        show sortS (w.st.take i ++ [x]) = _
        exact sort_stn k.stp hx) (by rw [List.length_take]; omega)
      have lk : List.lookup ("add_station" : Str) [(("_stations" : Str), D.hdl s), (("_lines" : Str), .hdl (n + 2)), (("_plants" : Str), .hdl (n + 3)), (("_selves" : Str), .hdl (n + 4))] = none := rfl
      exact ⟨_, _, by simp [turnOf, bSt, runF, sSeq, sIf, sNext, sDrop, sRet, sRetN, sAsg, ofRes, ofB, bName, bNil, bCons, bTup, bLst, bSubL, mTest, mOp, mVar, mC, mChain, mAnd, mOr, mNot, mIf, mAndV, mOrV, mNotV, mNeg, mCons, mNil, mTup, mLst, newL, mCall, mFn, arity, g1, g2, gLen, gInt, gAbs, gMax2, gMin2, gIx, seqOf, lsqOf, lstOf, Res.bind, ofO, gAdd_ok, gSub_ok, gEq_int, gNe_int, gLt_int, gLe_int, gGt_int, gGe_int, gEq_bl, gNe_bl, gEq_str, gNe_str, mIsi, mIsiT, tyD, kitL, kitTab, atI_c0, atI_c1, atI_c2, atI_c3, atI_c4, sForR1, int1, int2, mMeth, mMake, mFld, sFldM, gIs, gIsNot, isNon_t, sRaise, gList, newLO, a.eo, lk, q1], _, some (.str x), rfl, q2, fz_setNew (f.trans fz_app) (by omega), by rw [← hn]; exact f.1⟩
  rw [List.length_map, List.take_length] at a1
  subst hL1
  -- the lines
  obtain ⟨L2, O2, e2, y2, y3, y4, y5, y6, hL2, a2, f2⟩ := forL_keeps (m := mOp gIx (mVar 0) (mC (.int 1))) (b := gLn) (body := bLn) (L := [some (encW w), some (.hdl n), y1, none, none, none, none, none, none, none, none, none, none, none]) (O := O1) (O1 := O1) (ds := w.ls.map encL)
    (I := fun i L O' => ∃ (y2 y3 y4 y5 y6 : Option D), L = [some (encW w), some (.hdl n), y2, y3, y4, y5, y6, none, none, none, none, none, none, none] ∧ LandAt n s1 (n + 2) (n + 3) (n + 4) ⟨w.st, w.ls.take i, []⟩ O' ∧ Fz O O')
    (by simp [runF, sSeq, sIf, sNext, sDrop, sRet, sRetN, sAsg, ofRes, ofB, bName, bNil, bCons, bTup, bLst, bSubL, mTest, mOp, mVar, mC, mChain, mAnd, mOr, mNot, mIf, mAndV, mOrV, mNotV, mNeg, mCons, mNil, mTup, mLst, newL, mCall, mFn, arity, g1, g2, gLen, gInt, gAbs, gMax2, gMin2, gIx, seqOf, lsqOf, lstOf, Res.bind, ofO, gAdd_ok, gSub_ok, gEq_int, gNe_int, gLt_int, gLe_int, gGt_int, gGe_int, gEq_bl, gNe_bl, gEq_str, gNe_str, mIsi, mIsiT, tyD, kitL, kitTab, atI_c0, atI_c1, atI_c2, atI_c3, atI_c4, sForR1, int1, int2, mMeth, mMake, mFld, sFldM, gIs, gIsNot, isNon_t, sRaise, gList, newLO]) ⟨y1, none, none, none, none, rfl, by simpa using a1, f1⟩ fun i d L O' hd ⟨y2, y3, y4, y5, y6, hL, a, f⟩ => by
      subst hL
      rw [List.getElem?_map] at hd
      obtain ⟨x, hx, rfl⟩ := Option.map_eq_some_iff.mp hd
      have hi := (List.getElem?_eq_some_iff.mp hx).1
      have hxm := List.mem_of_getElem? hx
      have hni : x.n ∉ w.st ++ (w.ls.take i).map (·.n) := nodup_mid (B := (w.ls.drop (i + 1)).map (·.n) ++ w.ps.map (·.n)) (by
        have e : w.ls.map (·.n) = (w.ls.take i).map (·.n) ++ x.n :: (w.ls.drop (i + 1)).map (·.n) := by
          rw [show x.n :: (w.ls.drop (i + 1)).map (·.n) = (x :: w.ls.drop (i + 1)).map (·.n) from rfl, ← drop_get hx, ← List.map_append, List.take_append_drop]
        rw [e] at nd
        simpa using nd)
      have h1 : x.n ∉ w.st := fun z => hni (List.mem_append_left _ z)
      have h2 : x.n ∉ (w.ls.take i).map (·.n) := fun z => hni (List.mem_append_right _ z)
      obtain ⟨q1, q2⟩ := add_line_ok (l1 := x) a (k.lnm hxm) (kind_non h1 h2 (by simp)) (by show (w.ls.take i).length < 60; rw [List.length_take]; have := k.ll; omega) (k.lok x hxm)
      have lk : List.lookup ("add_line" : Str) [(("_stations" : Str), D.hdl s1), (("_lines" : Str), .hdl (n + 2)), (("_plants" : Str), .hdl (n + 3)), (("_selves" : Str), .hdl (n + 4))] = none := rfl
      have f' : Fz O (O'.set (n + 2) (.dct (dicS (·.n) lineD (w.ls.take i ++ [x])))) := fz_setNew f (by omega)
      have q1 : f_land_add_line [.hdl n, .str x.n, .str x.a, .str x.b, .int x.need, .int x.min] O' = .ok .non (O'.set (n + 2) (.dct (dicS (·.n) lineD (w.ls.take i ++ [x])))) := q1
      have q2 : LandAt n s1 (n + 2) (n + 3) (n + 4) ⟨w.st, w.ls.take i ++ [x], []⟩ (O'.set (n + 2) (.dct (dicS (·.n) lineD (w.ls.take i ++ [x])))) := q2
      generalize O'.set (n + 2) (.dct (dicS (·.n) lineD (w.ls.take i ++ [x]))) = O'' at q1 q2 f'
      exact ⟨_, O'', by simp [turnOf, gLn, bLn, runF, sSeq, sIf, sNext, sDrop, sRet, sRetN, sAsg, ofRes, ofB, bName, bNil, bCons, bTup, bLst, bSubL, mTest, mOp, mVar, mC, mChain, mAnd, mOr, mNot, mIf, mAndV, mOrV, mNotV, mNeg, mCons, mNil, mTup, mLst, newL, mCall, mFn, arity, g1, g2, gLen, gInt, gAbs, gMax2, gMin2, gIx, seqOf, lsqOf, lstOf, Res.bind, ofO, gAdd_ok, gSub_ok, gEq_int, gNe_int, gLt_int, gLe_int, gGt_int, gGe_int, gEq_bl, gNe_bl, gEq_str, gNe_str, mIsi, mIsiT, tyD, kitL, kitTab, atI_c0, atI_c1, atI_c2, atI_c3, atI_c4, sForR1, int1, int2, mMeth, mMake, mFld, sFldM, gIs, gIsNot, isNon_t, sRaise, gList, newLO, a.eo, lk, q1], some (.str x.n), some (.str x.a), some (.str x.b), some (.int x.need), some (.int x.min), rfl, by rw [take_get hx]; exact q2, f'⟩
  rw [List.length_map, List.take_length] at a2
  subst hL2
  -- the plants
  obtain ⟨L3, O3, e3, z2, z5, z7, z8, z9, z10, z11, z12, z13, hL3, a3, f3⟩ := forL_keeps (m := mOp gIx (mVar 0) (mC (.int 2))) (b := gPl) (body := bPl) (L := [some (encW w), some (.hdl n), y2, y3, y4, y5, y6, none, none, none, none, none, none, none]) (O := O2) (O1 := O2) (ds := w.ps.map encP)
    (I := fun i L O' => ∃ (z2 z5 z7 z8 z9 z10 z11 z12 z13 : Option D), L = [some (encW w), some (.hdl n), z2, y3, y4, z5, y6, z7, z8, z9, z10, z11, z12, z13] ∧ LandAt n s1 (n + 2) (n + 3) (n + 4) ⟨w.st, w.ls, w.ps.take i⟩ O' ∧ Fz O O')
    (by simp [runF, sSeq, sIf, sNext, sDrop, sRet, sRetN, sAsg, ofRes, ofB, bName, bNil, bCons, bTup, bLst, bSubL, mTest, mOp, mVar, mC, mChain, mAnd, mOr, mNot, mIf, mAndV, mOrV, mNotV, mNeg, mCons, mNil, mTup, mLst, newL, mCall, mFn, arity, g1, g2, gLen, gInt, gAbs, gMax2, gMin2, gIx, seqOf, lsqOf, lstOf, Res.bind, ofO, gAdd_ok, gSub_ok, gEq_int, gNe_int, gLt_int, gLe_int, gGt_int, gGe_int, gEq_bl, gNe_bl, gEq_str, gNe_str, mIsi, mIsiT, tyD, kitL, kitTab, atI_c0, atI_c1, atI_c2, atI_c3, atI_c4, sForR1, int1, int2, mMeth, mMake, mFld, sFldM, gIs, gIsNot, isNon_t, sRaise, gList, newLO]) ⟨_, _, none, none, none, none, none, none, none, rfl, by simpa using a2, f2⟩ fun i d L O' hd ⟨z2, z5, z7, z8, z9, z10, z11, z12, z13, hL, a, f⟩ => by
      subst hL
      rw [List.getElem?_map] at hd
      obtain ⟨x, hx, rfl⟩ := Option.map_eq_some_iff.mp hd
      have hi := (List.getElem?_eq_some_iff.mp hx).1
      have hxm := List.mem_of_getElem? hx
      have hni : x.n ∉ w.st ++ (w.ls.map (·.n) ++ (w.ps.take i).map (·.n)) := nodup_mid (B := (w.ps.drop (i + 1)).map (·.n)) (by
        have e : w.ps.map (·.n) = (w.ps.take i).map (·.n) ++ x.n :: (w.ps.drop (i + 1)).map (·.n) := by
          rw [show x.n :: (w.ps.drop (i + 1)).map (·.n) = (x :: w.ps.drop (i + 1)).map (·.n) from rfl, ← drop_get hx, ← List.map_append, List.take_append_drop]
        rw [e] at nd
        simpa using nd)
      have h1 : x.n ∉ w.st := fun z => hni (List.mem_append_left _ z)
      have h2 : x.n ∉ w.ls.map (·.n) := fun z => hni (List.mem_append_right _ (List.mem_append_left _ z))
      have h3 : x.n ∉ (w.ps.take i).map (·.n) := fun z => hni (List.mem_append_right _ (List.mem_append_right _ z))
      have fin : ∀ (O'' : Store), O''.length = O'.length → (∀ i, i ≠ n + 3 → i ≠ n + 4 → O''[i]? = O'[i]?) → Fz O O'' := fun O'' hl hq => ⟨by rw [hl]; exact f.1, fun i hi => (hq i (by omega) (by omega)).trans (f.2 i hi)⟩
      have hlen : (w.ps.take i).length < 60 := by rw [List.length_take]; have := k.pl; omega
      cases ha : x.alone
      · obtain ⟨O'', q1, q2, q3, q4⟩ := add_plant_ok (p1 := x) a (k.pnm hxm) (kind_non h1 h2 h3) hlen (k.pok x hxm) ha
        have lk : List.lookup ("add_plant" : Str) [(("_stations" : Str), D.hdl s1), (("_lines" : Str), .hdl (n + 2)), (("_plants" : Str), .hdl (n + 3)), (("_selves" : Str), .hdl (n + 4))] = none := rfl
        exact ⟨_, O'', by simp [turnOf, gPl, bPl, mTru, truD, runF, sSeq, sIf, sNext, sDrop, sRet, sRetN, sAsg, ofRes, ofB, bName, bNil, bCons, bTup, bLst, bSubL, mTest, mOp, mVar, mC, mChain, mAnd, mOr, mNot, mIf, mAndV, mOrV, mNotV, mNeg, mCons, mNil, mTup, mLst, newL, mCall, mFn, arity, g1, g2, gLen, gInt, gAbs, gMax2, gMin2, gIx, seqOf, lsqOf, lstOf, Res.bind, ofO, gAdd_ok, gSub_ok, gEq_int, gNe_int, gLt_int, gLe_int, gGt_int, gGe_int, gEq_bl, gNe_bl, gEq_str, gNe_str, mIsi, mIsiT, tyD, kitL, kitTab, atI_c0, atI_c1, atI_c2, atI_c3, atI_c4, sForR1, int1, int2, mMeth, mMake, mFld, sFldM, gIs, gIsNot, isNon_t, sRaise, gList, newLO, a.eo, lk, ha, q1], some (.str x.n), some (.int x.need), some (.str x.s), some (.int x.gives), some (.int x.quick), some (.int x.hot), some (.int x.cool), some (.int x.slow), some (.bl x.alone), rfl, by rw [take_get hx]; exact q2, fin O'' q3 q4⟩
      · obtain ⟨O'', q1, q2, q3, q4⟩ := add_self_ok (p1 := x) a (k.pnm hxm) (kind_non h1 h2 h3) hlen (k.pok x hxm) ha
        have lk : List.lookup ("add_self" : Str) [(("_stations" : Str), D.hdl s1), (("_lines" : Str), .hdl (n + 2)), (("_plants" : Str), .hdl (n + 3)), (("_selves" : Str), .hdl (n + 4))] = none := rfl
        exact ⟨_, O'', by simp [turnOf, gPl, bPl, mTru, truD, runF, sSeq, sIf, sNext, sDrop, sRet, sRetN, sAsg, ofRes, ofB, bName, bNil, bCons, bTup, bLst, bSubL, mTest, mOp, mVar, mC, mChain, mAnd, mOr, mNot, mIf, mAndV, mOrV, mNotV, mNeg, mCons, mNil, mTup, mLst, newL, mCall, mFn, arity, g1, g2, gLen, gInt, gAbs, gMax2, gMin2, gIx, seqOf, lsqOf, lstOf, Res.bind, ofO, gAdd_ok, gSub_ok, gEq_int, gNe_int, gLt_int, gLe_int, gGt_int, gGe_int, gEq_bl, gNe_bl, gEq_str, gNe_str, mIsi, mIsiT, tyD, kitL, kitTab, atI_c0, atI_c1, atI_c2, atI_c3, atI_c4, sForR1, int1, int2, mMeth, mMake, mFld, sFldM, gIs, gIsNot, isNon_t, sRaise, gList, newLO, a.eo, lk, ha, q1], some (.str x.n), some (.int x.need), some (.str x.s), some (.int x.gives), some (.int x.quick), some (.int x.hot), some (.int x.cool), some (.int x.slow), some (.bl x.alone), rfl, by rw [take_get hx]; exact q2, fin O'' q3 q4⟩
  rw [List.length_map, List.take_length] at a3
  subst hL3
  refine ⟨n, s1, n + 2, n + 3, n + 4, O3, ?_, a3, f3, by omega, by omega, by omega, by omega, by omega⟩
  have eI := init_ok (O := O)
  rw [hn, hOA] at eI
  simp only [f_law_build, b_law_build]
  generalize sForL (mOp gIx (mVar 0) (mC (.int 0))) (bName 2) bSt = sA at e1 ⊢
  generalize sForL (mOp gIx (mVar 0) (mC (.int 1))) gLn bLn = sB at e2 ⊢
  generalize sForL (mOp gIx (mVar 0) (mC (.int 2))) gPl bPl = sC at e3 ⊢
  simp [runF, sSeq, sIf, sNext, sDrop, sRet, sRetN, sAsg, ofRes, ofB, bName, bNil, bCons, bTup, bLst, bSubL, mTest, mOp, mVar, mC, mChain, mAnd, mOr, mNot, mIf, mAndV, mOrV, mNotV, mNeg, mCons, mNil, mTup, mLst, newL, mCall, mFn, arity, g1, g2, gLen, gInt, gAbs, gMax2, gMin2, gIx, seqOf, lsqOf, lstOf, Res.bind, ofO, gAdd_ok, gSub_ok, gEq_int, gNe_int, gLt_int, gLe_int, gGt_int, gGe_int, gEq_bl, gNe_bl, gEq_str, gNe_str, mIsi, mIsiT, tyD, kitL, kitTab, atI_c0, atI_c1, atI_c2, atI_c3, atI_c4, sForR1, int1, int2, mMeth, mMake, mFld, sFldM, gIs, gIsNot, isNon_t, sRaise, gList, newLO, hn, eI, e1, e2, e3]
end DK.W
end
section
set_option Elab.async false
set_option linter.all false
set_option autoImplicit false
set_option maxRecDepth 100000
set_option maxHeartbeats 4000000
/-! DKConn: what hangs together, in plain Lean. -/
namespace DK.W
open PySem L2 DK
/-- a hangs together with b by the edges -/
inductive Conn (E : List (Str × Str)) : Str → Str → Prop where
  | refl (a : Str) : Conn E a a
  | fw {a b c : Str} : (a, b) ∈ E → Conn E b c → Conn E a c
  | bw {a b c : Str} : (b, a) ∈ E → Conn E b c → Conn E a c
theorem Conn.trans {E : List (Str × Str)} {a b c : Str} (h : Conn E a b) (k : Conn E b c) : Conn E a c := by
  induction h with
  | refl a => exact k
  | fw e _ ih => exact .fw e (ih k)
  | bw e _ ih => exact .bw e (ih k)
theorem Conn.symm {E : List (Str × Str)} {a b : Str} (h : Conn E a b) : Conn E b a := by
  induction h with
  | refl a => exact .refl a
  | fw e _ ih => exact ih.trans (.bw e (.refl _))
  | bw e _ ih => exact ih.trans (.fw e (.refl _))
theorem Conn.mono {E E' : List (Str × Str)} (hs : ∀ e ∈ E, e ∈ E') {a b : Str} (h : Conn E a b) : Conn E' a b := by
  induction h with
  | refl a => exact .refl a
  | fw e _ ih => exact .fw (hs _ e) ih
  | bw e _ ih => exact .bw (hs _ e) ih
theorem Conn.edge {E : List (Str × Str)} {a b : Str} (h : (a, b) ∈ E) : Conn E a b := .fw h (.refl b)
/-- what is equal at both ends of every edge is equal where it hangs together -/
theorem Conn.keeps {E : List (Str × Str)} {α : Type} {f : Str → α} (h : ∀ a b, (a, b) ∈ E → f a = f b) {a b : Str} (c : Conn E a b) : f a = f b := by
  induction c with
  | refl a => rfl
  | fw e _ ih => exact (h _ _ e).trans ih
  | bw e _ ih => exact (h _ _ e).symm.trans ih
theorem Conn.nil {a b : Str} (h : Conn [] a b) : a = b := by
  cases h with
  | refl a => rfl
  | fw e _ => cases e
  | bw e _ => cases e
/-- f tells what hangs together -/
def Tells (E : List (Str × Str)) (f : Str → Str) : Prop := ∀ x y, f x = f y ↔ Conn E x y
theorem tells_nil : Tells [] id := fun x y => ⟨fun h => by cases h; exact .refl _, fun h => h.nil⟩
/-- the roots are renamed -/
theorem tells_step {E : List (Str × Str)} {f : Str → Str} {a b : Str} (t : Tells E f) : Tells (E ++ [(a, b)]) (fun x => if f x = f a then f b else f x) := fun x y => by
  have up : ∀ {x y}, Conn E x y → Conn (E ++ [(a, b)]) x y := fun h => h.mono fun e he => List.mem_append_left _ he
  have ab : Conn (E ++ [(a, b)]) a b := .edge (by simp)
  constructor
  · intro h
    simp only at h
    by_cases cx : f x = f a <;> by_cases cy : f y = f a
    · exact up ((t x y).mp (cx.trans cy.symm))
    · rw [if_pos cx, if_neg cy] at h
      exact (up ((t x a).mp cx)).trans (ab.trans (up ((t b y).mp h)))
    · rw [if_neg cx, if_pos cy] at h
      exact (up ((t x b).mp h)).trans (ab.symm.trans (up ((t a y).mp cy.symm)))
    · rw [if_neg cx, if_neg cy] at h
      exact up ((t x y).mp h)
  · intro h
    refine Conn.keeps (f := fun x => if f x = f a then f b else f x) (fun c d hcd => ?_) h
    rcases List.mem_append.mp hcd with hcd | hcd
    · have := (t c d).mpr (.edge hcd)
      simp only [this]
    · simp at hcd
      obtain ⟨rfl, rfl⟩ := hcd
      simp
/-- the marks of the walk: R is what is marked, and with what; closed but for what waits -/
structure Marks (E : List (Str × Str)) (lit : List Str) (i : Nat) (wait : List Str) (R : Str → Option Str) : Prop where
  dom : ∀ x f, R x = some f → x ∈ lit
  conn : ∀ x f, R x = some f → Conn E x f
  closed : ∀ x f, R x = some f → x ∉ wait → ∀ y, ((x, y) ∈ E ∨ (y, x) ∈ E) → R y = some f
  past : ∀ j x, j < i → lit[j]? = some x → ∃ j' x', j' ≤ j ∧ lit[j']? = some x' ∧ R x = some x'
theorem Marks.start {E : List (Str × Str)} {lit : List Str} : Marks E lit 0 [] fun _ => none := ⟨fun _ _ h => by (cases h), fun _ _ h => by (cases h), fun _ _ h => by (cases h), fun j x h => by omega⟩
/-- the next one is there already -/
theorem Marks.skip {E : List (Str × Str)} {lit : List Str} {i : Nat} {R : Str → Option Str} {x f : Str} (m : Marks E lit i [] R) (hx : lit[i]? = some x) (h : R x = some f) (hf : ∃ j' , j' ≤ i ∧ lit[j']? = some f) : Marks E lit (i + 1) [] R :=
  ⟨m.dom, m.conn, m.closed, fun j y hj hy => by
    rcases Nat.lt_or_ge j i with c | c
    · exact m.past j y c hy
    · obtain rfl : j = i := by omega
      rw [hx] at hy
      cases hy
      obtain ⟨j', h1, h2⟩ := hf
      exact ⟨j', f, h1, h2, h⟩⟩
/-- the roots are among those that were gone through -/
def Roots (lit : List Str) (i : Nat) (R : Str → Option Str) : Prop := ∀ x f, R x = some f → ∃ j, j < i ∧ lit[j]? = some f
/-- the walk from `first`: all that waits bears it -/
structure Walk (E : List (Str × Str)) (lit : List Str) (i : Nat) (first : Str) (wait : List Str) (R : Str → Option Str) : Prop where
  m : Marks E lit (i + 1) wait R
  w : ∀ x ∈ wait, R x = some first
  r : Roots lit (i + 1) R
theorem Walk.begin {E : List (Str × Str)} {lit : List Str} {i : Nat} {R : Str → Option Str} {x : Str} (sy : ∀ a b, (a, b) ∈ E → a ∈ lit ∧ b ∈ lit) (m : Marks E lit i [] R) (r : Roots lit i R) (hx : lit[i]? = some x) (h : R x = none) : Walk E lit i x [x] (fun y => if y = x then some x else R y) where
  m := ⟨fun y f e => by
      by_cases c : y = x
      · subst c; exact List.mem_of_getElem? hx
      · simp only [if_neg c] at e; exact m.dom y f e,
    fun y f e => by
      by_cases c : y = x
      · subst c; simp only [if_pos rfl] at e; cases e; exact .refl _
      · simp only [if_neg c] at e; exact m.conn y f e,
    fun y f e hw z hz => by
      have c : ¬ y = x := fun c => hw (by simp [c])
      simp only [if_neg c] at e
      have := m.closed y f e (by simp) z hz
      by_cases c2 : z = x
      · subst c2; rw [h] at this; cases this
      · simp only [if_neg c2]; exact this,
    fun j y hj hy => by
      by_cases c : y = x
      · subst c
        rcases Nat.lt_or_ge j i with c2 | c2
        · obtain ⟨_, _, _, _, e⟩ := m.past j y c2 hy
          rw [h] at e; cases e
        · obtain rfl : j = i := by omega
          exact ⟨j, y, Nat.le_refl _, hx, by simp⟩
      · rcases Nat.lt_or_ge j i with c2 | c2
        · obtain ⟨j', x', h1, h2, e⟩ := m.past j y c2 hy
          exact ⟨j', x', h1, h2, by simp only [if_neg c]; exact e⟩
        · obtain rfl : j = i := by omega
          rw [hx] at hy; cases hy; exact absurd rfl c⟩
  w := fun y hy => by rw [List.mem_singleton.mp hy]; simp
  r := fun y f e => by
    by_cases c : y = x
    · subst c; simp only [if_pos rfl] at e; cases e; exact ⟨i, by omega, hx⟩
    · simp only [if_neg c] at e
      obtain ⟨j, h1, h2⟩ := r y f e
      exact ⟨j, by omega, h2⟩
/-- one, taken off, is gone through: its neighbours todo are still to be looked at -/
structure Look (E : List (Str × Str)) (lit : List Str) (i : Nat) (first x : Str) (todo : List Str) (wait : List Str) (R : Str → Option Str) : Prop where
  m : Marks E lit (i + 1) (x :: wait) R
  w : ∀ y ∈ wait, R y = some first
  rx : R x = some first
  r : Roots lit (i + 1) R
  done : ∀ y, ((x, y) ∈ E ∨ (y, x) ∈ E) → y ∉ todo → R y = some first
theorem Walk.pop {E : List (Str × Str)} {lit : List Str} {i : Nat} {R : Str → Option Str} {first x : Str} {wait todo : List Str} (k : Walk E lit i first (wait ++ [x]) R) (ht : ∀ y, ((x, y) ∈ E ∨ (y, x) ∈ E) → y ∈ todo) : Look E lit i first x todo wait R where
  m := ⟨k.m.dom, k.m.conn, fun y f e hw => k.m.closed y f e fun z => hw (by
    rcases List.mem_append.mp z with z | z
    · exact List.mem_cons_of_mem _ z
    · rw [List.mem_singleton.mp z]; exact List.mem_cons_self), k.m.past⟩
  w := fun y hy => k.w y (List.mem_append_left _ hy)
  rx := k.w x (by simp)
  r := k.r
  done := fun y hy hn => absurd (ht y hy) hn
theorem Look.skip {E : List (Str × Str)} {lit : List Str} {i : Nat} {R : Str → Option Str} {first x y f : Str} {wait todo : List Str} (k : Look E lit i first x (y :: todo) wait R) (hy : (x, y) ∈ E ∨ (y, x) ∈ E) (h : R y = some f) : Look E lit i first x todo wait R where
  m := k.m
  w := k.w
  rx := k.rx
  r := k.r
  done := fun z hz hn => by
    by_cases c : z = y
    · subst c
      by_cases c2 : z ∈ x :: wait
      · rcases List.mem_cons.mp c2 with c2 | c2
        · rw [c2]; exact k.rx
        · exact k.w z c2
      · have := k.m.closed z f h c2 x (hz.symm)
        rw [k.rx] at this
        cases this
        exact h
    · exact k.done z hz fun q => by
        rcases List.mem_cons.mp q with q | q
        · exact c q
        · exact hn q
theorem Look.add {E : List (Str × Str)} {lit : List Str} {i : Nat} {R : Str → Option Str} {first x y : Str} {wait todo : List Str} (sy : ∀ a b, (a, b) ∈ E → a ∈ lit ∧ b ∈ lit) (k : Look E lit i first x (y :: todo) wait R) (hy : (x, y) ∈ E ∨ (y, x) ∈ E) (h : R y = none) : Look E lit i first x todo (wait ++ [y]) (fun z => if z = y then some first else R z) := by
  have xy : ¬ x = y := fun z => by
    have := k.rx
    rw [z, h] at this
    cases this
  have cx : Conn E y first := (show Conn E y x by
    rcases hy with hy | hy
    · exact .bw hy (.refl _)
    · exact .edge hy).trans (k.m.conn _ _ k.rx)
  refine ⟨⟨fun z f e => ?_, fun z f e => ?_, fun z f e hw q hq => ?_, fun j z hj hz => ?_⟩, fun z hz => ?_, by simp only [if_neg xy]; exact k.rx, fun z f e => ?_, fun z hz hn => ?_⟩
  · by_cases c : z = y
    · subst c
      rcases hy with hy | hy
      · exact (sy _ _ hy).2
      · exact (sy _ _ hy).1
    · simp only [if_neg c] at e; exact k.m.dom z f e
  · by_cases c : z = y
    · subst c; simp only [if_pos rfl] at e; cases e; exact cx
    · simp only [if_neg c] at e; exact k.m.conn z f e
  · have c : ¬ z = y := fun c => hw (by simp [c])
    simp only [if_neg c] at e
    have := k.m.closed z f e (fun q => hw (by
      rcases List.mem_cons.mp q with q | q
      · simp [q]
      · simp [q])) q hq
    by_cases c2 : q = y
    · subst c2; rw [h] at this; cases this
    · simp only [if_neg c2]; exact this
  · obtain ⟨j', x', h1, h2, e⟩ := k.m.past j z hj hz
    refine ⟨j', x', h1, h2, ?_⟩
    have c : ¬ z = y := fun c => by rw [c, h] at e; cases e
    simp only [if_neg c]; exact e
  · by_cases c : z = y
    · simp only [if_pos c]
    · simp only [if_neg c]
      rcases List.mem_append.mp hz with hz | hz
      · exact k.w z hz
      · exact absurd (List.mem_singleton.mp hz) c
  · by_cases c : z = y
    · subst c; simp only [if_pos rfl] at e; cases e; exact k.r x first k.rx
    · simp only [if_neg c] at e; exact k.r z f e
  · by_cases c : z = y
    · simp only [if_pos c]
    · simp only [if_neg c]
      exact k.done z hz fun q => by
        rcases List.mem_cons.mp q with q | q
        · exact c q
        · exact hn q
theorem Look.fin {E : List (Str × Str)} {lit : List Str} {i : Nat} {R : Str → Option Str} {first x : Str} {wait : List Str} (k : Look E lit i first x [] wait R) : Walk E lit i first wait R where
  m := ⟨k.m.dom, k.m.conn, fun y f e hw z hz => by
    by_cases c : y = x
    · subst c
      rw [k.rx] at e
      cases e
      exact k.done z hz (by simp)
    · exact k.m.closed y f e (fun q => by
        rcases List.mem_cons.mp q with q | q
        · exact c q
        · exact hw q) z hz, k.m.past⟩
  w := k.w
  r := k.r
/-- at the end -/
theorem Marks.all {E : List (Str × Str)} {lit : List Str} {R : Str → Option Str} (m : Marks E lit lit.length [] R) : (∀ x, x ∈ lit → ∃ f, R x = some f) ∧ (∀ x y, x ∈ lit → y ∈ lit → (R x = R y ↔ Conn E x y)) := by
  have h1 : ∀ x, x ∈ lit → ∃ f, R x = some f := fun x hx => by
    obtain ⟨j, hj, e⟩ := List.getElem_of_mem hx
    obtain ⟨_, f, _, _, h⟩ := m.past j x hj (by rw [List.getElem?_eq_getElem hj, e])
    exact ⟨f, h⟩
  refine ⟨h1, fun x y hx hy => ⟨fun e => ?_, fun c => ?_⟩⟩
  · obtain ⟨f, hf⟩ := h1 x hx
    exact (m.conn x f hf).trans (m.conn y f (e ▸ hf)).symm
  · obtain ⟨f, hf⟩ := h1 x hx
    have key : ∀ {a b}, Conn E a b → R a = some f → R b = some f := fun {a b} c => by
      induction c with
      | refl a => exact id
      | fw e _ ih => exact fun h => ih (m.closed _ f h (by simp) _ (.inl e))
      | bw e _ ih => exact fun h => ih (m.closed _ f h (by simp) _ (.inr e))
    rw [hf, key c hf]
end DK.W
end
section
set_option Elab.async false
set_option linter.all false
set_option autoImplicit false
set_option maxRecDepth 100000
set_option maxHeartbeats 4000000
/-! DKMoment: what a land tells; moments, in plain Lean. -/
namespace DK.W
open PySem L2 DK
/-! ### dicts -/
theorem any_val {kvs : List (Key × D)} {k : Key} : (kvs.any fun kv => decide (kv.1 = k)) = (valD kvs k).isSome := by
  unfold valD
  rw [Option.isSome_map, Bool.eq_iff_iff, List.find?_isSome, List.any_eq_true]
theorem find_map_ne {k k' : Key} {d : D} (h : k' ≠ k) : ∀ (kvs : List (Key × D)), (kvs.map fun kv => if kv.1 = k then (kv.1, d) else kv).find? (fun kv => decide (kv.1 = k')) = kvs.find? (fun kv => decide (kv.1 = k'))
  | [] => rfl
  | kv :: kvs => by
    rw [List.map_cons, List.find?_cons, List.find?_cons, find_map_ne h kvs]
    by_cases c : kv.1 = k
    · have c2 : ¬ kv.1 = k' := fun z => h (z.symm.trans c)
      simp [c, Ne.symm h]
    · simp [c]
theorem find_map_eq {k : Key} {d : D} : ∀ (kvs : List (Key × D)), (kvs.any fun kv => decide (kv.1 = k)) = true → ((kvs.map fun kv => if kv.1 = k then (kv.1, d) else kv).find? (fun kv => decide (kv.1 = k))).map (·.2) = some d
  | [], h => by simp at h
  | kv :: kvs, h => by
    rw [List.map_cons, List.find?_cons]
    by_cases c : kv.1 = k
    · simp [c]
    · simp [c]
      have := find_map_eq (d := d) kvs (by simpa [c] using h)
      simpa using this
theorem val_put {kvs : List (Key × D)} {k k' : Key} {d : D} : valD (putKD kvs k d) k' = if k' = k then some d else valD kvs k' := by
  unfold putKD
  split
  · rename_i h
    by_cases c : k' = k
    · subst c
      rw [if_pos rfl]
      exact find_map_eq kvs h
    · rw [if_neg c]
      unfold valD
      rw [find_map_ne c]
  · rename_i h
    have hn : valD kvs k = none := by
      rw [any_val] at h
      cases e : valD kvs k with
      | none => rfl
      | some x => rw [e] at h; simp at h
    unfold valD at hn ⊢
    rw [List.find?_append]
    by_cases c : k' = k
    · subst c
      rw [if_pos rfl]
      have : kvs.find? (fun kv => decide (kv.1 = k')) = none := Option.map_eq_none_iff.mp hn
      rw [this]
      simp
    · rw [if_neg c]
      have : ¬ k = k' := fun z => c z.symm
      simp [this]
theorem put_len {kvs : List (Key × D)} {k : Key} {d : D} : (putKD kvs k d).length ≤ kvs.length + 1 := by
  unfold putKD
  split
  · rw [List.length_map]; omega
  · rw [List.length_append, List.length_singleton]; omega
/-! ### the land tells -/
structure Srt (w : Wd) : Prop where
  ln : sortS (w.ls.map (·.n)) = w.ls.map (·.n)
  pn : sortS (w.ps.map (·.n)) = w.ps.map (·.n)
  lnd : (w.ls.map (·.n)).Nodup
  pnd : (w.ps.map (·.n)).Nodup
  snd : w.st.Nodup
  l8 : w.ls.length < 60
  p8 : w.ps.length < 60
  s8 : w.st.length < 60
  ls : ∀ l ∈ w.ls, l.n ∉ w.st
  ps : ∀ p ∈ w.ps, p.n ∉ w.st
  lp : ∀ l ∈ w.ls, l.n ∉ w.ps.map (·.n)
  lok : ∀ l ∈ w.ls, LnOK w.st l
  pok : ∀ p ∈ w.ps, PlOK w.st p
theorem WOK.srt {w : Wd} (k : WOK w) : Srt w := by
  have nd := k.nd
  rw [List.nodup_append, List.nodup_append] at nd
  have hst6 := k.st6
  have hl := k.ll
  have hp := k.pl
  refine ⟨?_, ?_, nd.2.1.1, nd.2.1.2.1, nd.1, by omega, by omega, by omega, fun l hl z => ?_, fun p hp z => ?_, fun l hl z => ?_, k.lok, k.pok⟩
  · exact pw_sortS (List.Pairwise.sublist k.ln (by decide +kernel))
  · exact pw_sortS (List.Pairwise.sublist k.pn (by decide +kernel))
  · exact nd.2.2 _ z _ (List.mem_append_left _ (List.mem_map.mpr ⟨l, hl, rfl⟩)) rfl
  · exact nd.2.2 _ z _ (List.mem_append_right _ (List.mem_map.mpr ⟨p, hp, rfl⟩)) rfl
  · exact nd.2.1.2.2 _ (List.mem_map.mpr ⟨l, hl, rfl⟩) _ z rfl
theorem find_nm {α : Type} {n : α → Str} {x : α} : ∀ {xs : List α}, (xs.map n).Nodup → x ∈ xs → xs.find? (fun y => decide (n y = n x)) = some x
  | [], _, h => by cases h
  | y :: ys, nd, h => by
    rw [List.map_cons, List.nodup_cons] at nd
    rw [List.find?_cons]
    rcases List.mem_cons.mp h with h | h
    · subst h; simp
    · have : ¬ n y = n x := fun z => nd.1 (by rw [z]; exact List.mem_map.mpr ⟨x, h, rfl⟩)
      simp only [this, decide_false]
      exact find_nm nd.2 h
theorem val_nm {α : Type} {n : α → Str} {g : α → D} {x : α} {xs : List α} (nd : (xs.map n).Nodup) (h : x ∈ xs) : valD (dicS n g xs) (.inr (n x)) = some (g x) := by
  rw [val_dicS, find_nm nd h]
  rfl
section
variable {h s l p v : Nat} {w : Wd} {O : Store} {nm : Str}
theorem stations_ok (a : LandAt h s l p v w O) (k : Srt w) : f_land_stations [.hdl h] O = .ok (.lst (w.st.map .str)) O := by
  have : w.st.length ≤ 1000000 := by have := k.s8; omega
  simp [f_land_stations, b_land_stations, runF, sSeq, sIf, sNext, sDrop, sRet, sRetN, sAsg, ofRes, ofB, bName, bNil, bCons, bTup, bLst, bSubL, mTest, mOp, mVar, mC, mChain, mAnd, mOr, mNot, mIf, mAndV, mOrV, mNotV, mNeg, mCons, mNil, mTup, mLst, newL, mCall, mFn, arity, g1, g2, gLen, gInt, gAbs, gMax2, gMin2, gIx, seqOf, lsqOf, lstOf, Res.bind, ofO, gAdd_ok, gSub_ok, gEq_int, gNe_int, gLt_int, gLe_int, gGt_int, gGe_int, gEq_bl, gNe_bl, gEq_str, gNe_str, mIsi, mIsiT, tyD, kitL, kitTab, atI_c0, atI_c1, atI_c2, atI_c3, atI_c4, sForR1, int1, int2, mMeth, mMake, mFld, sFldM, gIs, gIsNot, isNon_t, sRaise, gList, newLO, a.eo, a.es, lks, this]
theorem inrs_dic {α : Type} {n : α → Str} {g : α → D} : ∀ {xs : List α}, inrs ((dicS n g xs).map (·.1)) = some (xs.map n)
  | [] => rfl
  | x :: xs => by
    show (inrs ((dicS n g xs).map (·.1))).map (n x :: ·) = _
    rw [inrs_dic]
    rfl
theorem lines_ok (a : LandAt h s l p v w O) (k : Srt w) : f_land_lines [.hdl h] O = .ok (.lst ((w.ls.map (·.n)).map .str)) O := by
  have e : gSorted false O (.hdl l) = some (.lst ((w.ls.map (·.n)).map .str), O) := by
    unfold gSorted
    simp only [dctOf, a.el, inrs_dic]
    rw [if_pos (by rw [List.length_map]; have := k.l8; omega), k.ln]
    simp [newLO]
    have := k.l8; omega
  generalize (w.ls.map (·.n)).map D.str = z at *
  simp [f_land_lines, b_land_lines, runF, sSeq, sIf, sNext, sDrop, sRet, sRetN, sAsg, ofRes, ofB, bName, bNil, bCons, bTup, bLst, bSubL, mTest, mOp, mVar, mC, mChain, mAnd, mOr, mNot, mIf, mAndV, mOrV, mNotV, mNeg, mCons, mNil, mTup, mLst, newL, mCall, mFn, arity, g1, g2, gLen, gInt, gAbs, gMax2, gMin2, gIx, seqOf, lsqOf, lstOf, Res.bind, ofO, gAdd_ok, gSub_ok, gEq_int, gNe_int, gLt_int, gLe_int, gGt_int, gGe_int, gEq_bl, gNe_bl, gEq_str, gNe_str, mIsi, mIsiT, tyD, kitL, kitTab, atI_c0, atI_c1, atI_c2, atI_c3, atI_c4, sForR1, int1, int2, mMeth, mMake, mFld, sFldM, gIs, gIsNot, isNon_t, sRaise, gList, newLO, a.eo, lkl, e]
theorem plants_ok (a : LandAt h s l p v w O) (k : Srt w) : f_land_plants [.hdl h] O = .ok (.lst ((w.ps.map (·.n)).map .str)) O := by
  have e : gSorted false O (.hdl p) = some (.lst ((w.ps.map (·.n)).map .str), O) := by
    unfold gSorted
    simp only [dctOf, a.ep, inrs_dic]
    rw [if_pos (by rw [List.length_map]; have := k.p8; omega), k.pn]
    simp [newLO]
    have := k.p8; omega
  generalize (w.ps.map (·.n)).map D.str = z at *
  simp [f_land_plants, b_land_plants, runF, sSeq, sIf, sNext, sDrop, sRet, sRetN, sAsg, ofRes, ofB, bName, bNil, bCons, bTup, bLst, bSubL, mTest, mOp, mVar, mC, mChain, mAnd, mOr, mNot, mIf, mAndV, mOrV, mNotV, mNeg, mCons, mNil, mTup, mLst, newL, mCall, mFn, arity, g1, g2, gLen, gInt, gAbs, gMax2, gMin2, gIx, seqOf, lsqOf, lstOf, Res.bind, ofO, gAdd_ok, gSub_ok, gEq_int, gNe_int, gLt_int, gLe_int, gGt_int, gGe_int, gEq_bl, gNe_bl, gEq_str, gNe_str, mIsi, mIsiT, tyD, kitL, kitTab, atI_c0, atI_c1, atI_c2, atI_c3, atI_c4, sForR1, int1, int2, mMeth, mMake, mFld, sFldM, gIs, gIsNot, isNon_t, sRaise, gList, newLO, a.eo, lkp, e]
theorem line_is (a : LandAt h s l p v w O) (k : Srt w) {x : Ln} (hx : x ∈ w.ls) : f_land_line [.hdl h, .str x.n] O = .ok (lineD x) O := by
  have e := val_nm (n := Ln.n) (g := lineD) k.lnd hx
  have al := a.el
  generalize dicS Ln.n lineD w.ls = z at *
  simp [f_land_line, b_land_line, mDIn, mDGet, dctOf, keyD, runF, sSeq, sIf, sNext, sDrop, sRet, sRetN, sAsg, ofRes, ofB, bName, bNil, bCons, bTup, bLst, bSubL, mTest, mOp, mVar, mC, mChain, mAnd, mOr, mNot, mIf, mAndV, mOrV, mNotV, mNeg, mCons, mNil, mTup, mLst, newL, mCall, mFn, arity, g1, g2, gLen, gInt, gAbs, gMax2, gMin2, gIx, seqOf, lsqOf, lstOf, Res.bind, ofO, gAdd_ok, gSub_ok, gEq_int, gNe_int, gLt_int, gLe_int, gGt_int, gGe_int, gEq_bl, gNe_bl, gEq_str, gNe_str, mIsi, mIsiT, tyD, kitL, kitTab, atI_c0, atI_c1, atI_c2, atI_c3, atI_c4, sForR1, int1, int2, mMeth, mMake, mFld, sFldM, gIs, gIsNot, isNon_t, sRaise, gList, newLO, a.eo, al, lkl, e]
theorem plant_is (a : LandAt h s l p v w O) (k : Srt w) {x : Pl} (hx : x ∈ w.ps) : f_land_plant [.hdl h, .str x.n] O = .ok (plantD x) O := by
  have e := val_nm (n := Pl.n) (g := plantD) k.pnd hx
  have al := a.ep
  generalize dicS Pl.n plantD w.ps = z at *
  simp [f_land_plant, b_land_plant, mDIn, mDGet, dctOf, keyD, runF, sSeq, sIf, sNext, sDrop, sRet, sRetN, sAsg, ofRes, ofB, bName, bNil, bCons, bTup, bLst, bSubL, mTest, mOp, mVar, mC, mChain, mAnd, mOr, mNot, mIf, mAndV, mOrV, mNotV, mNeg, mCons, mNil, mTup, mLst, newL, mCall, mFn, arity, g1, g2, gLen, gInt, gAbs, gMax2, gMin2, gIx, seqOf, lsqOf, lstOf, Res.bind, ofO, gAdd_ok, gSub_ok, gEq_int, gNe_int, gLt_int, gLe_int, gGt_int, gGe_int, gEq_bl, gNe_bl, gEq_str, gNe_str, mIsi, mIsiT, tyD, kitL, kitTab, atI_c0, atI_c1, atI_c2, atI_c3, atI_c4, sForR1, int1, int2, mMeth, mMake, mFld, sFldM, gIs, gIsNot, isNon_t, sRaise, gList, newLO, a.eo, al, lkp, e]
theorem mem_alone {x : Pl} {ps : List Pl} (nd : (ps.map (·.n)).Nodup) (hx : x ∈ ps) : x.n ∈ (ps.filter (·.alone)).map (·.n) ↔ x.alone = true := by
  constructor
  · intro hm
    obtain ⟨y, hy, e⟩ := List.mem_map.mp hm
    obtain ⟨hy1, hy2⟩ := List.mem_filter.mp hy
    have h1 := find_nm nd hx
    have h2 := find_nm nd hy1
    rw [e] at h2
    rw [h1] at h2
    cases h2
    exact hy2
  · intro ha
    exact List.mem_map.mpr ⟨x, List.mem_filter.mpr ⟨hx, ha⟩, rfl⟩
end
/-! ### the moment -/
abbrev momO (h : Nat) (st lit cl rn : List Str) (r : Nat) : Ob := .ins "Moment" [("_land", .hdl h), ("_names", .lst (st.map .str)), ("_lit", .lst (lit.map .str)), ("_closed", .lst (cl.map .str)), ("_running", .lst (rn.map .str)), ("_root", .hdl r)]
theorem mk1 {a b c d e f : D} : List.lookup ("_land" : Str) [(("_land" : Str), a), (("_names" : Str), b), (("_lit" : Str), c), (("_closed" : Str), d), (("_running" : Str), e), (("_root" : Str), f)] = some a := rfl
theorem mk2 {a b c d e f : D} : List.lookup ("_names" : Str) [(("_land" : Str), a), (("_names" : Str), b), (("_lit" : Str), c), (("_closed" : Str), d), (("_running" : Str), e), (("_root" : Str), f)] = some b := rfl
theorem mk3 {a b c d e f : D} : List.lookup ("_lit" : Str) [(("_land" : Str), a), (("_names" : Str), b), (("_lit" : Str), c), (("_closed" : Str), d), (("_running" : Str), e), (("_root" : Str), f)] = some c := rfl
theorem mk4 {a b c d e f : D} : List.lookup ("_closed" : Str) [(("_land" : Str), a), (("_names" : Str), b), (("_lit" : Str), c), (("_closed" : Str), d), (("_running" : Str), e), (("_root" : Str), f)] = some d := rfl
theorem mk6 {a b c d e f : D} : List.lookup ("_root" : Str) [(("_land" : Str), a), (("_names" : Str), b), (("_lit" : Str), c), (("_closed" : Str), d), (("_running" : Str), e), (("_root" : Str), f)] = some f := rfl
/-- a dict of roots -/
def RootIs (kvs : List (Key × D)) (R : Str → Option Str) : Prop := ∀ x, valD kvs (.inr x) = (R x).map D.str
theorem RootIs.put {kvs : List (Key × D)} {R : Str → Option Str} {x f : Str} (h : RootIs kvs R) : RootIs (putKD kvs (.inr x) (.str f)) (fun z => if z = x then some f else R z) := fun z => by
  rw [val_put]
  by_cases c : z = x
  · subst c; rw [if_pos rfl]; simp
  · rw [if_neg (fun q => c (Sum.inr.inj q)), h z]; simp [c]
/-- how many are not marked -/
def unm (lit : List Str) (R : Str → Option Str) : Nat := (lit.filter fun x => (R x).isNone).length
theorem filter_less {α : Type} {p q : α → Bool} (hpq : ∀ z, q z = true → p z = true) {y : α} (h1 : p y = true) (h2 : q y = false) : ∀ {xs : List α}, y ∈ xs → (xs.filter q).length + 1 ≤ (xs.filter p).length
  | [], h => by cases h
  | x :: xs, h => by
    have mono : ∀ xs : List α, (xs.filter q).length ≤ (xs.filter p).length := fun xs => by
      induction xs with
      | nil => simp
      | cons x xs ih =>
        rw [List.filter_cons, List.filter_cons]
        cases c : q x
        · cases p x
          · simpa using ih
          · simp; omega
        · rw [hpq x c]; simpa using ih
    rw [List.filter_cons, List.filter_cons]
    rcases List.mem_cons.mp h with h | h
    · subst h
      have := mono xs
      simp [h1, h2]; omega
    · have ih := filter_less hpq h1 h2 h
      cases c : q x
      · cases p x
        · simpa using ih
        · simp; omega
      · rw [hpq x c]; simp; omega
theorem unm_add {lit : List Str} {R : Str → Option Str} {x f : Str} (hx : x ∈ lit) (h : R x = none) : unm lit (fun z => if z = x then some f else R z) + 1 ≤ unm lit R := by
  refine filter_less (p := fun z => (R z).isNone) (fun z hz => ?_) (y := x) (by simp [h]) (by simp) hx
  by_cases c : z = x
  · simp [c] at hz
  · simpa [c] using hz
/-- the neighbours of each lit station, in lists of the store -/
structure NearAt (nd n0 : Nat) (L : List Str) (hs : Str → Nat) (adj : Str → List Str) (O : Store) : Prop where
  d : ∃ kvs, O[nd]? = some (.dct kvs) ∧ kvs.length ≤ L.length ∧ ∀ x, valD kvs (.inr x) = if x ∈ L then some (.hdl (hs x)) else none
  a : ∀ x ∈ L, O[hs x]? = some (.lst ((adj x).map .str))
  inj : ∀ x ∈ L, ∀ y ∈ L, hs x = hs y → x = y
  lo : ∀ x ∈ L, n0 ≤ hs x ∧ hs x ≠ nd
theorem NearAt.fz {nd n0 : Nat} {L : List Str} {hs : Str → Nat} {adj : Str → List Str} {O O' : Store} (k : NearAt nd n0 L hs adj O) (e : ∀ i x, O[i]? = some x → n0 ≤ i → O'[i]? = some x) (h : n0 ≤ nd) : NearAt nd n0 L hs adj O' := by
  obtain ⟨⟨kvs, d1, d2, d3⟩, a, i, lo⟩ := k
  exact ⟨⟨kvs, e _ _ d1 h, d2, d3⟩, fun x hx => e _ _ (a x hx) (lo x hx).1, i, lo⟩
end DK.W
end
section
set_option Elab.async false
set_option linter.all false
set_option autoImplicit false
set_option maxRecDepth 100000
set_option maxHeartbeats 4000000
/-! DKMark: what a moment marks, in plain Lean. -/
namespace DK.W
open PySem L2 DK
/-- all but r stands as before -/
def Fx (r : Nat) (O O' : Store) : Prop := O.length ≤ O'.length ∧ ∀ j, j < O.length → j ≠ r → O'[j]? = O[j]?
theorem Fx.refl {r : Nat} (O : Store) : Fx r O O := ⟨Nat.le_refl _, fun _ _ _ => rfl⟩
theorem Fx.trans {r : Nat} {O O1 O2 : Store} (a : Fx r O O1) (b : Fx r O1 O2) : Fx r O O2 := ⟨Nat.le_trans a.1 b.1, fun j h hr => (b.2 j (Nat.lt_of_lt_of_le h a.1) hr).trans (a.2 j h hr)⟩
theorem Fx.at {r j : Nat} {O O' : Store} {x : Ob} (f : Fx r O O') (hr : j ≠ r) (h : O[j]? = some x) : O'[j]? = some x := (f.2 j (List.getElem?_eq_some_iff.mp h).1 hr).trans h
theorem Fz.fx {r : Nat} {O O' : Store} (f : Fz O O') : Fx r O O' := ⟨f.1, fun j h _ => f.2 j h⟩
theorem fx_set {r : Nat} {O : Store} {q : Ob} : Fx r O (O.set r q) := ⟨by rw [List.length_set]; exact Nat.le_refl _, fun j h hr => List.getElem?_set_ne (fun z => hr z.symm)⟩
theorem fx_setNew {r n : Nat} {O O' : Store} {q : Ob} (f : Fx r O O') (h : O.length ≤ n) : Fx r O (O'.set n q) := ⟨by rw [List.length_set]; exact f.1, fun j hj hr => by rw [List.getElem?_set_ne (by omega)]; exact f.2 j hj hr⟩
theorem LandAt.fx {h s l p v r : Nat} {w : Wd} {O O' : Store} (a : LandAt h s l p v w O) (f : Fx r O O') (hr : r ≠ h ∧ r ≠ s ∧ r ≠ l ∧ r ≠ p ∧ r ≠ v) : LandAt h s l p v w O' :=
  ⟨f.at (Ne.symm hr.1) a.eo, f.at (Ne.symm hr.2.1) a.es, f.at (Ne.symm hr.2.2.1) a.el, f.at (Ne.symm hr.2.2.2.1) a.ep, f.at (Ne.symm hr.2.2.2.2) a.ev, a.lp, a.sv, a.pos⟩
abbrev bN : SM := (sDPutM (mVar 1) (mVar 2) (mLst true mNil))
abbrev bC : SM := (sSeq (sAsg (mMeth "Land" "line" (arity 2 f_land_line) [] (mFld "Moment" "_land" (mVar 0)) (mCons (mVar 2) mNil)) (bTup 4 (bCons (bName 3) (bCons (bName 4) (bCons (bName 5) (bCons (bName 6) bNil))))))
    (sIf (mAnd (mTest (mDIn true (mVar 3) (mVar 1))) (mTest (mDIn true (mVar 4) (mVar 1)))) (sSeq (sDrop (mApp (mDGet (mVar 1) (mVar 3)) (mVar 4)))
    (sDrop (mApp (mDGet (mVar 1) (mVar 4)) (mVar 3)))) sNext))
abbrev bI : SM := (sIf (mTest (mDIn false (mVar 4) (mFld "Moment" "_root" (mVar 0)))) (sSeq (sDPutM (mFld "Moment" "_root" (mVar 0)) (mVar 4) (mVar 7))
    (sDrop (mApp (mVar 8) (mVar 4)))) sNext)
abbrev bW : SM := (sForL (mDGet (mVar 1) (mBL gPop (mVar 8) mNil)) (bName 4) bI)
abbrev bM : SM := (sIf (mTest (mDIn false (mVar 7) (mFld "Moment" "_root" (mVar 0)))) (sSeq (sDPutM (mFld "Moment" "_root" (mVar 0)) (mVar 7) (mVar 7))
    (sSeq (sAsg (mLst true (mCons (mVar 7) mNil)) (bName 8))
    (sWhile 10000 (mTru (mVar 8)) bW))) sNext)
/-! ### the empty lists -/
theorem near_add {nd n0 : Nat} {L : List Str} {hs : Str → Nat} {O : Store} {x : Str} {kvs : List (Key × D)} (k : NearAt nd n0 L hs (fun _ => []) O) (hx : x ∉ L) (e : O[nd]? = some (.dct kvs)) (h0 : n0 ≤ O.length) :
    NearAt nd n0 (L ++ [x]) (fun z => if z = x then O.length else hs z) (fun _ => []) ((O ++ [Ob.lst []]).set nd (.dct (putKD kvs (.inr x) (.hdl O.length)))) := by
  obtain ⟨⟨kvs', d1, d2, d3⟩, a, i, lo⟩ := k
  rw [e] at d1
  cases d1
  have ln := (List.getElem?_eq_some_iff.mp e).1
  have hlt : ∀ y ∈ L, hs y < O.length := fun y hy => (List.getElem?_eq_some_iff.mp (a y hy)).1
  refine ⟨⟨_, List.getElem?_set_self (by rw [List.length_append]; omega), ?_, fun y => ?_⟩, fun y hy => ?_, fun y hy z hz e => ?_, fun y hy => ?_⟩
  · have := put_len (kvs := kvs) (k := .inr x) (d := .hdl O.length)
    rw [List.length_append, List.length_singleton]; omega
  · rw [val_put]
    by_cases c : y = x
    · subst c; simp
    · rw [if_neg (fun q => c (Sum.inr.inj q)), d3 y]
      simp [c]
  · by_cases c : y = x
    · subst c
      simp only [↓reduceIte]
      rw [List.getElem?_set_ne (by omega), List.getElem?_append_right (Nat.le_refl _)]
      simp
    · have hy : y ∈ L := by
        rcases List.mem_append.mp hy with hy | hy
        · exact hy
        · exact absurd (List.mem_singleton.mp hy) c
      simp only [if_neg c]
      rw [List.getElem?_set_ne (fun z => (lo y hy).2 z.symm), List.getElem?_append_left (hlt y hy)]
      exact a y hy
  · have mem : ∀ {y}, y ∈ L ++ [x] → y ≠ x → y ∈ L := fun hy c => by
      rcases List.mem_append.mp hy with hy | hy
      · exact hy
      · exact absurd (List.mem_singleton.mp hy) c
    by_cases c : y = x <;> by_cases c2 : z = x
    · rw [c, c2]
    · simp only [if_pos c, if_neg c2] at e
      have := hlt z (mem hz c2)
      omega
    · simp only [if_neg c, if_pos c2] at e
      have := hlt y (mem hy c)
      omega
    · simp only [if_neg c, if_neg c2] at e
      exact i y (mem hy c) z (mem hz c2) e
  · by_cases c : y = x
    · simp only [if_pos c]; omega
    · simp only [if_neg c]
      rcases List.mem_append.mp hy with hy | hy
      · exact lo y hy
      · exact absurd (List.mem_singleton.mp hy) c
/-! ### the neighbours -/
def edgL (xs : List Ln) (L : List Str) : List (Str × Str) := (xs.filter fun l => decide (l.a ∈ L) && decide (l.b ∈ L)).map fun l => (l.a, l.b)
theorem edgL_snoc {xs : List Ln} {L : List Str} {l : Ln} : edgL (xs ++ [l]) L = if l.a ∈ L ∧ l.b ∈ L then edgL xs L ++ [(l.a, l.b)] else edgL xs L := by
  unfold edgL
  rw [List.filter_append, List.map_append]
  by_cases c1 : l.a ∈ L <;> by_cases c2 : l.b ∈ L <;> simp [c1, c2]
def AdjIs (E : List (Str × Str)) (L : List Str) (adj : Str → List Str) : Prop := ∀ x ∈ L, ∀ y, y ∈ adj x ↔ ((x, y) ∈ E ∨ (y, x) ∈ E)
theorem AdjIs.add {E : List (Str × Str)} {L : List Str} {adj : Str → List Str} {a b : Str} (k : AdjIs E L adj) (ne : a ≠ b) : AdjIs (E ++ [(a, b)]) L (fun x => if x = b then adj x ++ [a] else if x = a then adj x ++ [b] else adj x) := fun x hx y => by
  have h := k x hx y
  by_cases c1 : x = b
  · subst c1
    have : ¬ x = a := fun z => ne z.symm
    simp only [↓reduceIte, List.mem_append, h, List.mem_singleton, Prod.mk.injEq]
    constructor
    · rintro ((q | q) | q)
      · exact .inl (.inl q)
      · exact .inr (.inl q)
      · exact .inr (.inr ⟨q, trivial⟩)
    · rintro ((q | q) | (q | q))
      · exact .inl (.inl q)
      · exact absurd q.1 this
      · exact .inl (.inr q)
      · exact .inr q.1
  · by_cases c2 : x = a
    · subst c2
      simp only [if_neg c1, ↓reduceIte, List.mem_append, h, List.mem_singleton, Prod.mk.injEq]
      constructor
      · rintro ((q | q) | q)
        · exact .inl (.inl q)
        · exact .inr (.inl q)
        · exact .inl (.inr ⟨trivial, q⟩)
      · rintro ((q | q) | (q | q))
        · exact .inl (.inl q)
        · exact .inr q.2
        · exact .inl (.inr q)
        · exact absurd q.2 c1
    · simp only [if_neg c1, if_neg c2, h, List.mem_append, List.mem_singleton, Prod.mk.injEq]
      constructor
      · rintro (q | q)
        · exact .inl (.inl q)
        · exact .inr (.inl q)
      · rintro ((q | q) | (q | q))
        · exact .inl q
        · exact absurd q.1 c2
        · exact .inr q
        · exact absurd q.2 c1
theorem near_set {nd n0 : Nat} {L : List Str} {hs : Str → Nat} {adj : Str → List Str} {O : Store} {a : Str} {zs : List Str} (k : NearAt nd n0 L hs adj O) (ha : a ∈ L) : NearAt nd n0 L hs (fun x => if x = a then zs else adj x) (O.set (hs a) (.lst (zs.map .str))) := by
  obtain ⟨⟨kvs, d1, d2, d3⟩, q, i, lo⟩ := k
  refine ⟨⟨kvs, by rw [List.getElem?_set_ne (lo a ha).2]; exact d1, d2, d3⟩, fun x hx => ?_, i, lo⟩
  by_cases c : x = a
  · subst c
    simp only [↓reduceIte]
    exact List.getElem?_set_self (List.getElem?_eq_some_iff.mp (q x hx)).1
  · simp only [if_neg c]
    rw [List.getElem?_set_ne (fun z => c (i x hx a ha z.symm))]
    exact q x hx
/-! ### the loops -/
section
variable {h s l p v m r : Nat} {w : Wd} {O : Store} {lit cl rn : List Str}
/-- what the walk stands on -/
structure MarkC (h s l p v m r : Nat) (w : Wd) (lit cl rn : List Str) (O : Store) : Prop where
  a : LandAt h s l p v w O
  eo : O[m]? = some (momO h w.st lit cl rn r)
  rl : r ≠ h ∧ r ≠ s ∧ r ≠ l ∧ r ≠ p ∧ r ≠ v
  rm : r ≠ m
  rlt : r < O.length
theorem MarkC.fx {O' : Store} (c : MarkC h s l p v m r w lit cl rn O) (f : Fx r O O') : MarkC h s l p v m r w lit cl rn O' := ⟨c.a.fx f c.rl, f.at (Ne.symm c.rm) c.eo, c.rl, c.rm, Nat.lt_of_lt_of_le c.rlt f.1⟩
theorem loopB (c : MarkC h s l p v m r w lit cl rn O) (nd : lit.Nodup) (l8 : lit.length < 60) : ∃ (y : Option D) (O' : Store) (hs : Str → Nat), sForL (mFld "Moment" "_lit" (mVar 0)) (bName 2) bN [some (.hdl m), some (.hdl O.length), none, none, none, none, none, none, none] (O ++ [.dct []]) = .next [some (.hdl m), some (.hdl O.length), y, none, none, none, none, none, none] O' ∧ NearAt O.length O.length lit hs (fun _ => []) O' ∧ Fz O O' := by
  obtain ⟨L', O', e, y, hL, hs, k, f⟩ := forL_keeps (m := mFld "Moment" "_lit" (mVar 0)) (b := bName 2) (body := bN) (L := [some (.hdl m), some (.hdl O.length), none, none, none, none, none, none, none]) (O := O ++ [.dct []]) (O1 := O ++ [.dct []]) (ds := lit.map .str)
    (I := fun i L O' => ∃ (y : Option D), L = [some (.hdl m), some (.hdl O.length), y, none, none, none, none, none, none] ∧ ∃ hs, NearAt O.length O.length (lit.take i) hs (fun _ => []) O' ∧ Fz O O')
    (by simp [runF, sSeq, sIf, sNext, sDrop, sRet, sRetN, sAsg, ofRes, ofB, bName, bNil, bCons, bTup, bLst, bSubL, mTest, mOp, mVar, mC, mChain, mAnd, mOr, mNot, mIf, mAndV, mOrV, mNotV, mNeg, mCons, mNil, mTup, mLst, newL, mCall, mFn, arity, g1, g2, gLen, gInt, gAbs, gMax2, gMin2, gIx, seqOf, lsqOf, lstOf, Res.bind, ofO, gAdd_ok, gSub_ok, gEq_int, gNe_int, gLt_int, gLe_int, gGt_int, gGe_int, gEq_bl, gNe_bl, gEq_str, gNe_str, mIsi, mIsiT, tyD, kitL, kitTab, atI_c0, atI_c1, atI_c2, atI_c3, atI_c4, sForR1, int1, int2, mMeth, mMake, mFld, sFldM, gIs, gIsNot, isNon_t, sRaise, gList, newLO, fz_app.at c.eo, mk3]) ⟨none, rfl, fun _ => 0, ⟨⟨[], by simp, by simp, fun x => by simp [valD]⟩, by simp, by simp, by simp⟩, fz_app⟩ fun i d L O1 hd ⟨y, hL, hs, k, f⟩ => by
      subst hL
      rw [List.getElem?_map] at hd
      obtain ⟨x, hx, rfl⟩ := Option.map_eq_some_iff.mp hd
      have hi := (List.getElem?_eq_some_iff.mp hx).1
      have hni : x ∉ lit.take i := nodup_mid (B := lit.drop (i + 1)) (by rw [← drop_get hx, List.take_append_drop]; exact nd)
      obtain ⟨kvs, d1, d2, d3⟩ := k.d
      have hlt := (List.getElem?_eq_some_iff.mp d1).1
      have kl : kvs.length ≤ 1000000 := by rw [List.length_take] at d2; omega
      refine ⟨_, (O1 ++ [Ob.lst []]).set O.length (.dct (putKD kvs (.inr x) (.hdl O1.length))), ?_, some (.str x), rfl, (fun z => if z = x then O1.length else hs z), ?_, fz_setNew (f.trans fz_app) (Nat.le_refl _)⟩
      · simp [turnOf, bN, sDPutM, dctOf, keyD, hdlN, runF, sSeq, sIf, sNext, sDrop, sRet, sRetN, sAsg, ofRes, ofB, bName, bNil, bCons, bTup, bLst, bSubL, mTest, mOp, mVar, mC, mChain, mAnd, mOr, mNot, mIf, mAndV, mOrV, mNotV, mNeg, mCons, mNil, mTup, mLst, newL, mCall, mFn, arity, g1, g2, gLen, gInt, gAbs, gMax2, gMin2, gIx, seqOf, lsqOf, lstOf, Res.bind, ofO, gAdd_ok, gSub_ok, gEq_int, gNe_int, gLt_int, gLe_int, gGt_int, gGe_int, gEq_bl, gNe_bl, gEq_str, gNe_str, mIsi, mIsiT, tyD, kitL, kitTab, atI_c0, atI_c1, atI_c2, atI_c3, atI_c4, sForR1, int1, int2, mMeth, mMake, mFld, sFldM, gIs, gIsNot, isNon_t, sRaise, gList, newLO, List.getElem?_append_left hlt, d1, kl]
      · rw [take_get hx]
        exact near_add k hni d1 (by omega)
  rw [List.length_map, List.take_length] at k
  exact ⟨y, O', hs, by rw [e, hL], k, f⟩
theorem loopC {nd : Nat} {y : Option D} {O1 : Store} {hs : Str → Nat} {cls : List Ln} (c : MarkC h s l p v m r w lit (cls.map (·.n)) rn O) (kw : Srt w) (hc : ∀ x ∈ cls, x ∈ w.ls) (cl8 : cls.length < 60) (k : NearAt nd O.length lit hs (fun _ => []) O1) (hn : O.length ≤ nd) (f : Fz O O1) :
    ∃ (y2 y3 y4 y5 y6 : Option D) (O' : Store) (adj : Str → List Str), sForL (mFld "Moment" "_closed" (mVar 0)) (bName 2) bC [some (.hdl m), some (.hdl nd), y, none, none, none, none, none, none] O1 = .next [some (.hdl m), some (.hdl nd), y2, y3, y4, y5, y6, none, none] O' ∧ NearAt nd O.length lit hs adj O' ∧ AdjIs (edgL cls lit) lit adj ∧ (∀ x, (adj x).length ≤ cls.length) ∧ Fz O O' := by
  obtain ⟨L', O', e, y2, y3, y4, y5, y6, hL, adj, k, ka, al, f⟩ := forL_keeps (m := mFld "Moment" "_closed" (mVar 0)) (b := bName 2) (body := bC) (L := [some (.hdl m), some (.hdl nd), y, none, none, none, none, none, none]) (O := O1) (O1 := O1) (ds := (cls.map (·.n)).map .str)
    (I := fun i L O' => ∃ (y2 y3 y4 y5 y6 : Option D), L = [some (.hdl m), some (.hdl nd), y2, y3, y4, y5, y6, none, none] ∧ ∃ adj, NearAt nd O.length lit hs adj O' ∧ AdjIs (edgL (cls.take i) lit) lit adj ∧ (∀ x, (adj x).length ≤ i) ∧ Fz O O')
    (by simp [runF, sSeq, sIf, sNext, sDrop, sRet, sRetN, sAsg, ofRes, ofB, bName, bNil, bCons, bTup, bLst, bSubL, mTest, mOp, mVar, mC, mChain, mAnd, mOr, mNot, mIf, mAndV, mOrV, mNotV, mNeg, mCons, mNil, mTup, mLst, newL, mCall, mFn, arity, g1, g2, gLen, gInt, gAbs, gMax2, gMin2, gIx, seqOf, lsqOf, lstOf, Res.bind, ofO, gAdd_ok, gSub_ok, gEq_int, gNe_int, gLt_int, gLe_int, gGt_int, gGe_int, gEq_bl, gNe_bl, gEq_str, gNe_str, mIsi, mIsiT, tyD, kitL, kitTab, atI_c0, atI_c1, atI_c2, atI_c3, atI_c4, sForR1, int1, int2, mMeth, mMake, mFld, sFldM, gIs, gIsNot, isNon_t, sRaise, gList, newLO, f.at c.eo, mk4]) ⟨y, none, none, none, none, rfl, fun _ => [], k, fun x _ y => by simp [edgL], fun _ => Nat.le_refl _, f⟩ fun i d L O2 hd ⟨y2, y3, y4, y5, y6, hL, adj, k, ka, al, f⟩ => by
      subst hL
      rw [List.map_map, List.getElem?_map] at hd
      obtain ⟨x, hx, rfl⟩ := Option.map_eq_some_iff.mp hd
      simp only [Function.comp_apply]
      have hi := (List.getElem?_eq_some_iff.mp hx).1
      have hxm := hc x (List.mem_of_getElem? hx)
      have c2 := c.fx (Fz.fx f)
      have el := line_is c2.a kw hxm
      obtain ⟨kvs, d1, d2, d3⟩ := k.d
      have lk : List.lookup ("line" : Str) [(("_stations" : Str), D.hdl s), (("_lines" : Str), .hdl l), (("_plants" : Str), .hdl p), (("_selves" : Str), .hdl v)] = none := rfl
      rw [take_get hx, edgL_snoc]
      have va := d3 x.a
      have vb := d3 x.b
      by_cases ca : x.a ∈ lit
      · rw [if_pos ca] at va
        by_cases cb : x.b ∈ lit
        · rw [if_pos cb] at vb
          rw [if_pos ⟨ca, cb⟩]
          have ne : x.a ≠ x.b := ltSV_ne (kw.lok x hxm).ab
          have k1 := near_set (zs := adj x.a ++ [x.b]) k ca
          have k2 := near_set (a := x.b) (zs := adj x.b ++ [x.a]) k1 cb
          have g1 := k.a x.a ca
          have g2 : (O2.set (hs x.a) (.lst ((adj x.a ++ [x.b]).map D.str)))[hs x.b]? = some (.lst ((adj x.b).map .str)) := by
            have := k1.a x.b cb
            simpa [Ne.symm ne] using this
          have g3 : (O2.set (hs x.a) (.lst ((adj x.a ++ [x.b]).map D.str)))[nd]? = some (.dct kvs) := by
            rw [List.getElem?_set_ne (k.lo x.a ca).2]; exact d1
          have n1 : (adj x.a).length ≤ 1000000 := by have := al x.a; omega
          have n2 : (adj x.b).length ≤ 1000000 := by have := al x.b; omega
          have e1 : (adj x.a ++ [x.b]).map D.str = (adj x.a).map D.str ++ [.str x.b] := by simp
          have e2 : (adj x.b ++ [x.a]).map D.str = (adj x.b).map D.str ++ [.str x.a] := by simp
          refine ⟨_, (O2.set (hs x.a) (.lst ((adj x.a ++ [x.b]).map D.str))).set (hs x.b) (.lst ((adj x.b ++ [x.a]).map D.str)), ?_, some (.str x.n), some (.str x.a), some (.str x.b), some (.int x.need), some (.int x.min), rfl, _, k2, ?_, fun z => ?_, fz_setNew (fz_setNew f (k.lo x.a ca).1) (k.lo x.b cb).1⟩
          · rw [e1] at g2 g3 ⊢
            rw [e2]
            simp [turnOf, bC, mDIn, mDGet, dctOf, keyD, mApp, runF, sSeq, sIf, sNext, sDrop, sRet, sRetN, sAsg, ofRes, ofB, bName, bNil, bCons, bTup, bLst, bSubL, mTest, mOp, mVar, mC, mChain, mAnd, mOr, mNot, mIf, mAndV, mOrV, mNotV, mNeg, mCons, mNil, mTup, mLst, newL, mCall, mFn, arity, g1, g2, gLen, gInt, gAbs, gMax2, gMin2, gIx, seqOf, lsqOf, lstOf, Res.bind, ofO, gAdd_ok, gSub_ok, gEq_int, gNe_int, gLt_int, gLe_int, gGt_int, gGe_int, gEq_bl, gNe_bl, gEq_str, gNe_str, mIsi, mIsiT, tyD, kitL, kitTab, atI_c0, atI_c1, atI_c2, atI_c3, atI_c4, sForR1, int1, int2, mMeth, mMake, mFld, sFldM, gIs, gIsNot, isNon_t, sRaise, gList, newLO, c2.eo, c2.a.eo, mk1, lk, el, d1, va, vb, g1, g2, g3, n1, n2]
          · refine fun z hz y => ?_
            have e3 : (if z = x.b then adj x.b ++ [x.a] else if z = x.a then adj x.a ++ [x.b] else adj z) = (if z = x.b then adj z ++ [x.a] else if z = x.a then adj z ++ [x.b] else adj z) := by
              by_cases q1 : z = x.b
              · rw [if_pos q1, if_pos q1, q1]
              · rw [if_neg q1, if_neg q1]
                by_cases q2 : z = x.a
                · rw [if_pos q2, if_pos q2, q2]
                · rw [if_neg q2, if_neg q2]
            show (y ∈ (if z = x.b then adj x.b ++ [x.a] else if z = x.a then adj x.a ++ [x.b] else adj z)) ↔ _
            rw [e3]
            exact ka.add ne z hz y
          · show (if z = x.b then adj x.b ++ [x.a] else if z = x.a then adj x.a ++ [x.b] else adj z).length ≤ i + 1
            have := al z; have := al x.a; have := al x.b
            split
            · rw [List.length_append, List.length_singleton]; omega
            · split
              · rw [List.length_append, List.length_singleton]; omega
              · omega
        · rw [if_neg cb] at vb
          rw [if_neg (fun z => cb z.2)]
          refine ⟨_, O2, ?_, some (.str x.n), some (.str x.a), some (.str x.b), some (.int x.need), some (.int x.min), rfl, adj, k, ka, fun z => Nat.le_succ_of_le (al z), f⟩
          simp [turnOf, bC, mDIn, mDGet, dctOf, keyD, mApp, runF, sSeq, sIf, sNext, sDrop, sRet, sRetN, sAsg, ofRes, ofB, bName, bNil, bCons, bTup, bLst, bSubL, mTest, mOp, mVar, mC, mChain, mAnd, mOr, mNot, mIf, mAndV, mOrV, mNotV, mNeg, mCons, mNil, mTup, mLst, newL, mCall, mFn, arity, g1, g2, gLen, gInt, gAbs, gMax2, gMin2, gIx, seqOf, lsqOf, lstOf, Res.bind, ofO, gAdd_ok, gSub_ok, gEq_int, gNe_int, gLt_int, gLe_int, gGt_int, gGe_int, gEq_bl, gNe_bl, gEq_str, gNe_str, mIsi, mIsiT, tyD, kitL, kitTab, atI_c0, atI_c1, atI_c2, atI_c3, atI_c4, sForR1, int1, int2, mMeth, mMake, mFld, sFldM, gIs, gIsNot, isNon_t, sRaise, gList, newLO, c2.eo, c2.a.eo, mk1, lk, el, d1, va, vb]
      · rw [if_neg ca] at va
        rw [if_neg (fun z => ca z.1)]
        refine ⟨_, O2, ?_, some (.str x.n), some (.str x.a), some (.str x.b), some (.int x.need), some (.int x.min), rfl, adj, k, ka, fun z => Nat.le_succ_of_le (al z), f⟩
        simp [turnOf, bC, mDIn, mDGet, dctOf, keyD, mApp, runF, sSeq, sIf, sNext, sDrop, sRet, sRetN, sAsg, ofRes, ofB, bName, bNil, bCons, bTup, bLst, bSubL, mTest, mOp, mVar, mC, mChain, mAnd, mOr, mNot, mIf, mAndV, mOrV, mNotV, mNeg, mCons, mNil, mTup, mLst, newL, mCall, mFn, arity, g1, g2, gLen, gInt, gAbs, gMax2, gMin2, gIx, seqOf, lsqOf, lstOf, Res.bind, ofO, gAdd_ok, gSub_ok, gEq_int, gNe_int, gLt_int, gLe_int, gGt_int, gGe_int, gEq_bl, gNe_bl, gEq_str, gNe_str, mIsi, mIsiT, tyD, kitL, kitTab, atI_c0, atI_c1, atI_c2, atI_c3, atI_c4, sForR1, int1, int2, mMeth, mMake, mFld, sFldM, gIs, gIsNot, isNon_t, sRaise, gList, newLO, c2.eo, c2.a.eo, mk1, lk, el, d1, va, vb]
  rw [List.length_map, List.length_map, List.take_length] at ka
  rw [List.length_map, List.length_map] at al
  exact ⟨y2, y3, y4, y5, y6, O', adj, by rw [e, hL], k, ka, al, f⟩
/-- the walk's state: the dict of roots at r -/
structure RtAt (r : Nat) (lit : List Str) (R : Str → Option Str) (O : Store) : Prop where
  d : ∃ kvs, O[r]? = some (.dct kvs) ∧ RootIs kvs R ∧ kvs.length + unm lit R ≤ lit.length
theorem NearAt.fx {nd n0 : Nat} {hs : Str → Nat} {adj : Str → List Str} {O O' : Store} (k : NearAt nd n0 lit hs adj O) (f : Fx r O O') (hr : r < n0) (h : n0 ≤ nd) : NearAt nd n0 lit hs adj O' := k.fz (fun i x e hi => f.at (by omega) e) h
theorem NearAt.put {nd n0 wh : Nat} {hs : Str → Nat} {adj : Str → List Str} {O : Store} {q : Ob} (k : NearAt nd n0 lit hs adj O) (h1 : wh ≠ nd) (h2 : ∀ x ∈ lit, hs x ≠ wh) : NearAt nd n0 lit hs adj (O.set wh q) := by
  obtain ⟨⟨kvs, d1, d2, d3⟩, a, i, lo⟩ := k
  exact ⟨⟨kvs, by rw [List.getElem?_set_ne h1]; exact d1, d2, d3⟩, fun x hx => by rw [List.getElem?_set_ne (Ne.symm (h2 x hx))]; exact a x hx, i, lo⟩
theorem loopI {nd wh : Nat} {hs : Str → Nat} {adj : Str → List Str} {i : Nat} {first x : Str} {wait : List Str} {R : Str → Option Str} {O2 : Store} {y2 y3 y4 y5 y6 : Option D}
    (c : MarkC h s l p v m r w lit cl rn O) (kw : Srt w) (hl : lit.length < 60) {E : List (Str × Str)} (sy : ∀ a b, (a, b) ∈ E → a ∈ lit ∧ b ∈ lit) (ka : AdjIs E lit adj) (hx : x ∈ lit)
    (k : NearAt nd O.length lit hs adj O2) (hn : O.length ≤ nd) (f : Fx r O O2) (hw : O2[wh]? = some (.lst (wait.map .str))) (hw1 : O.length ≤ wh) (hw2 : wh ≠ nd) (hw3 : ∀ x ∈ lit, hs x ≠ wh) (rt : RtAt r lit R O2) (lk : Look E lit i first x (adj x) wait R) (wl : wait.length + unm lit R ≤ 100) :
    ∃ (z4 : Option D) (O' : Store) (wait' : List Str) (R' : Str → Option Str), loopH (turnOf (bName 4) bI) (hs x) (adj x).length 0 [some (.hdl m), some (.hdl nd), y2, y3, y4, y5, y6, some (.str first), some (.hdl wh)] O2 = .next [some (.hdl m), some (.hdl nd), y2, y3, z4, y5, y6, some (.str first), some (.hdl wh)] O' ∧
      NearAt nd O.length lit hs adj O' ∧ Fx r O O' ∧ O'[wh]? = some (.lst (wait'.map .str)) ∧ RtAt r lit R' O' ∧ Walk E lit i first wait' R' ∧ wait'.length + unm lit R' ≤ wait.length + unm lit R := by
  obtain ⟨L', O', e, y4', wait', R', hL, k', f', hw', rt', lk', wl'⟩ := loopH_keeps (turn := turnOf (bName 4) bI) (n := hs x) (xs := (adj x).map .str)
    (I := fun j L O' => ∃ (y4 : Option D) (wait' : List Str) (R' : Str → Option Str), L = [some (.hdl m), some (.hdl nd), y2, y3, y4, y5, y6, some (.str first), some (.hdl wh)] ∧ NearAt nd O.length lit hs adj O' ∧ Fx r O O' ∧ O'[wh]? = some (.lst (wait'.map .str)) ∧ RtAt r lit R' O' ∧ Look E lit i first x ((adj x).drop j) wait' R' ∧ wait'.length + unm lit R' ≤ wait.length + unm lit R)
    (fun j L O' ⟨_, _, _, _, k, _⟩ => k.a x hx) ((adj x).map D.str).length 0 [some (.hdl m), some (.hdl nd), y2, y3, y4, y5, y6, some (.str first), some (.hdl wh)] O2 (by omega)
    ⟨y4, wait, R, rfl, k, f, hw, rt, by simpa using lk, Nat.le_refl _⟩ fun j d L O3 hd ⟨y4, wait', R', hL, k, f, hw, ⟨kvs, d1, d2, d3⟩, lk, wl'⟩ => by
      subst hL
      rw [List.getElem?_map] at hd
      obtain ⟨y, hy, rfl⟩ := Option.map_eq_some_iff.mp hd
      have hym := List.mem_of_getElem? hy
      have hE := (ka x hx y).mp hym
      rw [drop_get hy] at lk
      have c2 := c.fx f
      have vy := d2 y
      cases hR : R' y with
      | some f2 =>
        rw [hR] at vy
        refine ⟨_, O3, ?_, some (.str y), wait', R', rfl, k, f, hw, ⟨kvs, d1, d2, d3⟩, lk.skip hE hR, wl'⟩
        simp [turnOf, bI, mDIn, dctOf, keyD, runF, sSeq, sIf, sNext, sDrop, sRet, sRetN, sAsg, ofRes, ofB, bName, bNil, bCons, bTup, bLst, bSubL, mTest, mOp, mVar, mC, mChain, mAnd, mOr, mNot, mIf, mAndV, mOrV, mNotV, mNeg, mCons, mNil, mTup, mLst, newL, mCall, mFn, arity, g1, g2, gLen, gInt, gAbs, gMax2, gMin2, gIx, seqOf, lsqOf, lstOf, Res.bind, ofO, gAdd_ok, gSub_ok, gEq_int, gNe_int, gLt_int, gLe_int, gGt_int, gGe_int, gEq_bl, gNe_bl, gEq_str, gNe_str, mIsi, mIsiT, tyD, kitL, kitTab, atI_c0, atI_c1, atI_c2, atI_c3, atI_c4, sForR1, int1, int2, mMeth, mMake, mFld, sFldM, gIs, gIsNot, isNon_t, sRaise, gList, newLO, c2.eo, mk6, d1, vy]
      | none =>
        rw [hR] at vy
        have hyl : y ∈ lit := by
          rcases hE with q | q
          · exact (sy _ _ q).2
          · exact (sy _ _ q).1
        have u1 := unm_add (f := first) hyl hR
        have rw1 : r ≠ wh := by have := c.rlt; omega
        have s1 : (O3.set r (.dct (putKD kvs (.inr y) (.str first))))[wh]? = some (.lst (wait'.map .str)) := by rw [List.getElem?_set_ne rw1]; exact hw
        have kl : kvs.length ≤ 1000000 := by omega
        have wl2 : wait'.length ≤ 1000000 := by omega
        have e1 : (wait' ++ [y]).map D.str = wait'.map D.str ++ [.str y] := by simp
        refine ⟨_, (O3.set r (.dct (putKD kvs (.inr y) (.str first)))).set wh (.lst ((wait' ++ [y]).map .str)), ?_, some (.str y), wait' ++ [y], fun z => if z = y then some first else R' z, rfl, (k.fx fx_set c.rlt hn).put hw2 hw3, fx_setNew (f.trans fx_set) hw1, List.getElem?_set_self (List.getElem?_eq_some_iff.mp s1).1, ⟨_, ?_, d2.put, ?_⟩, lk.add sy hE hR, ?_⟩
        · rw [e1]
          simp [turnOf, bI, mDIn, dctOf, keyD, hdlN, sDPutM, mApp, runF, sSeq, sIf, sNext, sDrop, sRet, sRetN, sAsg, ofRes, ofB, bName, bNil, bCons, bTup, bLst, bSubL, mTest, mOp, mVar, mC, mChain, mAnd, mOr, mNot, mIf, mAndV, mOrV, mNotV, mNeg, mCons, mNil, mTup, mLst, newL, mCall, mFn, arity, g1, g2, gLen, gInt, gAbs, gMax2, gMin2, gIx, seqOf, lsqOf, lstOf, Res.bind, ofO, gAdd_ok, gSub_ok, gEq_int, gNe_int, gLt_int, gLe_int, gGt_int, gGe_int, gEq_bl, gNe_bl, gEq_str, gNe_str, mIsi, mIsiT, tyD, kitL, kitTab, atI_c0, atI_c1, atI_c2, atI_c3, atI_c4, sForR1, int1, int2, mMeth, mMake, mFld, sFldM, gIs, gIsNot, isNon_t, sRaise, gList, newLO, c2.eo, mk6, d1, vy, s1, kl, wl2]
        · rw [List.getElem?_set_ne (Ne.symm rw1), List.getElem?_set_self (List.getElem?_eq_some_iff.mp d1).1]
        · have := put_len (kvs := kvs) (k := .inr y) (d := .str first)
          omega
        · rw [List.length_append, List.length_singleton]; omega
  rw [List.length_map] at e lk'
  rw [List.drop_length] at lk'
  exact ⟨y4', O', wait', R', by rw [e, hL], k', f', hw', rt', lk'.fin, wl'⟩
theorem loopWh {nd wh : Nat} {hs : Str → Nat} {adj : Str → List Str} {i : Nat} {first : Str} {y2 y3 y5 y6 : Option D}
    (c : MarkC h s l p v m r w lit cl rn O) (kw : Srt w) (hl : lit.length < 60) {E : List (Str × Str)} (sy : ∀ a b, (a, b) ∈ E → a ∈ lit ∧ b ∈ lit) (ka : AdjIs E lit adj)
    (hn : O.length ≤ nd) (hw1 : O.length ≤ wh) (hw2 : wh ≠ nd) (hw3 : ∀ x ∈ lit, hs x ≠ wh) : ∀ (n : Nat) (wait : List Str) (R : Str → Option Str) (O2 : Store) (y4 : Option D),
    NearAt nd O.length lit hs adj O2 → Fx r O O2 → O2[wh]? = some (.lst (wait.map .str)) → RtAt r lit R O2 → Walk E lit i first wait R → wait.length + unm lit R < n → wait.length + unm lit R ≤ 100 →
    ∃ (z4 : Option D) (O' : Store) (R' : Str → Option Str), loopW (mTru (mVar 8)) bW n [some (.hdl m), some (.hdl nd), y2, y3, y4, y5, y6, some (.str first), some (.hdl wh)] O2 = .next [some (.hdl m), some (.hdl nd), y2, y3, z4, y5, y6, some (.str first), some (.hdl wh)] O' ∧
      NearAt nd O.length lit hs adj O' ∧ Fx r O O' ∧ RtAt r lit R' O' ∧ Walk E lit i first [] R'
  | 0, wait, R, O2, y4, k, f, hw, rt, wk, hlt, h100 => by omega
  | n + 1, wait, R, O2, y4, k, f, hw, rt, wk, hlt, h100 => by
    rw [loopW_succ]
    by_cases c0 : wait = []
    · subst c0
      refine ⟨y4, O2, R, ?_, k, f, rt, wk⟩
      simp [mTru, mVar, truD, Res.bind, ofRes, hw]
    · obtain ⟨w', x, rfl⟩ : ∃ w' x, wait = w' ++ [x] := ⟨wait.dropLast, wait.getLast c0, (List.dropLast_concat_getLast c0).symm⟩
      have hxf := wk.w x (by simp)
      have hxl := wk.m.dom x first hxf
      obtain ⟨kvs, d1, d2, d3⟩ := k.d
      have vx := d3 x
      rw [if_pos hxl] at vx
      have hwl := (List.getElem?_eq_some_iff.mp hw).1
      have k2 : NearAt nd O.length lit hs adj (O2.set wh (.lst (w'.map .str))) := k.put hw2 hw3
      have f2 : Fx r O (O2.set wh (.lst (w'.map .str))) := fx_setNew f hw1
      have hw' : (O2.set wh (.lst (w'.map D.str)))[wh]? = some (.lst (w'.map .str)) := List.getElem?_set_self hwl
      have rw1 : r ≠ wh := by have := c.rlt; omega
      have rt2 : RtAt r lit R (O2.set wh (.lst (w'.map .str))) := by
        obtain ⟨q, q1, q2⟩ := rt.d
        exact ⟨q, by rw [List.getElem?_set_ne (Ne.symm rw1)]; exact q1, q2⟩
      have lk : Look E lit i first x (adj x) w' R := wk.pop fun y hy => (ka x hxl y).mpr hy
      rw [List.length_append, List.length_singleton] at hlt h100
      obtain ⟨z4, O3, wait3, R3, e3, k3, f3, hw3', rt3, wk3, wl3⟩ := loopI (y2 := y2) (y3 := y3) (y4 := y4) (y5 := y5) (y6 := y6) c kw hl sy ka hxl k2 hn f2 hw' hw1 hw2 hw3 rt2 lk (by omega)
      obtain ⟨z5, O4, R4, e4, k4, f4, rt4, wk4⟩ := loopWh c kw hl sy ka hn hw1 hw2 hw3 n wait3 R3 O3 z4 k3 f3 hw3' rt3 wk3 (by omega) (by omega)
      refine ⟨z5, O4, R4, ?_, k4, f4, rt4, wk4⟩
      have et : mTru (mVar 8) [some (.hdl m), some (.hdl nd), y2, y3, y4, y5, y6, some (.str first), some (.hdl wh)] O2 = .ok true O2 := by
        simp [mTru, mVar, truD, Res.bind, hw]
      have ep : mBL gPop (mVar 8) mNil [some (.hdl m), some (.hdl nd), y2, y3, y4, y5, y6, some (.str first), some (.hdl wh)] O2 = .ok (.str x) (O2.set wh (.lst (w'.map .str))) := by
        simp [mBL, gPop, mVar, mNil, Res.bind, lstOf, hw, ofO, List.dropLast_append_of_ne_nil]
      have dn : (O2.set wh (.lst (w'.map D.str)))[nd]? = some (.dct kvs) := by rw [List.getElem?_set_ne hw2]; exact d1
      have eb : bW [some (.hdl m), some (.hdl nd), y2, y3, y4, y5, y6, some (.str first), some (.hdl wh)] O2 = .next [some (.hdl m), some (.hdl nd), y2, y3, z4, y5, y6, some (.str first), some (.hdl wh)] O3 := by
        have eg : mDGet (mVar 1) (mBL gPop (mVar 8) mNil) [some (.hdl m), some (.hdl nd), y2, y3, y4, y5, y6, some (.str first), some (.hdl wh)] O2 = .ok (.hdl (hs x)) (O2.set wh (.lst (w'.map .str))) := by
          show (mVar 1 _ O2).bind _ = _
          simp only [mVar, List.getElem?_cons_succ, List.getElem?_cons_zero, Res.bind, ep, dctOf, dn, keyD, vx]
        show ofRes _ (mDGet (mVar 1) (mBL gPop (mVar 8) mNil) _ O2) _ = _
        rw [eg]
        simp only [ofRes, k2.a x hxl, List.length_map]
        exact e3
      rw [et]
      simp only [ofRes, if_true]
      rw [eb]
      exact e4
/-- the walks from one lit station after the other -/
theorem loopM {nd : Nat} {hs : Str → Nat} {adj : Str → List Str} {y2 y3 y4 y5 y6 : Option D} {O1 : Store}
    (c : MarkC h s l p v m r w lit cl rn O) (kw : Srt w) (hl : lit.length < 60) {E : List (Str × Str)} (sy : ∀ a b, (a, b) ∈ E → a ∈ lit ∧ b ∈ lit) (ka : AdjIs E lit adj)
    (hn : O.length ≤ nd) (k : NearAt nd O.length lit hs adj O1) (f : Fx r O O1) (hr : O1[r]? = some (.dct [])) :
    ∃ (L' : Loc) (O' : Store) (R' : Str → Option Str), sForL (mFld "Moment" "_lit" (mVar 0)) (bName 7) bM [some (.hdl m), some (.hdl nd), y2, y3, y4, y5, y6, none, none] O1 = .next L' O' ∧ Fx r O O' ∧ RtAt r lit R' O' ∧ Marks E lit lit.length [] R' ∧ Roots lit lit.length R' := by
  have un0 : unm lit (fun _ => none) = lit.length := by simp [unm]
  obtain ⟨L', O', e, y4', y7', y8', R', hL, k', f', rt', mk', ro'⟩ := forL_keeps (m := mFld "Moment" "_lit" (mVar 0)) (b := bName 7) (body := bM) (L := [some (.hdl m), some (.hdl nd), y2, y3, y4, y5, y6, none, none]) (O := O1) (O1 := O1) (ds := lit.map .str)
    (I := fun i L O' => ∃ (y4 y7 y8 : Option D) (R : Str → Option Str), L = [some (.hdl m), some (.hdl nd), y2, y3, y4, y5, y6, y7, y8] ∧ NearAt nd O.length lit hs adj O' ∧ Fx r O O' ∧ RtAt r lit R O' ∧ Marks E lit i [] R ∧ Roots lit i R)
    (by simp [runF, sSeq, sIf, sNext, sDrop, sRet, sRetN, sAsg, ofRes, ofB, bName, bNil, bCons, bTup, bLst, bSubL, mTest, mOp, mVar, mC, mChain, mAnd, mOr, mNot, mIf, mAndV, mOrV, mNotV, mNeg, mCons, mNil, mTup, mLst, newL, mCall, mFn, arity, g1, g2, gLen, gInt, gAbs, gMax2, gMin2, gIx, seqOf, lsqOf, lstOf, Res.bind, ofO, gAdd_ok, gSub_ok, gEq_int, gNe_int, gLt_int, gLe_int, gGt_int, gGe_int, gEq_bl, gNe_bl, gEq_str, gNe_str, mIsi, mIsiT, tyD, kitL, kitTab, atI_c0, atI_c1, atI_c2, atI_c3, atI_c4, sForR1, int1, int2, mMeth, mMake, mFld, sFldM, gIs, gIsNot, isNon_t, sRaise, gList, newLO, f.at (Ne.symm c.rm) c.eo, mk3]) ⟨y4, none, none, fun _ => none, rfl, k, f, ⟨[], hr, fun x => by simp [valD], by rw [un0]; simp⟩, .start, fun x f h => by cases h⟩ fun i d L O2 hd ⟨y4, y7, y8, R, hL, k, f, rt, mk, ro⟩ => by
      subst hL
      rw [List.getElem?_map] at hd
      obtain ⟨x, hx, rfl⟩ := Option.map_eq_some_iff.mp hd
      have hxm := List.mem_of_getElem? hx
      have c2 := c.fx f
      obtain ⟨kvs, d1, d2, d3⟩ := rt.d
      have vx := d2 x
      cases hR : R x with
      | some f2 =>
        rw [hR] at vx
        obtain ⟨j, j1, j2⟩ := ro x f2 hR
        refine ⟨_, O2, ?_, y4, some (.str x), y8, R, rfl, k, f, rt, mk.skip hx hR ⟨j, by omega, j2⟩, fun z g q => by obtain ⟨j, j1, j2⟩ := ro z g q; exact ⟨j, by omega, j2⟩⟩
        simp [turnOf, bM, mDIn, dctOf, keyD, runF, sSeq, sIf, sNext, sDrop, sRet, sRetN, sAsg, ofRes, ofB, bName, bNil, bCons, bTup, bLst, bSubL, mTest, mOp, mVar, mC, mChain, mAnd, mOr, mNot, mIf, mAndV, mOrV, mNotV, mNeg, mCons, mNil, mTup, mLst, newL, mCall, mFn, arity, g1, g2, gLen, gInt, gAbs, gMax2, gMin2, gIx, seqOf, lsqOf, lstOf, Res.bind, ofO, gAdd_ok, gSub_ok, gEq_int, gNe_int, gLt_int, gLe_int, gGt_int, gGe_int, gEq_bl, gNe_bl, gEq_str, gNe_str, mIsi, mIsiT, tyD, kitL, kitTab, atI_c0, atI_c1, atI_c2, atI_c3, atI_c4, sForR1, int1, int2, mMeth, mMake, mFld, sFldM, gIs, gIsNot, isNon_t, sRaise, gList, newLO, c2.eo, mk6, d1, vx]
      | none =>
        rw [hR] at vx
        have u1 := unm_add (f := x) hxm hR
        have kl : kvs.length ≤ 1000000 := by omega
        obtain ⟨O3, hO3⟩ : ∃ O3, O2.set r (.dct (putKD kvs (.inr x) (.str x))) = O3 := ⟨_, rfl⟩
        have fO3 : Fx r O O3 := hO3 ▸ f.trans fx_set
        have kO3 : NearAt nd O.length lit hs adj O3 := hO3 ▸ k.fx fx_set c.rlt hn
        have l32 : O3.length = O2.length := by rw [← hO3, List.length_set]
        have rO3 : RtAt r lit (fun z => if z = x then some x else R z) (O3 ++ [.lst [.str x]]) := ⟨putKD kvs (.inr x) (.str x), by
          rw [List.getElem?_append_left (by rw [l32]; exact (List.getElem?_eq_some_iff.mp d1).1), ← hO3, List.getElem?_set_self (List.getElem?_eq_some_iff.mp d1).1], d2.put, by
          have := put_len (kvs := kvs) (k := .inr x) (d := .str x)
          omega⟩
        obtain ⟨nk, nk1, _⟩ := kO3.d
        have ndl := (List.getElem?_eq_some_iff.mp nk1).1
        obtain ⟨z4, O4, R4, e4, k4, f4, rt4, wk4⟩ := loopWh (nd := nd) (wh := O3.length) (y2 := y2) (y3 := y3) (y5 := y5) (y6 := y6) c kw hl sy ka hn fO3.1 (by omega) (fun z hz => by have := (List.getElem?_eq_some_iff.mp (kO3.a z hz)).1; omega) 10000 [x] (fun z => if z = x then some x else R z) (O3 ++ [.lst [.str x]]) y4
          (kO3.fz (fun i q e _ => fz_app.at e) hn) (fO3.trans (Fz.fx fz_app)) (by simp) rO3 (Walk.begin sy mk ro hx hR) (by simp; omega) (by simp; omega)
        refine ⟨_, O4, ?_, z4, some (.str x), some (.hdl O3.length), R4, rfl, k4, f4, rt4, wk4.m, wk4.r⟩
        have ew : sWhile 10000 (mTru (mVar 8)) bW [some (.hdl m), some (.hdl nd), y2, y3, y4, y5, y6, some (.str x), some (.hdl O3.length)] (O3 ++ [.lst [.str x]]) = .next [some (.hdl m), some (.hdl nd), y2, y3, z4, y5, y6, some (.str x), some (.hdl O3.length)] O4 := e4
        simp only [bM]
        generalize sWhile 10000 (mTru (mVar 8)) bW = sw at ew ⊢
        simp [turnOf, mDIn, dctOf, keyD, hdlN, sDPutM, runF, sSeq, sIf, sNext, sDrop, sRet, sRetN, sAsg, ofRes, ofB, bName, bNil, bCons, bTup, bLst, bSubL, mTest, mOp, mVar, mC, mChain, mAnd, mOr, mNot, mIf, mAndV, mOrV, mNotV, mNeg, mCons, mNil, mTup, mLst, newL, mCall, mFn, arity, g1, g2, gLen, gInt, gAbs, gMax2, gMin2, gIx, seqOf, lsqOf, lstOf, Res.bind, ofO, gAdd_ok, gSub_ok, gEq_int, gNe_int, gLt_int, gLe_int, gGt_int, gGe_int, gEq_bl, gNe_bl, gEq_str, gNe_str, mIsi, mIsiT, tyD, kitL, kitTab, atI_c0, atI_c1, atI_c2, atI_c3, atI_c4, sForR1, int1, int2, mMeth, mMake, mFld, sFldM, gIs, gIsNot, isNon_t, sRaise, gList, newLO, c2.eo, mk6, d1, vx, kl, hO3, ew]
  rw [List.length_map] at mk' ro'
  exact ⟨L', O', R', e, f', rt', mk', ro'⟩
theorem edgL_in {xs : List Ln} {L : List Str} {a b : Str} (h : (a, b) ∈ edgL xs L) : a ∈ L ∧ b ∈ L := by
  obtain ⟨x, hx, e⟩ := List.mem_map.mp h
  cases e
  have := (List.mem_filter.mp hx).2
  simpa using this
theorem mark_ok {cls : List Ln} (c : MarkC h s l p v m r w lit (cls.map (·.n)) rn O) (kw : Srt w) (hc : ∀ x ∈ cls, x ∈ w.ls) (cl8 : cls.length < 60) (nl : lit.Nodup) (hl : lit.length < 60) (hr : O[r]? = some (.dct [])) :
    ∃ (O' : Store) (R' : Str → Option Str), f_moment_mark [.hdl m] O = .ok .non O' ∧ Fx r O O' ∧ RtAt r lit R' O' ∧ Marks (edgL cls lit) lit lit.length [] R' ∧ Roots lit lit.length R' := by
  obtain ⟨y, O1, hs, e1, k1, f1⟩ := loopB c nl hl
  obtain ⟨y2, y3, y4, y5, y6, O2, adj, e2, k2, ka2, al2, f2⟩ := loopC (y := y) c kw hc cl8 k1 (Nat.le_refl _) f1
  obtain ⟨L3, O3, R3, e3, f3, rt3, mk3, ro3⟩ := loopM (y2 := y2) (y3 := y3) (y4 := y4) (y5 := y5) (y6 := y6) c kw hl (fun a b => edgL_in) ka2 (Nat.le_refl _) k2 (Fz.fx f2) (f2.at hr)
  refine ⟨O3, R3, ?_, f3, rt3, mk3, ro3⟩
  simp only [f_moment_mark, b_moment_mark]
  generalize sForL (mFld "Moment" "_lit" (mVar 0)) (bName 2) bN = sA at e1 ⊢
  generalize sForL (mFld "Moment" "_closed" (mVar 0)) (bName 2) bC = sB at e2 ⊢
  generalize sForL (mFld "Moment" "_lit" (mVar 0)) (bName 7) bM = sC at e3 ⊢
  simp [mDNew, runF, sSeq, sAsg, bName, ofRes, ofB, e1, e2, e3]
end
/-! ### a moment is made -/
def inF (A : List Str) : D → Option D := fun d => match d with | .str x => if x ∈ A then some (.str x) else none | _ => none
theorem filterMap_in {A : List Str} : ∀ {xs : List Str}, (xs.map D.str).filterMap (inF A) = (xs.filter fun x => decide (x ∈ A)).map .str
  | [] => rfl
  | x :: xs => by
    rw [List.map_cons, List.filterMap_cons, List.filter_cons, filterMap_in]
    by_cases c : x ∈ A <;> simp [c, inF]
theorem lcIn {src : EM} {i j : Nat} {L : Loc} {O O1 : Store} {xs A : List Str} {dA : D} (hs : src L O = .ok (.lst (xs.map .str)) O1) (hx : xs.length ≤ 800000) (hi : i < L.length) (hj : L[j]? = some (some dA)) (ij : i ≠ j) (hA : seqOf O1 dA = some (A.map .str)) :
    mLcL false src [i] (bName i) (mTest (mOp gIn (mVar i) (mVar j))) (mVar i) L O = .ok (.lst ((xs.filter fun x => decide (x ∈ A)).map .str)) O1 := by
  rw [lcL_pure (f := inF A) hs rfl (by rw [List.length_map]; omega) fun d hd => ?_]
  · rw [filterMap_in]
  · obtain ⟨x, hx, rfl⟩ := List.mem_map.mp hd
    refine ⟨L.set i (some (.str x)), by simp [bName, wipeL], ?_⟩
    have g1 : (L.set i (some (.str x)))[i]? = some (some (.str x)) := List.getElem?_set_self hi
    have g2 : (L.set i (some (.str x)))[j]? = some (some dA) := by rw [List.getElem?_set_ne ij]; exact hj
    have e1 := in_strs (nm := x) hA
    by_cases c : x ∈ A
    · refine .inl ⟨.str x, ?_, ?_, by simp [c, inF]⟩
      · simp [mTest, mOp, mVar, g1, g2, Res.bind, ofO, e1, c]
      · simp [mVar, g1]
    · refine .inr ⟨?_, by simp [c, inF]⟩
      simp [mTest, mOp, mVar, g1, g2, Res.bind, ofO, e1, c]
/-- a moment at m, its roots at r -/
structure MomAt (m h r : Nat) (w : Wd) (lit : List Str) (cls : List Ln) (rns : List Pl) (R : Str → Option Str) (O : Store) : Prop where
  eo : O[m]? = some (momO h w.st lit (cls.map (·.n)) (rns.map (·.n)) r)
  rt : ∃ kvs, O[r]? = some (.dct kvs) ∧ RootIs kvs R
  mks : Marks (edgL cls lit) lit lit.length [] R
  ro : Roots lit lit.length R
theorem MomAt.fz {m h r : Nat} {w : Wd} {lit : List Str} {cls : List Ln} {rns : List Pl} {R : Str → Option Str} {O O' : Store} (k : MomAt m h r w lit cls rns R O) (f : Fz O O') : MomAt m h r w lit cls rns R O' :=
  ⟨f.at k.eo, by obtain ⟨q, q1, q2⟩ := k.rt; exact ⟨q, f.at q1, q2⟩, k.mks, k.ro⟩
def litOf (w : Wd) (A : List Str) : List Str := w.st.filter fun x => decide (x ∈ A)
def clsOf (w : Wd) (A : List Str) : List Ln := w.ls.filter fun x => decide (x.n ∈ A)
def rnsOf (w : Wd) (A : List Str) : List Pl := w.ps.filter fun x => decide (x.n ∈ A)
theorem filter_names {α : Type} {n : α → Str} {A : List Str} : ∀ {xs : List α}, (xs.map n).filter (fun x => decide (x ∈ A)) = (xs.filter fun x => decide (n x ∈ A)).map n
  | [] => rfl
  | x :: xs => by
    rw [List.map_cons, List.filter_cons, List.filter_cons, filter_names]
    by_cases c : n x ∈ A <;> simp [c]
theorem moment_ok {h s l p v : Nat} {w : Wd} {O : Store} {A B C : List Str} {dA dB dC : D} (a : LandAt h s l p v w O) (kw : Srt w) (hA : seqOf O dA = some (A.map .str)) (hB : seqOf O dB = some (B.map .str)) (hC : seqOf O dC = some (C.map .str))
    (sA : ∀ J, seqOf (O ++ J) dA = seqOf O dA) (sB : ∀ J, seqOf (O ++ J) dB = seqOf O dB) (sC : ∀ J, seqOf (O ++ J) dC = seqOf O dC) :
    ∃ (O' : Store) (R : Str → Option Str), f_moment_init [.hdl O.length, .hdl h, dA, dB, dC] (O ++ [.ins "Moment" []]) = .ok .non O' ∧ Fz O O' ∧ MomAt O.length h (O.length + 1) w (litOf w A) (clsOf w B) (rnsOf w C) R O' := by
  obtain ⟨n, hn⟩ : ∃ n, O.length = n := ⟨_, rfl⟩
  have lh := (List.getElem?_eq_some_iff.mp a.eo).1
  have ls := (List.getElem?_eq_some_iff.mp a.es).1
  have ll := (List.getElem?_eq_some_iff.mp a.el).1
  have lp := (List.getElem?_eq_some_iff.mp a.ep).1
  have lv := (List.getElem?_eq_some_iff.mp a.ev).1
  have hl60 : (litOf w A).length < 60 := Nat.lt_of_le_of_lt (List.length_filter_le ..) kw.s8
  have hc60 : (clsOf w B).length < 60 := Nat.lt_of_le_of_lt (List.length_filter_le ..) kw.l8
  have hnl : (litOf w A).Nodup := kw.snd.sublist List.filter_sublist
  obtain ⟨OM, hOM⟩ : ∃ OM, O ++ [momO h w.st (litOf w A) ((clsOf w B).map (·.n)) ((rnsOf w C).map (·.n)) (n + 1), .dct []] = OM := ⟨_, rfl⟩
  have g0 : OM[n]? = some (momO h w.st (litOf w A) ((clsOf w B).map (·.n)) ((rnsOf w C).map (·.n)) (n + 1)) := by rw [← hOM, List.getElem?_append_right (by omega)]; simp [hn]
  have g1 : OM[n + 1]? = some (.dct []) := by rw [← hOM, List.getElem?_append_right (by omega)]; simp [hn]
  have fM : Fz O OM := hOM ▸ fz_app
  have aM : LandAt h s l p v w OM := a.fr fM.fr
  obtain ⟨O', R, e, f, rt, mk, ro⟩ := mark_ok (m := n) (r := n + 1) (w := w) (lit := litOf w A) (cls := clsOf w B) (rn := (rnsOf w C).map (·.n)) (O := OM) ⟨aM, g0, by omega, by omega, (List.getElem?_eq_some_iff.mp g1).1⟩ kw (fun x hx => (List.mem_filter.mp hx).1) hc60 hnl hl60 g1
  refine ⟨O', R, ?_, ⟨Nat.le_trans fM.1 f.1, fun i hi => (f.2 i (Nat.lt_of_lt_of_le hi fM.1) (by omega)).trans (fM.2 i hi)⟩, f.at (by omega) (by rw [hn]; exact g0), ?_, mk, ro⟩
  · have st := fun J => stations_ok (O := O ++ J) (a.fr fz_app.fr) kw
    have li := fun J => lines_ok (O := O ++ J) (a.fr fz_app.fr) kw
    have pl := fun J => plants_ok (O := O ++ J) (a.fr fz_app.fr) kw
    have eo : ∀ J, (O ++ J)[h]? = some (landO s l p v) := fun J => by rw [List.getElem?_append_left lh]; exact a.eo
    have lk1 : List.lookup ("stations" : Str) [(("_stations" : Str), D.hdl s), (("_lines" : Str), .hdl l), (("_plants" : Str), .hdl p), (("_selves" : Str), .hdl v)] = none := rfl
    have lk2 : List.lookup ("lines" : Str) [(("_stations" : Str), D.hdl s), (("_lines" : Str), .hdl l), (("_plants" : Str), .hdl p), (("_selves" : Str), .hdl v)] = none := rfl
    have lk3 : List.lookup ("plants" : Str) [(("_stations" : Str), D.hdl s), (("_lines" : Str), .hdl l), (("_plants" : Str), .hdl p), (("_selves" : Str), .hdl v)] = none := rfl
    have lkm : ∀ {a b c d e f : D}, List.lookup ("_mark" : Str) [(("_land" : Str), a), (("_names" : Str), b), (("_lit" : Str), c), (("_closed" : Str), d), (("_running" : Str), e), (("_root" : Str), f)] = none := rfl
    have p1 : ∀ d : D, putD "_land" d [] = [(("_land" : Str), d)] := fun _ => rfl
    have p2 : ∀ a d : D, putD "_names" d [(("_land" : Str), a)] = [(("_land" : Str), a), (("_names" : Str), d)] := fun _ _ => rfl
    have p3 : ∀ a b d : D, putD "_lit" d [(("_land" : Str), a), (("_names" : Str), b)] = [(("_land" : Str), a), (("_names" : Str), b), (("_lit" : Str), d)] := fun _ _ _ => rfl
    have p4 : ∀ a b c d : D, putD "_closed" d [(("_land" : Str), a), (("_names" : Str), b), (("_lit" : Str), c)] = [(("_land" : Str), a), (("_names" : Str), b), (("_lit" : Str), c), (("_closed" : Str), d)] := fun _ _ _ _ => rfl
    have p5 : ∀ a b c e d : D, putD "_running" d [(("_land" : Str), a), (("_names" : Str), b), (("_lit" : Str), c), (("_closed" : Str), e)] = [(("_land" : Str), a), (("_names" : Str), b), (("_lit" : Str), c), (("_closed" : Str), e), (("_running" : Str), d)] := fun _ _ _ _ _ => rfl
    have p6 : ∀ a b c e f d : D, putD "_root" d [(("_land" : Str), a), (("_names" : Str), b), (("_lit" : Str), c), (("_closed" : Str), e), (("_running" : Str), f)] = [(("_land" : Str), a), (("_names" : Str), b), (("_lit" : Str), c), (("_closed" : Str), e), (("_running" : Str), f), (("_root" : Str), d)] := fun _ _ _ _ _ _ => rfl
    have s8 := kw.s8
    have l8 := kw.l8
    have p8 := kw.p8
    have q3 := lcIn (src := mFld "Moment" "_names" (mVar 0)) (i := 5) (j := 2) (L := [some (.hdl n), some (.hdl h), some dA, some dB, some dC, none]) (O := O ++ [.ins "Moment" [("_land", .hdl h), ("_names", .lst (w.st.map .str))]]) (O1 := O ++ [.ins "Moment" [("_land", .hdl h), ("_names", .lst (w.st.map .str))]]) (xs := w.st) (A := A)
      (by have : List.lookup ("_names" : Str) [(("_land" : Str), D.hdl h), (("_names" : Str), .lst (w.st.map .str))] = some (.lst (w.st.map .str)) := rfl
          simp [mFld, mVar, Res.bind, ← hn, this]) (by omega) (by simp) rfl (by decide) (by rw [sA]; exact hA)
    have q4 := fun J => lcIn (src := mMeth "Land" "lines" (arity 1 f_land_lines) [] (mVar 1) mNil) (i := 5) (j := 3) (L := [some (.hdl n), some (.hdl h), some dA, some dB, some dC, none]) (O := O ++ J) (O1 := O ++ J) (xs := w.ls.map (·.n)) (A := B)
      (by simp only [mMeth, mVar, Res.bind, List.getElem?_cons_succ, List.getElem?_cons_zero, eo J, lk2, mNil, arity, List.append_nil, List.length_cons, List.length_nil]; exact li J) (by rw [List.length_map]; omega) (by simp) rfl (by decide) (by rw [sB]; exact hB)
    have q5 := fun J => lcIn (src := mMeth "Land" "plants" (arity 1 f_land_plants) [] (mVar 1) mNil) (i := 5) (j := 4) (L := [some (.hdl n), some (.hdl h), some dA, some dB, some dC, none]) (O := O ++ J) (O1 := O ++ J) (xs := w.ps.map (·.n)) (A := C)
      (by simp only [mMeth, mVar, Res.bind, List.getElem?_cons_succ, List.getElem?_cons_zero, eo J, lk3, mNil, arity, List.append_nil, List.length_cons, List.length_nil]; exact pl J) (by rw [List.length_map]; omega) (by simp) rfl (by decide) (by rw [sC]; exact hC)
    simp only [filter_names] at q4 q5
    change _ = Res.ok (D.lst ((litOf w A).map D.str)) _ at q3
    change ∀ J, _ = Res.ok (D.lst (((clsOf w B).map (·.n)).map D.str)) _ at q4
    change ∀ J, _ = Res.ok (D.lst (((rnsOf w C).map (·.n)).map D.str)) _ at q5
    simp only [momO] at hOM g0
    generalize (litOf w A).map D.str = zA at *
    generalize ((clsOf w B).map (·.n)).map D.str = zB at *
    generalize ((rnsOf w C).map (·.n)).map D.str = zC at *
    generalize w.st.map D.str = zS at *
    simp only [f_moment_init, b_moment_init]
    generalize mLcL false (mFld "Moment" "_names" (mVar 0)) [5] (bName 5) (mTest (mOp gIn (mVar 5) (mVar 2))) (mVar 5) = cA at q3 ⊢
    generalize mLcL false (mMeth "Land" "lines" (arity 1 f_land_lines) [] (mVar 1) mNil) [5] (bName 5) (mTest (mOp gIn (mVar 5) (mVar 3))) (mVar 5) = cB at q4 ⊢
    generalize mLcL false (mMeth "Land" "plants" (arity 1 f_land_plants) [] (mVar 1) mNil) [5] (bName 5) (mTest (mOp gIn (mVar 5) (mVar 4))) (mVar 5) = cC at q5 ⊢
    subst hn
    simp [runF, sSeq, sIf, sNext, sDrop, sRet, sRetN, sAsg, ofRes, ofB, bName, bNil, bCons, bTup, bLst, bSubL, mTest, mOp, mVar, mC, mChain, mAnd, mOr, mNot, mIf, mAndV, mOrV, mNotV, mNeg, mCons, mNil, mTup, mLst, newL, mCall, mFn, arity, g1, g2, gLen, gInt, gAbs, gMax2, gMin2, gIx, seqOf, lsqOf, lstOf, Res.bind, ofO, gAdd_ok, gSub_ok, gEq_int, gNe_int, gLt_int, gLe_int, gGt_int, gGe_int, gEq_bl, gNe_bl, gEq_str, gNe_str, mIsi, mIsiT, tyD, kitL, kitTab, atI_c0, atI_c1, atI_c2, atI_c3, atI_c4, sForR1, int1, int2, mMeth, mMake, mFld, sFldM, gIs, gIsNot, isNon_t, sRaise, gList, newLO, mDNew, eo, lk1, lkm, st, q3, q4, q5, p1, p2, p3, p4, p5, p6, hOM, g0, e]
  · obtain ⟨q, q1, q2, _⟩ := rt.d
    exact ⟨q, by rw [hn]; exact q1, q2⟩
end DK.W
end
section
set_option Elab.async false
set_option linter.all false
set_option autoImplicit false
set_option maxRecDepth 100000
set_option maxHeartbeats 4000000
/-! DKPower: power, what can be closed and cranked; the laws' own roots and reasons. -/
namespace DK.W
open PySem L2 DK
/-- what the plants that hang together with x give -/
def powL (R : Str → Option Str) (ps : List Pl) (x : Str) : Int := (ps.map fun p => if R p.s = R x then p.gives else 0).sum
section
variable {h s l p v m r : Nat} {w : Wd} {O : Store} {lit : List Str} {cls : List Ln} {rns : List Pl} {R : Str → Option Str} {nm : Str}
theorem known_ok (k : MomAt m h r w lit cls rns R O) (hn : nm ∈ w.st) : f_moment_known [.hdl m, .str nm] O = .ok .non O := by
  have i1 : gNotIn O (.str nm) (.lst (w.st.map .str)) = some (.bl (!decide (nm ∈ w.st)), O) := notin_strs rfl
  simp [f_moment_known, b_moment_known, runF, sSeq, sIf, sNext, sDrop, sRet, sRetN, sAsg, ofRes, ofB, bName, bNil, bCons, bTup, bLst, bSubL, mTest, mOp, mVar, mC, mChain, mAnd, mOr, mNot, mIf, mAndV, mOrV, mNotV, mNeg, mCons, mNil, mTup, mLst, newL, mCall, mFn, arity, g1, g2, gLen, gInt, gAbs, gMax2, gMin2, gIx, seqOf, lsqOf, lstOf, Res.bind, ofO, gAdd_ok, gSub_ok, gEq_int, gNe_int, gLt_int, gLe_int, gGt_int, gGe_int, gEq_bl, gNe_bl, gEq_str, gNe_str, mIsi, mIsiT, tyD, kitL, kitTab, atI_c0, atI_c1, atI_c2, atI_c3, atI_c4, sForR1, int1, int2, mMeth, mMake, mFld, sFldM, gIs, gIsNot, isNon_t, sRaise, gList, newLO, k.eo, mk2, i1, hn]
/-- lit, and with so much power -/
def fedB (R : Str → Option Str) (ps : List Pl) (need : Int) (x : Str) : Bool := (R x).isSome && decide (need ≤ powL R ps x)
end
/-! ### the laws' own roots -/
theorem put_len_eq {kvs : List (Key × D)} {k : Key} {d : D} (h : (valD kvs k).isSome = true) : (putKD kvs k d).length = kvs.length := by
  unfold putKD
  rw [any_val, if_pos h, List.length_map]
def ThereAt (t : Nat) (T : List Str) (O : Store) : Prop := ∃ kvs, O[t]? = some (.dct kvs) ∧ ∀ x, (valD kvs (.inr x)).isSome = decide (x ∈ T)
theorem ThereAt.fz {t : Nat} {T : List Str} {O O' : Store} (k : ThereAt t T O) (f : Fz O O') : ThereAt t T O' := by
  obtain ⟨q, q1, q2⟩ := k
  exact ⟨q, f.at q1, q2⟩
/-- the roots that the laws reckon -/
abbrev RL (lit : List Str) (f : Str → Str) : Str → Option Str := fun x => if x ∈ lit then some (f x) else none
/-- a comprehension over texts that keeps some -/
def keepF (P : Str → Bool) : D → Option D := fun d => match d with | .str x => if P x = true then some (.str x) else none | _ => none
theorem filterMap_keep {P : Str → Bool} : ∀ {xs : List Str}, (xs.map D.str).filterMap (keepF P) = (xs.filter P).map .str
  | [] => rfl
  | x :: xs => by
    rw [List.map_cons, List.filterMap_cons, List.filter_cons, filterMap_keep]
    cases c : P x <;> simp [c, keepF]
theorem lcStr {src : EM} {i : Nat} {L : Loc} {O O1 : Store} {xs : List Str} {tt : TM} (P : Str → Bool) (hs : src L O = .ok (.lst (xs.map .str)) O1) (hx : xs.length ≤ 800000) (hi : i < L.length) (ht : ∀ x ∈ xs, tt (L.set i (some (.str x))) O1 = .ok (P x) O1) :
    mLcL false src [i] (bName i) tt (mVar i) L O = .ok (.lst ((xs.filter P).map .str)) O1 := by
  rw [lcL_pure (f := keepF P) hs rfl (by rw [List.length_map]; omega) fun d hd => ?_]
  · rw [filterMap_keep]
  · obtain ⟨x, hx, rfl⟩ := List.mem_map.mp hd
    refine ⟨L.set i (some (.str x)), by simp [bName, wipeL], ?_⟩
    have g1 : (L.set i (some (.str x)))[i]? = some (some (.str x)) := List.getElem?_set_self hi
    cases c : P x
    · exact .inr ⟨by rw [ht x hx, c], by simp [c, keepF]⟩
    · exact .inl ⟨.str x, by rw [ht x hx, c], by simp [mVar, g1], by simp [c, keepF]⟩
/-! ### both reckon alike -/
end DK.W
end
section
set_option Elab.async false
set_option linter.all false
set_option autoImplicit false
set_option maxRecDepth 100000
set_option maxHeartbeats 4000000
/-! mirrors that many laws share: printed by mirrors.py. -/
namespace DK.W
open PySem L2 DK
def b_state_arrive : SM := (sSeq (sAsg (mCall (g1 (gSortD false)) (mCons (mLcL false (mFld "State" "_coming" (mVar 0)) [8] (bName 8) (mTest (mOp gEq (mOp gIx (mVar 8) (mC (.int 0))) (mVar 1))) (mVar 8)) mNil)) (bName 2))
    (sSeq (sFldM "State" "_coming" (mVar 0) (mLcL true (mFld "State" "_coming" (mVar 0)) [8] (bName 8) (mTest (mOp gNe (mOp gIx (mVar 8) (mC (.int 0))) (mVar 1))) (mVar 8)))
    (sSeq (sForL (mVar 2) (bTup 3 (bCons (bName 3) (bCons (bName 4) (bCons (bName 5) bNil)))) (sSeq (sDPutM (mFld "State" "_came" (mVar 0)) (mVar 5) (mVar 1))
    (sSeq (sAsg (mIf (mTest (mOp gEq (mVar 4) (mC (.str "plant")))) (mLst false (mCons (mOp gIx (mMeth "Land" "plant" (arity 2 f_land_plant) [] (mFld "State" "_land" (mVar 0)) (mCons (mVar 5) mNil)) (mC (.int 0))) mNil)) (mCall (g1 (gList false)) (mCons (mSl false (mMeth "Land" "line" (arity 2 f_land_line) [] (mFld "State" "_land" (mVar 0)) (mCons (mVar 5) mNil)) oNone (oSome (mC (.int 2)))) mNil))) (bName 6))
    (sForL (mVar 6) (bName 7) (sIf (mTest (mDIn false (mVar 7) (mFld "State" "_came" (mVar 0)))) (sDPutM (mFld "State" "_came" (mVar 0)) (mVar 7) (mVar 1)) sNext)))))
    (sFldM "State" "_moment" (mVar 0) (mC .non)))))
def f_state_arrive : FM := runF 9 b_state_arrive
def b_state_go : SM := (sSeq (sDrop (mFn (arity 3 f_checked_number) [] (mCons (mVar 1) (mCons (mFld "State" "_now" (mVar 0)) (mCons (mOp gPow (mC (.int 10)) (mC (.int 12))) mNil)))))
    (sSeq (sWhile 1000 (mAnd (mTru (mFld "State" "_coming" (mVar 0))) (mTest (mOp gLe (mOp gIx (mCall (g1 gMinD) (mCons (mFld "State" "_coming" (mVar 0)) mNil)) (mC (.int 0))) (mVar 1)))) (sSeq (sFldM "State" "_now" (mVar 0) (mOp gIx (mCall (g1 gMinD) (mCons (mFld "State" "_coming" (mVar 0)) mNil)) (mC (.int 0))))
    (sDrop (mMeth "State" "_arrive" (arity 2 f_state_arrive) [] (mVar 0) (mCons (mFld "State" "_now" (mVar 0)) mNil)))))
    (sFldM "State" "_now" (mVar 0) (mVar 1))))
def f_state_go : FM := runF 2 b_state_go
def b_law_come : SM := (sSeq (sDPutM (mVar 1) (mOp gIx (mVar 2) (mC (.int 0))) (mVar 3))
    (sForL (mFn (arity 1 f_law_ends) [] (mCons (mVar 2) mNil)) (bName 4) (sIf (mTest (mDIn false (mVar 4) (mVar 1))) (sDPutM (mVar 1) (mVar 4) (mVar 3)) sNext)))
def f_law_come : FM := runF 5 b_law_come
def b_law_arrive : SM := (sSeq (sForL (mVar 2) (bTup 2 (bCons (bName 4) (bCons (bName 5) bNil))) (sIf (mTest (mOp gEq (mVar 4) (mVar 3))) (sDrop (mFn (arity 4 f_law_come) [] (mCons (mVar 0) (mCons (mVar 1) (mCons (mVar 5) (mCons (mVar 3) mNil)))))) sNext))
    (sRet (mLcL true (mVar 2) [6] (bName 6) (mTest (mOp gNe (mOp gIx (mVar 6) (mC (.int 0))) (mVar 3))) (mVar 6))))
def f_law_arrive : FM := runF 7 b_law_arrive
end DK.W
end
section
set_option Elab.async false
set_option linter.all false
set_option autoImplicit false
set_option maxRecDepth 100000
set_option maxHeartbeats 4000000
/-! DKEq: == of values that stand as they are, in plain Lean. -/
namespace DK
open PySem L2
mutual
def pdD : D → PyData
  | .non => .none
  | .bl b => .bool b
  | .int i => .int i
  | .str s => .str s
  | .lst xs => .list (pdAll xs)
  | .rol xs => .list (pdAll xs)
  | .tup xs => .tuple (pdAll xs)
  | .hdl _ => .none
def pdAll : List D → List PyData
  | [] => []
  | x :: xs => pdD x :: pdAll xs
end
mutual
/-- no object of the store within, at most n deep -/
def okV : D → Nat → Bool
  | .non, _ => true
  | .bl _, _ => true
  | .int _, _ => true
  | .str s, _ => PySem.PyData.strOk s
  | .lst xs, n => okAll xs (n - 1) && decide (0 < n)
  | .rol xs, n => okAll xs (n - 1) && decide (0 < n)
  | .tup xs, n => okAll xs (n - 1) && decide (0 < n)
  | .hdl _, _ => false
def okAll : List D → Nat → Bool
  | [], _ => true
  | x :: xs, n => okV x n && okAll xs n
end
mutual
theorem deep_pd (O : Store) : ∀ (d : D) (n : Nat), okV d n = true → deep O (n + 1) d = some (pdD d)
  | .non, n, _ => rfl
  | .bl _, n, _ => rfl
  | .int _, n, _ => rfl
  | .str _, n, _ => rfl
  | .hdl _, n, h => by cases h
  | .lst xs, n, h => by
    obtain ⟨h1, h2⟩ := Bool.and_eq_true_iff.mp (show (okAll xs (n - 1) && decide (0 < n)) = true from h)
    have h2 := of_decide_eq_true h2
    show (xs.mapM (deep O n)).map PyData.list = _
    have := deep_pdAll O xs (n - 1) h1
    rw [show n - 1 + 1 = n by omega] at this
    rw [this]
    rfl
  | .rol xs, n, h => by
    obtain ⟨h1, h2⟩ := Bool.and_eq_true_iff.mp (show (okAll xs (n - 1) && decide (0 < n)) = true from h)
    have h2 := of_decide_eq_true h2
    show (xs.mapM (deep O n)).map PyData.list = _
    have := deep_pdAll O xs (n - 1) h1
    rw [show n - 1 + 1 = n by omega] at this
    rw [this]
    rfl
  | .tup xs, n, h => by
    obtain ⟨h1, h2⟩ := Bool.and_eq_true_iff.mp (show (okAll xs (n - 1) && decide (0 < n)) = true from h)
    have h2 := of_decide_eq_true h2
    show (xs.mapM (deep O n)).map PyData.tuple = _
    have := deep_pdAll O xs (n - 1) h1
    rw [show n - 1 + 1 = n by omega] at this
    rw [this]
    rfl
theorem deep_pdAll (O : Store) : ∀ (ds : List D) (n : Nat), okAll ds n = true → ds.mapM (deep O (n + 1)) = some (pdAll ds)
  | [], n, _ => by simp [pdAll]
  | d :: ds, n, h => by
    obtain ⟨h1, h2⟩ := Bool.and_eq_true_iff.mp (show (okV d n && okAll ds n) = true from h)
    rw [mapM_cons, deep_pd O d n h1]
    show (ds.mapM (deep O (n + 1))).bind _ = _
    rw [deep_pdAll O ds n h2]
    rfl
end
mutual
theorem shape_pd : ∀ (d : D) (n : Nat), okV d n = true → (pdD d).canLay0 = true ∧ (pdD d).depth ≤ n
  | .non, n, _ => ⟨rfl, Nat.zero_le _⟩
  | .bl _, n, _ => ⟨rfl, Nat.zero_le _⟩
  | .int _, n, _ => ⟨rfl, Nat.zero_le _⟩
  | .str s, n, h => ⟨by simpa [pdD, PyData.canLay0, okV] using h, Nat.zero_le _⟩
  | .hdl _, n, h => by cases h
  | .lst xs, n, h => by
    obtain ⟨h1, h2⟩ := Bool.and_eq_true_iff.mp (show (okAll xs (n - 1) && decide (0 < n)) = true from h)
    have h2 := of_decide_eq_true h2
    obtain ⟨q1, q2⟩ := shape_pdAll xs (n - 1) h1
    exact ⟨by simpa [pdD, PyData.canLay0] using q1, by simp only [pdD, PyData.depth]; omega⟩
  | .rol xs, n, h => by
    obtain ⟨h1, h2⟩ := Bool.and_eq_true_iff.mp (show (okAll xs (n - 1) && decide (0 < n)) = true from h)
    have h2 := of_decide_eq_true h2
    obtain ⟨q1, q2⟩ := shape_pdAll xs (n - 1) h1
    exact ⟨by simpa [pdD, PyData.canLay0] using q1, by simp only [pdD, PyData.depth]; omega⟩
  | .tup xs, n, h => by
    obtain ⟨h1, h2⟩ := Bool.and_eq_true_iff.mp (show (okAll xs (n - 1) && decide (0 < n)) = true from h)
    have h2 := of_decide_eq_true h2
    obtain ⟨q1, q2⟩ := shape_pdAll xs (n - 1) h1
    exact ⟨by simpa [pdD, PyData.canLay0] using q1, by simp only [pdD, PyData.depth]; omega⟩
theorem shape_pdAll : ∀ (ds : List D) (n : Nat), okAll ds n = true → PyData.canLayAll0 (pdAll ds) = true ∧ PyData.depthAll (pdAll ds) ≤ n
  | [], n, _ => ⟨by simp [pdAll, PyData.canLayAll0], by simp [pdAll, PyData.depthAll]⟩
  | d :: ds, n, h => by
    obtain ⟨h1, h2⟩ := Bool.and_eq_true_iff.mp (show (okV d n && okAll ds n) = true from h)
    obtain ⟨p1, p2⟩ := shape_pd d n h1
    obtain ⟨q1, q2⟩ := shape_pdAll ds n h2
    exact ⟨by simp [pdAll, PyData.canLayAll0, p1, q1], by simp only [pdAll, PyData.depthAll]; omega⟩
end
theorem shaped_pd {d : D} (h : okV d 29 = true) : SeqAt.shaped (pdD d) = true := by
  obtain ⟨h1, h2⟩ := shape_pd d 29 h
  unfold SeqAt.shaped
  rw [h1]
  simp
  all_goals omega
theorem eqD_pd {O : Store} {x y : D} (hx : okV x 29 = true) (hy : okV y 29 = true) (hf : flatOf x = none ∨ flatOf y = none) : eqD O x y = some (PyData.eqv (pdD x) (pdD y)) := by
  have e : eqD O x y = match deep O 30 x, deep O 30 y with
    | some p, some q => if SeqAt.shaped p = true ∧ SeqAt.shaped q = true then some (PyData.eqv p q) else none
    | _, _ => none := by
    unfold eqD
    rcases hf with hf | hf
    · rw [hf]
      all_goals (cases flatOf y <;> rfl)
    · rw [hf]
      all_goals (cases flatOf x <;> rfl)
  rw [e, deep_pd O x 29 hx, deep_pd O y 29 hy]
  show (if SeqAt.shaped (pdD x) = true ∧ SeqAt.shaped (pdD y) = true then some (PyData.eqv (pdD x) (pdD y)) else none) = _
  rw [if_pos ⟨shaped_pd hx, shaped_pd hy⟩]
theorem eqv_self {x : D} (hx : okV x 29 = true) : PyData.eqv (pdD x) (pdD x) = true := PySem.SeqAt.eqv_refl_plain _ (PyData.plain_of_canLay0 _ (shape_pd x 29 hx).1)
/-- an object of the store reads as its list -/
theorem eqD_hl {O : Store} {n : Nat} {xs : List D} {y : D} (h : O[n]? = some (.lst xs)) : eqD O (.hdl n) y = eqD O (.lst xs) y := by
  have e : deep O 30 (.hdl n) = deep O 30 (.lst xs) := by
    show (match O[n]? with | some (.lst xs) => (xs.mapM (deep O 29)).map PyData.list | _ => none) = _
    rw [h]
    rfl
  unfold eqD
  rw [e]
  rfl
theorem eqD_hr {O : Store} {n : Nat} {xs : List D} {y : D} (h : O[n]? = some (.lst xs)) : eqD O y (.hdl n) = eqD O y (.lst xs) := by
  have e : deep O 30 (.hdl n) = deep O 30 (.lst xs) := by
    show (match O[n]? with | some (.lst xs) => (xs.mapM (deep O 29)).map PyData.list | _ => none) = _
    rw [h]
    rfl
  unfold eqD
  rw [e]
  cases flatOf y <;> rfl
theorem gEq_of {O : Store} {x y : D} {b : Bool} (h : eqD O x y = some b) : gEq O x y = some (.bl b, O) := by unfold gEq; rw [h]
theorem gNe_of {O : Store} {x y : D} {b : Bool} (h : eqD O x y = some b) : gNe O x y = some (.bl (!b), O) := by unfold gNe; rw [h]
theorem okAll_of {n : Nat} : ∀ {ds : List D}, (∀ d ∈ ds, okV d n = true) → okAll ds n = true
  | [], _ => rfl
  | d :: ds, h => by
    show (okV d n && okAll ds n) = true
    rw [h d (by simp), okAll_of fun x hx => h x (List.mem_cons_of_mem _ hx)]
    rfl
theorem okV_lst {n : Nat} {ds : List D} (h : ∀ d ∈ ds, okV d n = true) : okV (.lst ds) (n + 1) = true := by
  show (okAll ds (n + 1 - 1) && decide (0 < n + 1)) = true
  rw [Nat.add_sub_cancel, okAll_of h]
  simp
theorem okV_strs {n : Nat} {xs : List Str} (h : ∀ x ∈ xs, PyData.strOk x = true) : okV (.lst (xs.map .str)) (n + 1) = true := okV_lst fun d hd => by
  obtain ⟨x, hx, rfl⟩ := List.mem_map.mp hd
  exact h x hx
end DK
end
section
set_option Elab.async false
set_option linter.all false
set_option autoImplicit false
set_option maxRecDepth 100000
set_option maxHeartbeats 4000000
/-! DKStA: the state of a land: things, what is there, the moment, in plain Lean. -/
namespace DK.W
open PySem L2 DK
theorem lst_now {a b c d e f : D} : List.lookup ("now" : Str) [(("_land" : Str), a), (("_now" : Str), b), (("_came" : Str), c), (("_coming" : Str), d), (("_since" : Str), e), (("_moment" : Str), f)] = none := rfl
theorem lst_land {a b c d e f : D} : List.lookup ("land" : Str) [(("_land" : Str), a), (("_now" : Str), b), (("_came" : Str), c), (("_coming" : Str), d), (("_since" : Str), e), (("_moment" : Str), f)] = none := rfl
theorem lst_copy {a b c d e f : D} : List.lookup ("copy" : Str) [(("_land" : Str), a), (("_now" : Str), b), (("_came" : Str), c), (("_coming" : Str), d), (("_since" : Str), e), (("_moment" : Str), f)] = none := rfl
theorem lst_renew {a b c d e f : D} : List.lookup ("renew" : Str) [(("_land" : Str), a), (("_now" : Str), b), (("_came" : Str), c), (("_coming" : Str), d), (("_since" : Str), e), (("_moment" : Str), f)] = none := rfl
theorem lst_moved {a b c d e f : D} : List.lookup ("moved" : Str) [(("_land" : Str), a), (("_now" : Str), b), (("_came" : Str), c), (("_coming" : Str), d), (("_since" : Str), e), (("_moment" : Str), f)] = none := rfl
theorem lst_moment {a b c d e f : D} : List.lookup ("moment" : Str) [(("_land" : Str), a), (("_now" : Str), b), (("_came" : Str), c), (("_coming" : Str), d), (("_since" : Str), e), (("_moment" : Str), f)] = none := rfl
theorem lst_came {a b c d e f : D} : List.lookup ("came" : Str) [(("_land" : Str), a), (("_now" : Str), b), (("_came" : Str), c), (("_coming" : Str), d), (("_since" : Str), e), (("_moment" : Str), f)] = none := rfl
theorem lst_coming {a b c d e f : D} : List.lookup ("coming" : Str) [(("_land" : Str), a), (("_now" : Str), b), (("_came" : Str), c), (("_coming" : Str), d), (("_since" : Str), e), (("_moment" : Str), f)] = none := rfl
theorem lst_table {a b c d e f : D} : List.lookup ("table" : Str) [(("_land" : Str), a), (("_now" : Str), b), (("_came" : Str), c), (("_coming" : Str), d), (("_since" : Str), e), (("_moment" : Str), f)] = none := rfl
theorem lst_is_begun {a b c d e f : D} : List.lookup ("is_begun" : Str) [(("_land" : Str), a), (("_now" : Str), b), (("_came" : Str), c), (("_coming" : Str), d), (("_since" : Str), e), (("_moment" : Str), f)] = none := rfl
theorem lst_since {a b c d e f : D} : List.lookup ("since" : Str) [(("_land" : Str), a), (("_now" : Str), b), (("_came" : Str), c), (("_coming" : Str), d), (("_since" : Str), e), (("_moment" : Str), f)] = none := rfl
theorem lst_span {a b c d e f : D} : List.lookup ("span" : Str) [(("_land" : Str), a), (("_now" : Str), b), (("_came" : Str), c), (("_coming" : Str), d), (("_since" : Str), e), (("_moment" : Str), f)] = none := rfl
theorem lst_bar {a b c d e f : D} : List.lookup ("bar" : Str) [(("_land" : Str), a), (("_now" : Str), b), (("_came" : Str), c), (("_coming" : Str), d), (("_since" : Str), e), (("_moment" : Str), f)] = none := rfl
theorem lst_begin {a b c d e f : D} : List.lookup ("begin" : Str) [(("_land" : Str), a), (("_now" : Str), b), (("_came" : Str), c), (("_coming" : Str), d), (("_since" : Str), e), (("_moment" : Str), f)] = none := rfl
theorem lst_next_minute {a b c d e f : D} : List.lookup ("next_minute" : Str) [(("_land" : Str), a), (("_now" : Str), b), (("_came" : Str), c), (("_coming" : Str), d), (("_since" : Str), e), (("_moment" : Str), f)] = none := rfl
theorem lst_arrive {a b c d e f : D} : List.lookup ("_arrive" : Str) [(("_land" : Str), a), (("_now" : Str), b), (("_came" : Str), c), (("_coming" : Str), d), (("_since" : Str), e), (("_moment" : Str), f)] = none := rfl
theorem lst_go {a b c d e f : D} : List.lookup ("go" : Str) [(("_land" : Str), a), (("_now" : Str), b), (("_came" : Str), c), (("_coming" : Str), d), (("_since" : Str), e), (("_moment" : Str), f)] = none := rfl
theorem lst_finish {a b c d e f : D} : List.lookup ("finish" : Str) [(("_land" : Str), a), (("_now" : Str), b), (("_came" : Str), c), (("_coming" : Str), d), (("_since" : Str), e), (("_moment" : Str), f)] = none := rfl
theorem lsf_land {a b c d e f : D} : List.lookup ("_land" : Str) [(("_land" : Str), a), (("_now" : Str), b), (("_came" : Str), c), (("_coming" : Str), d), (("_since" : Str), e), (("_moment" : Str), f)] = some a := rfl
theorem lsf_now {a b c d e f : D} : List.lookup ("_now" : Str) [(("_land" : Str), a), (("_now" : Str), b), (("_came" : Str), c), (("_coming" : Str), d), (("_since" : Str), e), (("_moment" : Str), f)] = some b := rfl
theorem lsf_came {a b c d e f : D} : List.lookup ("_came" : Str) [(("_land" : Str), a), (("_now" : Str), b), (("_came" : Str), c), (("_coming" : Str), d), (("_since" : Str), e), (("_moment" : Str), f)] = some c := rfl
theorem lsf_coming {a b c d e f : D} : List.lookup ("_coming" : Str) [(("_land" : Str), a), (("_now" : Str), b), (("_came" : Str), c), (("_coming" : Str), d), (("_since" : Str), e), (("_moment" : Str), f)] = some d := rfl
theorem lsf_since {a b c d e f : D} : List.lookup ("_since" : Str) [(("_land" : Str), a), (("_now" : Str), b), (("_came" : Str), c), (("_coming" : Str), d), (("_since" : Str), e), (("_moment" : Str), f)] = some e := rfl
theorem lsf_moment {a b c d e f : D} : List.lookup ("_moment" : Str) [(("_land" : Str), a), (("_now" : Str), b), (("_came" : Str), c), (("_coming" : Str), d), (("_since" : Str), e), (("_moment" : Str), f)] = some f := rfl
theorem lsp_land {a b c d e f x : D} : putD "_land" x [(("_land" : Str), a), (("_now" : Str), b), (("_came" : Str), c), (("_coming" : Str), d), (("_since" : Str), e), (("_moment" : Str), f)] = [(("_land" : Str), x), (("_now" : Str), b), (("_came" : Str), c), (("_coming" : Str), d), (("_since" : Str), e), (("_moment" : Str), f)] := rfl
theorem lsp_now {a b c d e f x : D} : putD "_now" x [(("_land" : Str), a), (("_now" : Str), b), (("_came" : Str), c), (("_coming" : Str), d), (("_since" : Str), e), (("_moment" : Str), f)] = [(("_land" : Str), a), (("_now" : Str), x), (("_came" : Str), c), (("_coming" : Str), d), (("_since" : Str), e), (("_moment" : Str), f)] := rfl
theorem lsp_came {a b c d e f x : D} : putD "_came" x [(("_land" : Str), a), (("_now" : Str), b), (("_came" : Str), c), (("_coming" : Str), d), (("_since" : Str), e), (("_moment" : Str), f)] = [(("_land" : Str), a), (("_now" : Str), b), (("_came" : Str), x), (("_coming" : Str), d), (("_since" : Str), e), (("_moment" : Str), f)] := rfl
theorem lsp_coming {a b c d e f x : D} : putD "_coming" x [(("_land" : Str), a), (("_now" : Str), b), (("_came" : Str), c), (("_coming" : Str), d), (("_since" : Str), e), (("_moment" : Str), f)] = [(("_land" : Str), a), (("_now" : Str), b), (("_came" : Str), c), (("_coming" : Str), x), (("_since" : Str), e), (("_moment" : Str), f)] := rfl
theorem lsp_since {a b c d e f x : D} : putD "_since" x [(("_land" : Str), a), (("_now" : Str), b), (("_came" : Str), c), (("_coming" : Str), d), (("_since" : Str), e), (("_moment" : Str), f)] = [(("_land" : Str), a), (("_now" : Str), b), (("_came" : Str), c), (("_coming" : Str), d), (("_since" : Str), x), (("_moment" : Str), f)] := rfl
theorem lsp_moment {a b c d e f x : D} : putD "_moment" x [(("_land" : Str), a), (("_now" : Str), b), (("_came" : Str), c), (("_coming" : Str), d), (("_since" : Str), e), (("_moment" : Str), f)] = [(("_land" : Str), a), (("_now" : Str), b), (("_came" : Str), c), (("_coming" : Str), d), (("_since" : Str), e), (("_moment" : Str), x)] := rfl
section
variable {s l p v : D}
theorem lk_stations : List.lookup ("stations" : Str) [(("_stations" : Str), s), (("_lines" : Str), l), (("_plants" : Str), p), (("_selves" : Str), v)] = none := rfl
theorem lk_lines : List.lookup ("lines" : Str) [(("_stations" : Str), s), (("_lines" : Str), l), (("_plants" : Str), p), (("_selves" : Str), v)] = none := rfl
theorem lk_plants : List.lookup ("plants" : Str) [(("_stations" : Str), s), (("_lines" : Str), l), (("_plants" : Str), p), (("_selves" : Str), v)] = none := rfl
theorem lk_names : List.lookup ("names" : Str) [(("_stations" : Str), s), (("_lines" : Str), l), (("_plants" : Str), p), (("_selves" : Str), v)] = none := rfl
theorem lk_line : List.lookup ("line" : Str) [(("_stations" : Str), s), (("_lines" : Str), l), (("_plants" : Str), p), (("_selves" : Str), v)] = none := rfl
theorem lk_plant : List.lookup ("plant" : Str) [(("_stations" : Str), s), (("_lines" : Str), l), (("_plants" : Str), p), (("_selves" : Str), v)] = none := rfl
theorem lk_is_self : List.lookup ("is_self" : Str) [(("_stations" : Str), s), (("_lines" : Str), l), (("_plants" : Str), p), (("_selves" : Str), v)] = none := rfl
theorem lk_lines_at : List.lookup ("lines_at" : Str) [(("_stations" : Str), s), (("_lines" : Str), l), (("_plants" : Str), p), (("_selves" : Str), v)] = none := rfl
theorem lk_plants_at : List.lookup ("plants_at" : Str) [(("_stations" : Str), s), (("_lines" : Str), l), (("_plants" : Str), p), (("_selves" : Str), v)] = none := rfl
theorem lk_far_end : List.lookup ("far_end" : Str) [(("_stations" : Str), s), (("_lines" : Str), l), (("_plants" : Str), p), (("_selves" : Str), v)] = none := rfl
theorem lk_rows : List.lookup ("rows" : Str) [(("_stations" : Str), s), (("_lines" : Str), l), (("_plants" : Str), p), (("_selves" : Str), v)] = none := rfl
theorem lk_there : List.lookup ("_there" : Str) [(("_stations" : Str), s), (("_lines" : Str), l), (("_plants" : Str), p), (("_selves" : Str), v)] = none := rfl
theorem lk_copy : List.lookup ("copy" : Str) [(("_stations" : Str), s), (("_lines" : Str), l), (("_plants" : Str), p), (("_selves" : Str), v)] = none := rfl
theorem lk_remove_station : List.lookup ("remove_station" : Str) [(("_stations" : Str), s), (("_lines" : Str), l), (("_plants" : Str), p), (("_selves" : Str), v)] = none := rfl
theorem lk_remove_line : List.lookup ("remove_line" : Str) [(("_stations" : Str), s), (("_lines" : Str), l), (("_plants" : Str), p), (("_selves" : Str), v)] = none := rfl
theorem lk_remove_plant : List.lookup ("remove_plant" : Str) [(("_stations" : Str), s), (("_lines" : Str), l), (("_plants" : Str), p), (("_selves" : Str), v)] = none := rfl
theorem lk_add_station : List.lookup ("add_station" : Str) [(("_stations" : Str), s), (("_lines" : Str), l), (("_plants" : Str), p), (("_selves" : Str), v)] = none := rfl
theorem lk_add_line : List.lookup ("add_line" : Str) [(("_stations" : Str), s), (("_lines" : Str), l), (("_plants" : Str), p), (("_selves" : Str), v)] = none := rfl
theorem lk_add_self : List.lookup ("add_self" : Str) [(("_stations" : Str), s), (("_lines" : Str), l), (("_plants" : Str), p), (("_selves" : Str), v)] = none := rfl
theorem lk_add_plant : List.lookup ("add_plant" : Str) [(("_stations" : Str), s), (("_lines" : Str), l), (("_plants" : Str), p), (("_selves" : Str), v)] = none := rfl
theorem lk_free : List.lookup ("_free" : Str) [(("_stations" : Str), s), (("_lines" : Str), l), (("_plants" : Str), p), (("_selves" : Str), v)] = none := rfl
theorem lk_room : List.lookup ("_room" : Str) [(("_stations" : Str), s), (("_lines" : Str), l), (("_plants" : Str), p), (("_selves" : Str), v)] = none := rfl
theorem lk_kind : List.lookup ("kind" : Str) [(("_stations" : Str), s), (("_lines" : Str), l), (("_plants" : Str), p), (("_selves" : Str), v)] = none := rfl
end
/-! ### things -/
inductive Th where
  | ln (x : Ln)
  | pl (x : Pl)
def Th.n : Th → Str
  | .ln x => x.n
  | .pl x => x.n
def Th.kd : Th → Str
  | .ln _ => "line"
  | .pl _ => "plant"
def Th.enc : Th → D
  | .ln x => encL x
  | .pl x => encP x
def Th.ends : Th → List Str
  | .ln x => [x.a, x.b]
  | .pl x => [x.s]
def Th.In (w : Wd) : Th → Prop
  | .ln x => x ∈ w.ls
  | .pl x => x ∈ w.ps
abbrev Deed := Int × Th
abbrev rowP (r : Deed) : D := .tup [.int r.1, .str r.2.kd, .str r.2.n]
abbrev rowL (r : Deed) : D := .tup [.int r.1, r.2.enc]
def nmsW (w : Wd) : List Str := (w.st ++ w.ls.map (·.n)) ++ w.ps.map (·.n)
theorem nmsW_nd {w : Wd} (k : WOK w) : (nmsW w).Nodup := by
  unfold nmsW
  rw [List.append_assoc]
  exact k.nd
theorem nmsW_len {w : Wd} (k : WOK w) : (nmsW w).length ≤ 27 := by
  have h1 := k.ll
  have h2 := k.pl
  have h3 := k.st6
  unfold nmsW
  rw [List.length_append, List.length_append, List.length_map, List.length_map]
  omega
theorem th_in {w : Wd} {θ : Th} (h : θ.In w) : θ.n ∈ nmsW w := by
  unfold nmsW
  cases θ with
  | ln x => exact List.mem_append_left _ (List.mem_append_right _ (List.mem_map.mpr ⟨x, h, rfl⟩))
  | pl x => exact List.mem_append_right _ (List.mem_map.mpr ⟨x, h, rfl⟩)
theorem ends_in {w : Wd} {θ : Th} (k : Srt w) (h : θ.In w) : ∀ x ∈ θ.ends, x ∈ w.st := fun x hx => by
  cases θ with
  | ln y =>
    have := k.lok y h
    simp only [Th.ends, List.mem_cons, List.not_mem_nil, or_false] at hx
    rcases hx with rfl | rfl
    · exact this.a
    · exact this.b
  | pl y =>
    have := k.pok y h
    simp only [Th.ends, List.mem_cons, List.not_mem_nil, or_false] at hx
    rw [hx]
    exact this.s
theorem st_in {w : Wd} {x : Str} (h : x ∈ w.st) : x ∈ nmsW w := List.mem_append_left _ (List.mem_append_left _ h)
/-! ### what is there -/
def Dom (w : Wd) (τ : Str → Option Int) : Prop := ∀ x, (τ x).isSome = true → x ∈ nmsW w
def setT (τ : Str → Option Int) (x : Str) (i : Int) : Str → Option Int := fun y => if y = x then some i else τ y
def Tl (w : Wd) (τ : Str → Option Int) : List Str := (nmsW w).filter fun x => (τ x).isSome
theorem tl_mem {w : Wd} {τ : Str → Option Int} (h : Dom w τ) {x : Str} : x ∈ Tl w τ ↔ (τ x).isSome = true := by
  unfold Tl
  rw [List.mem_filter]
  exact ⟨fun z => z.2, fun z => ⟨h x z, z⟩⟩
structure DKv (τ : Str → Option Int) (kv : List (Key × D)) : Prop where
  v : ∀ x, valD kv (.inr x) = (τ x).map D.int
  k : ∃ ks : List Str, kv.map (·.1) = ks.map Sum.inr ∧ ks.Nodup
def DctT (d : Nat) (τ : Str → Option Int) (O : Store) : Prop := ∃ kv, O[d]? = some (.dct kv) ∧ DKv τ kv
theorem DctT.fz {d : Nat} {τ : Str → Option Int} {O O' : Store} (h : DctT d τ O) (f : Fz O O') : DctT d τ O' := by
  obtain ⟨kv, e, k⟩ := h
  exact ⟨kv, f.at e, k⟩
theorem len_le_sub : ∀ {ks l : List Str}, ks.Nodup → (∀ x ∈ ks, x ∈ l) → ks.length ≤ l.length
  | [], _, _, _ => Nat.zero_le _
  | k :: ks, l, nd, h => by
    obtain ⟨h1, h2⟩ := List.nodup_cons.mp nd
    have hk := h k (by simp)
    have := len_le_sub (ks := ks) (l := l.erase k) h2 fun x hx => (List.mem_erase_of_ne fun z => h1 (by rw [← z]; exact hx)).mpr (h x (by simp [hx]))
    have e := List.length_erase_of_mem hk
    have p : 0 < l.length := List.length_pos_of_mem hk
    rw [List.length_cons]
    omega
theorem key_some {kv : List (Key × D)} {ks : List Str} (hk : kv.map (·.1) = ks.map Sum.inr) {x : Str} : (valD kv (.inr x)).isSome = true ↔ x ∈ ks := by
  rw [← any_val, List.any_eq_true]
  constructor
  · rintro ⟨p, hp, e⟩
    have : p.1 ∈ ks.map (Sum.inr (α := Int)) := by rw [← hk]; exact List.mem_map.mpr ⟨p, hp, rfl⟩
    obtain ⟨y, hy, e2⟩ := List.mem_map.mp this
    rw [of_decide_eq_true e] at e2
    rw [← Sum.inr.inj e2]
    exact hy
  · intro h
    have : (Sum.inr x : Key) ∈ kv.map (·.1) := by rw [hk]; exact List.mem_map.mpr ⟨x, h, rfl⟩
    obtain ⟨p, hp, e⟩ := List.mem_map.mp this
    exact ⟨p, hp, decide_eq_true e⟩
theorem DKv.mem {τ : Str → Option Int} {kv : List (Key × D)} (h : DKv τ kv) {ks : List Str} (hk : kv.map (·.1) = ks.map Sum.inr) {x : Str} : x ∈ ks ↔ (τ x).isSome = true := by
  rw [← key_some hk, h.v x]
  cases τ x <;> simp
theorem DKv.len {w : Wd} {τ : Str → Option Int} {kv : List (Key × D)} (k : WOK w) (h : DKv τ kv) (dm : Dom w τ) : kv.length ≤ 27 := by
  obtain ⟨ks, hk, nd⟩ := h.k
  have e : kv.length = ks.length := by rw [← List.length_map (f := fun p : Key × D => p.1) (as := kv), hk, List.length_map]
  have := len_le_sub nd fun x hx => dm x ((h.mem hk).mp hx)
  have := nmsW_len k
  omega
theorem DKv.put {τ : Str → Option Int} {kv : List (Key × D)} {x : Str} {i : Int} (h : DKv τ kv) : DKv (setT τ x i) (putKD kv (.inr x) (.int i)) := by
  refine ⟨fun y => ?_, ?_⟩
  · rw [val_put]
    unfold setT
    by_cases c : y = x
    · rw [if_pos (by rw [c]), if_pos c]
      rfl
    · rw [if_neg (fun z => c (Sum.inr.inj z)), if_neg c]
      exact h.v y
  · obtain ⟨ks, hk, nd⟩ := h.k
    unfold putKD
    by_cases c : (kv.any fun p => decide (p.1 = Sum.inr x)) = true
    · rw [if_pos c]
      refine ⟨ks, ?_, nd⟩
      rw [← hk, List.map_map]
      refine List.map_congr_left fun p _ => ?_
      show (if p.1 = Sum.inr x then (p.1, D.int i) else p).1 = p.1
      split <;> rfl
    · rw [if_neg c]
      have hx : x ∉ ks := fun z => c (by rw [any_val]; exact (key_some hk).mpr z)
      refine ⟨ks ++ [x], by rw [List.map_append, hk, List.map_append]; rfl, ?_⟩
      rw [List.nodup_append]
      refine ⟨nd, by simp, fun a ha b hb => ?_⟩
      rw [List.mem_singleton] at hb
      subst hb
      exact fun e => hx (e ▸ ha)
theorem Dom.put {w : Wd} {τ : Str → Option Int} {x : Str} {i : Int} (h : Dom w τ) (hx : x ∈ nmsW w) : Dom w (setT τ x i) := fun y hy => by
  unfold setT at hy
  by_cases c : y = x
  · rw [c]; exact hx
  · rw [if_neg c] at hy
    exact h y hy
theorem DctT.there {w : Wd} {d : Nat} {τ : Str → Option Int} {O : Store} (h : DctT d τ O) (dm : Dom w τ) : ThereAt d (Tl w τ) O := by
  obtain ⟨kv, e, k⟩ := h
  refine ⟨kv, e, fun x => ?_⟩
  rw [k.v x]
  have := tl_mem dm (x := x)
  cases hx : τ x with
  | none =>
    rw [hx] at this
    simp at this
    simp [this]
  | some i =>
    rw [hx] at this
    simp at this
    simp [this]
/-! ### the state -/
abbrev stO (h : Nat) (now : Int) (c q z : Nat) (mo : D) : Ob := .ins "State" [("_land", .hdl h), ("_now", .int now), ("_came", .hdl c), ("_coming", .hdl q), ("_since", .hdl z), ("_moment", mo)]
structure StK (kz : List (Key × D)) (st h c q z : Nat) (now : Int) (τ : Str → Option Int) (C : List Deed) (mo : D) (O : Store) : Prop where
  eo : O[st]? = some (stO h now c q z mo)
  ec : DctT c τ O
  eq : O[q]? = some (.lst (C.map rowP))
  ez : O[z]? = some (.dct kz)
  cz : c ≠ z
/-- .. no plant has failed -/
abbrev StAt := StK []
theorem StK.fz {kz : List (Key × D)} {st h c q z : Nat} {now : Int} {τ : Str → Option Int} {C : List Deed} {mo : D} {O O' : Store} (a : StK kz st h c q z now τ C mo O) (f : Fz O O') : StK kz st h c q z now τ C mo O' := ⟨f.at a.eo, a.ec.fz f, f.at a.eq, f.at a.ez, a.cz⟩
/-- the moment that is kept, if any -/
def MoOK (mo : D) (h : Nat) (w : Wd) (τ : Str → Option Int) (O : Store) : Prop := mo = .non ∨ ∃ m r R, mo = .hdl m ∧ MomAt m h r w (litOf w (Tl w τ)) (clsOf w (Tl w τ)) (rnsOf w (Tl w τ)) R O
theorem MoOK.fz {mo : D} {h : Nat} {w : Wd} {τ : Str → Option Int} {O O' : Store} (a : MoOK mo h w τ O) (f : Fz O O') : MoOK mo h w τ O' := by
  rcases a with a | ⟨m, r, R, e, k⟩
  · exact .inl a
  · exact .inr ⟨m, r, R, e, k.fz f⟩
end DK.W
end
section
set_option Elab.async false
set_option linter.all false
set_option autoImplicit false
set_option maxRecDepth 100000
set_option maxHeartbeats 4000000
/-! DKStB: begun, spans, bars, in plain Lean. -/
namespace DK.W
open PySem L2 DK
def optI : Option Int → D
  | none => .non
  | some i => .int i
theorem lcG_gen {α : Type} {enc : α → D} {nx : Nat → Store → Option (Option D)} {turn : D → Store → List D → Option (Store × List D)} {O : Store} {xs : List α} (p : α → Bool) (f : α → D) (hn : ∀ i, nx i O = some (xs.map enc)[i]?)
    (ht : ∀ x ∈ xs, ∀ acc : List D, acc.length ≤ 900000 → turn (enc x) O acc = some (O, acc ++ (if p x = true then [f x] else []))) : ∀ (k i : Nat) (acc : List D), xs.length = i + k → acc.length + k ≤ 900000 → lcG nx turn k i O acc = some (O, acc ++ ((xs.drop i).filter p).map f)
  | 0, i, acc, h, hl => by
    unfold lcG
    rw [hn, List.getElem?_eq_none (by rw [List.length_map]; omega), List.drop_eq_nil_of_le (by omega)]
    simp
  | k + 1, i, acc, h, hl => by
    have hi : i < xs.length := by omega
    unfold lcG
    rw [hn, List.getElem?_map, List.getElem?_eq_getElem hi]
    show (match turn (enc xs[i]) O acc with | some p => lcG nx turn k (i + 1) p.1 p.2 | none => none) = _
    rw [ht _ (List.getElem_mem hi) acc (by omega)]
    show lcG nx turn k (i + 1) O (acc ++ (if p xs[i] = true then [f xs[i]] else [])) = _
    have hz : (if p xs[i] = true then [f xs[i]] else []).length ≤ 1 := by split <;> simp
    rw [lcG_gen p f hn ht k (i + 1) _ (by omega) (by rw [List.length_append]; omega), List.drop_eq_getElem_cons hi, List.filter_cons, List.append_assoc]
    by_cases c : p xs[i] = true
    · rw [if_pos c, if_pos c]
      rfl
    · rw [if_neg c, if_neg c]
      rfl
/-- a comprehension of one name over a list, whose turns leave the store -/
theorem lc_all {α : Type} {hm : Bool} {enc : α → D} {src : EM} {tt : TM} {el : EM} {i : Nat} {L : Loc} {O O1 : Store} {d : D} {xs : List α} (p : α → Bool) (f : α → D) (hs : src L O = .ok d O1) (hd : lsqOf O1 d = some (xs.map enc)) (hl : xs.length ≤ 900000) (hi : i < L.length)
    (ht : ∀ x ∈ xs, tt (L.set i (some (enc x))) O1 = .ok (p x) O1) (he : ∀ x ∈ xs, p x = true → el (L.set i (some (enc x))) O1 = .ok (f x) O1) : mLcL hm src [i] (bName i) tt el L O = newL hm ((xs.filter p).map f) O1 := by
  show ((src L O).bind fun d O1 => match lsqOf O1 d with
    | some xs => lcEnd hm (lcG (fun i O => (lsqOf O d).map (·[i]?)) (lcTurn [i] (bName i) tt el L) xs.length 0 O1 [])
    | none => .bad) = _
  rw [hs]
  show (match lsqOf O1 d with
    | some xs => lcEnd hm (lcG (fun i O => (lsqOf O d).map (·[i]?)) (lcTurn [i] (bName i) tt el L) xs.length 0 O1 [])
    | none => .bad) = _
  rw [hd]
  show lcEnd hm (lcG (fun i O => (lsqOf O d).map (·[i]?)) (lcTurn [i] (bName i) tt el L) (xs.map enc).length 0 O1 []) = _
  rw [List.length_map, lcG_gen (enc := enc) (xs := xs) p f (fun i => by rw [hd]; rfl) (fun x hx acc ha => by
    have hb : bName i (enc x) (wipeL L [i]) O1 = some (L.set i (some (enc x)), O1) := by simp [bName, wipeL]
    have t := ht x hx
    show (match bName i (enc x) (wipeL L [i]) O1 with
      | some p => (match tt p.1 p.2 with
        | .ok true O2 => (match el p.1 O2 with
          | .ok y O3 => if acc.length ≤ 900000 then some (O3, acc ++ [y]) else none
          | _ => none)
        | .ok false O2 => some (O2, acc)
        | _ => none)
      | none => none) = _
    rw [hb]
    by_cases c : p x = true
    · rw [c] at t
      simp only [t, he x hx c, if_pos ha, if_pos c]
    · rw [if_neg c]
      rw [Bool.eq_false_iff.mpr c] at t
      simp only [t, List.append_nil]) xs.length 0 [] (by omega) (by simpa using hl)]
  rw [List.drop_zero, List.nil_append]
  rfl
theorem newL_f {ys : List D} {O : Store} (h : ys.length ≤ 1000000) : newL false ys O = .ok (.lst ys) O := by
  unfold newL
  rw [if_pos h]
  rfl
theorem newL_t {ys : List D} {O : Store} (h : ys.length ≤ 1000000) : newL true ys O = .ok (.hdl O.length) (O ++ [.lst ys]) := by
  unfold newL
  rw [if_pos h]
  rfl
/-! ### begun, spans -/
def begunB (τ : Str → Option Int) (C : List Deed) (x : Str) : Bool := (τ x).isSome || decide (x ∈ C.map (·.2.n))
def spanP (x : Pl) (now : Int) : Option Int := if x.alone = true ∨ now ≤ x.hot then some x.quick else if x.cool ≤ now then some x.slow else none
def coolT (now : Int) : Th → Bool
  | .ln _ => false
  | .pl x => (spanP x now).isNone
def fedT (R : Str → Option Str) (ps : List Pl) : Th → Bool
  | .ln x => fedB R ps x.need x.a || fedB R ps x.need x.b
  | .pl x => x.alone || fedB R ps x.need x.s
def litB (lit : List Str) : Th → Bool
  | .ln x => decide (x.a ∈ lit) || decide (x.b ∈ lit)
  | .pl x => decide (x.s ∈ lit)
def barV (bg fed lit cool : Bool) : D := if bg = true then .str "begun" else if fed = true then (if cool = true then .str "cooling" else .non) else if lit = true then .str "weak" else .str "dark"
theorem tells_ex : ∀ E : List (Str × Str), ∃ f, Tells E.reverse f
  | [] => ⟨id, tells_nil⟩
  | (a, b) :: E => by
    obtain ⟨f, t⟩ := tells_ex E
    rw [List.reverse_cons]
    exact ⟨_, tells_step t⟩
theorem tells_all (E : List (Str × Str)) : ∃ f, Tells E f := by
  obtain ⟨f, t⟩ := tells_ex E.reverse
  rw [List.reverse_reverse] at t
  exact ⟨f, t⟩
noncomputable def rootW (w : Wd) (T : List Str) : Str → Str := Classical.choose (tells_all (edgL (clsOf w T) (litOf w T)))
noncomputable def fedW (w : Wd) (τ : Str → Option Int) (θ : Th) : Bool := fedT (RL (litOf w (Tl w τ)) (rootW w (Tl w τ))) (rnsOf w (Tl w τ)) θ
noncomputable def barW (w : Wd) (τ : Str → Option Int) (C : List Deed) (now : Int) (θ : Th) : D := barV (begunB τ C θ.n) (fedW w τ θ) (litB (litOf w (Tl w τ)) θ) (coolT now θ)
end DK.W
end
section
set_option Elab.async false
set_option linter.all false
set_option autoImplicit false
set_option maxRecDepth 100000
set_option maxHeartbeats 4000000
/-! DKStC: why a deed is barred, by the program and by the law, in plain Lean. -/
namespace DK.W
open PySem L2 DK
section
variable {kz : List (Key × D)} {σ : Str → Int} {st h s l p v c q z m r : Nat} {now : Int} {τ : Str → Option Int} {C : List Deed} {mo : D} {w : Wd} {O : Store} {x : Str} {lit : List Str} {cls : List Ln} {rns : List Pl} {R : Str → Option Str} {θ : Th}
/-! ### the law's reckoning -/
def doneT (now : Int) : Th → Option Int
  | .ln x => some (now + x.min)
  | .pl x => (spanP x now).map (now + ·)
theorem done_none : (doneT now θ).isNone = coolT now θ := by
  cases θ with
  | ln x => rfl
  | pl x =>
    show ((spanP x now).map (now + ·)).isNone = (spanP x now).isNone
    cases spanP x now <;> rfl
theorem enc_n : gIx O θ.enc (.int 0) = some (.str θ.n, O) := by cases θ <;> rfl
end
end DK.W
end
section
set_option Elab.async false
set_option linter.all false
set_option autoImplicit false
set_option maxRecDepth 100000
set_option maxHeartbeats 4000000
/-! DKStD: rows in order, and the least of them, in plain Lean. -/
namespace DK.W
open PySem L2 DK
def encR (r : Deed) : PyData := .tuple [.int r.1, .str r.2.kd, .str r.2.n]
theorem enc_row {O : Store} (r : Deed) : encD O (rowP r) = encR r := by
  unfold encD
  have : deep O 20 (rowP r) = some (encR r) := by
    show (List.mapM (deep O 19) [D.int r.1, .str r.2.kd, .str r.2.n]).map PyData.tuple = _
    simp only [mapM_cons, List.mapM_nil]
    rfl
  rw [this]
  rfl
theorem deep_row {O : Store} (r : Deed) : (deep O 20 (rowP r)).isSome = true := by
  have : deep O 20 (rowP r) = some (encR r) := by
    show (List.mapM (deep O 19) [D.int r.1, .str r.2.kd, .str r.2.n]).map PyData.tuple = _
    simp only [mapM_cons, List.mapM_nil]
    rfl
  rw [this]
  rfl
theorem map_enc {O : Store} (C : List Deed) : (C.map rowP).map (encD O) = C.map encR := by
  rw [List.map_map]
  exact List.map_congr_left fun r _ => enc_row (O := O) r
theorem alike_rows (C : List Deed) : alikeB (C.map encR) = true := by
  unfold alikeB
  rw [List.all_eq_true]
  intro x hx
  obtain ⟨a, _, rfl⟩ := List.mem_map.mp hx
  rw [List.all_eq_true]
  intro y hy
  obtain ⟨b, _, rfl⟩ := List.mem_map.mp hy
  rfl
theorem sort_rows (C : List Deed) : sortB (C.map encR) = true := by
  unfold sortB
  rw [Bool.or_eq_true_iff]
  left
  rw [List.all_eq_true]
  intro x hx
  obtain ⟨a, _, rfl⟩ := List.mem_map.mp hx
  rfl
def leR (a b : Deed) : Bool := PySem.W.dataLe false encR a b
/-- what is on its way, in order -/
def sortC (C : List Deed) : List Deed := C.mergeSort leR
theorem sortC_perm (C : List Deed) : (sortC C).Perm C := List.mergeSort_perm _ _
theorem sortC_len (C : List Deed) : (sortC C).length = C.length := (sortC_perm C).length_eq
theorem sortD_rows {O : Store} {d : D} {C : List Deed} {hm : Bool} (hd : lsqOf O d = some (C.map rowP)) : gSortD hm O d = newLO hm ((sortC C).map rowP) O := by
  unfold gSortD
  rw [hd]
  have h1 : ((C.map rowP).all fun x => (deep O 20 x).isSome) = true := by
    rw [List.all_eq_true]
    intro x hx
    obtain ⟨r, _, rfl⟩ := List.mem_map.mp hx
    exact deep_row r
  have h4 : ((C.map rowP).all fun x => decide ((encD O x).depth ≤ 40)) = true := by
    rw [List.all_eq_true]
    intro x hx
    obtain ⟨r, _, rfl⟩ := List.mem_map.mp hx
    rw [enc_row]
    rfl
  show (if _ then newLO hm ((C.map rowP).mergeSort (PySem.W.dataLe false (encD O))) O else none) = _
  rw [if_pos ⟨h1, by rw [map_enc]; exact alike_rows C, by rw [map_enc]; exact sort_rows C, h4⟩]
  congr 1
  unfold sortC
  refine (List.map_mergeSort (fun a _ b _ => ?_)).symm
  show PySem.W.dataLe false encR a b = PySem.W.dataLe false (encD O) (rowP a) (rowP b)
  show (!(PyProof.Rows.lexLt PyProof.Rows.itemOrd (PySem.W.keyToks (encR b)) (PySem.W.keyToks (encR a)))) = (!(PyProof.Rows.lexLt PyProof.Rows.itemOrd (PySem.W.keyToks (encD O (rowP b))) (PySem.W.keyToks (encD O (rowP a)))))
  rw [enc_row, enc_row]
/-! ### the least -/
theorem row_lt {a b : Deed} : (PySem.W.dataLt (encR a) (encR b) = true → a.1 ≤ b.1) ∧ (PySem.W.dataLt (encR a) (encR b) = false → b.1 ≤ a.1) := by
  by_cases c : a.1 = b.1
  · rw [c]
    exact ⟨fun _ => Int.le_refl _, fun _ => Int.le_refl _⟩
  · have e : PySem.W.dataLt (encR a) (encR b) = decide (a.1 < b.1) := by
      show PyProof.Rows.lexLt PyProof.Rows.itemOrd (Sum.inl 1 :: Sum.inl a.1 :: _) (Sum.inl 1 :: Sum.inl b.1 :: _) = _
      rw [PyProof.Rows.lex_self, PyProof.Rows.lex_diff (fun z => c (Sum.inl.inj z))]
      rfl
    rw [e]
    refine ⟨fun h => ?_, fun h => ?_⟩
    · have := of_decide_eq_true h
      omega
    · have := of_decide_eq_false h
      omega
theorem min_fold : ∀ (xs : List Deed) (x : Deed), ∃ r ∈ x :: xs, PySem.W.minD (encR x) (xs.map encR) = encR r ∧ ∀ y ∈ x :: xs, r.1 ≤ y.1
  | [], x => ⟨x, by simp, rfl, fun y hy => by rw [List.mem_singleton.mp hy]; exact Int.le_refl _⟩
  | z :: zs, x => by
    have e : PySem.W.minD (encR x) ((z :: zs).map encR) = PySem.W.minD (if PySem.W.dataLt (encR z) (encR x) = true then encR z else encR x) (zs.map encR) := rfl
    cases c : PySem.W.dataLt (encR z) (encR x) with
    | true =>
      obtain ⟨r, hr, e2, h⟩ := min_fold zs z
      rw [e, c, if_pos rfl]
      refine ⟨r, List.mem_cons_of_mem _ hr, e2, fun y hy => ?_⟩
      rcases List.mem_cons.mp hy with rfl | hy
      · exact Int.le_trans (h z (by simp)) (row_lt.1 c)
      · exact h y hy
    | false =>
      obtain ⟨r, hr, e2, h⟩ := min_fold zs x
      rw [e, c, if_neg Bool.false_ne_true]
      refine ⟨r, ?_, e2, fun y hy => ?_⟩
      · rcases List.mem_cons.mp hr with rfl | hr
        · simp
        · simp [hr]
      · rcases List.mem_cons.mp hy with rfl | hy
        · exact h y (by simp)
        · rcases List.mem_cons.mp hy with rfl | hy
          · exact Int.le_trans (h x (by simp)) (row_lt.2 c)
          · exact h y (by simp [hy])
theorem depth_rows : ∀ C : List Deed, PyData.depthAll (C.map encR) ≤ 40
  | [] => by decide
  | r :: C => by
    have ih := depth_rows C
    show max (PyData.depth (encR r)) (PyData.depthAll (C.map encR)) ≤ 40
    have : PyData.depth (encR r) ≤ 40 := by
      show PyData.depth (.tuple [.int r.1, .str r.2.kd, .str r.2.n]) ≤ 40
      show max 0 (max 0 (max 0 0)) + 1 ≤ 40
      decide
    omega
theorem min_ok {O : Store} {d : D} {C : List Deed} (hd : lsqOf O d = some (C.map rowP)) (hc : C ≠ []) : ∃ r ∈ C, gMinD O d = some (rowP r, O) ∧ ∀ y ∈ C, r.1 ≤ y.1 := by
  cases C with
  | nil => exact absurd rfl hc
  | cons x xs =>
    obtain ⟨r, hr, e, h⟩ := min_fold xs x
    refine ⟨r, hr, ?_, h⟩
    unfold gMinD
    rw [hd]
    have ft : ((x :: xs).map rowP).all flatT = true := by
      rw [List.all_eq_true]
      intro y hy
      obtain ⟨r, _, rfl⟩ := List.mem_map.mp hy
      rfl
    have me := map_enc (O := O) (x :: xs)
    have mo : minOk O ((x :: xs).map rowP) = true := by
      unfold minOk
      rw [ft, me, alike_rows, sort_rows, decide_eq_true (depth_rows _)]
      rfl
    show (if minOk O ((x :: xs).map rowP) = true then (decD (PySem.W.minD (encD O (rowP x)) ((xs.map rowP).map (encD O)))).map fun b => (b, O) else none) = _
    rw [if_pos mo, enc_row, map_enc, e]
    rfl
end DK.W
end
section
set_option Elab.async false
set_option linter.all false
set_option autoImplicit false
set_option maxRecDepth 100000
set_option maxHeartbeats 4000000
/-! DKStE: what comes, by the program and by the law, in plain Lean. -/
namespace DK.W
open PySem L2 DK
/-! ### what comes at a minute -/
def arrT (τ : Str → Option Int) (θs : List Th) (m : Int) : Str → Option Int := fun x => if x ∈ θs.map Th.n then some m else if τ x = none ∧ x ∈ θs.flatMap Th.ends then some m else τ x
def endT (m : Int) (τ : Str → Option Int) (e : Str) : Str → Option Int := if (τ e).isSome = true then τ else setT τ e m
def comeT (τ : Str → Option Int) (θ : Th) (m : Int) : Str → Option Int := θ.ends.foldl (endT m) (setT τ θ.n m)
theorem arr_nil {τ : Str → Option Int} {m : Int} : arrT τ [] m = τ := by
  funext x
  simp [arrT]
theorem end_at {m : Int} {τ : Str → Option Int} {e x : Str} : endT m τ e x = if τ x = none ∧ x = e then some m else τ x := by
  unfold endT setT
  by_cases c : (τ e).isSome = true
  · rw [if_pos c]
    by_cases d : x = e
    · subst d
      rw [if_neg (by rintro ⟨z, _⟩; rw [z] at c; cases c)]
    · rw [if_neg (fun z => d z.2)]
  · rw [if_neg c]
    have hn : τ e = none := by
      cases h : τ e with
      | none => rfl
      | some i => rw [h] at c; exact absurd rfl c
    by_cases d : x = e
    · subst d
      rw [if_pos rfl, if_pos ⟨hn, rfl⟩]
    · rw [if_neg d, if_neg (fun z => d z.2)]
theorem ends_at {m : Int} {x : Str} : ∀ {es : List Str} {τ : Str → Option Int}, es.foldl (endT m) τ x = if τ x = none ∧ x ∈ es then some m else τ x
  | [], τ => by simp
  | e :: es, τ => by
    rw [List.foldl_cons, ends_at (es := es), end_at]
    by_cases c : τ x = none
    · by_cases d : x = e
      · subst d
        simp [c]
      · simp [c, d]
    · simp [c]
theorem come_at {τ : Str → Option Int} {θ : Th} {m : Int} {x : Str} : comeT τ θ m x = if x = θ.n then some m else if τ x = none ∧ x ∈ θ.ends then some m else τ x := by
  unfold comeT
  rw [ends_at]
  unfold setT
  by_cases c : x = θ.n
  · rw [if_pos c, if_neg (by rintro ⟨z, _⟩; cases z), if_pos c]
  · rw [if_neg c, if_neg c]
theorem arr_snoc {τ : Str → Option Int} {θs : List Th} {θ : Th} {m : Int} : arrT τ (θs ++ [θ]) m = comeT (arrT τ θs m) θ m := by
  funext x
  rw [come_at]
  unfold arrT
  rw [List.map_append, List.flatMap_append]
  by_cases a : x ∈ θs.map Th.n <;> by_cases b : x = θ.n <;> by_cases c : τ x = none <;> by_cases d : x ∈ θs.flatMap Th.ends <;> by_cases e : x ∈ θ.ends <;> simp [a, b, c, d, e]
theorem arr_perm {τ : Str → Option Int} {θs θs' : List Th} {m : Int} (h : θs.Perm θs') : arrT τ θs m = arrT τ θs' m := by
  funext x
  unfold arrT
  have h1 : x ∈ θs.map Th.n ↔ x ∈ θs'.map Th.n := (h.map _).mem_iff
  have h2 : x ∈ θs.flatMap Th.ends ↔ x ∈ θs'.flatMap Th.ends := by
    rw [List.mem_flatMap, List.mem_flatMap]
    exact ⟨fun ⟨a, b, c⟩ => ⟨a, h.mem_iff.mp b, c⟩, fun ⟨a, b, c⟩ => ⟨a, h.mem_iff.mpr b, c⟩⟩
  by_cases a : x ∈ θs.map Th.n
  · rw [if_pos a, if_pos (h1.mp a)]
  · rw [if_neg a, if_neg (fun z => a (h1.mpr z))]
    by_cases b : τ x = none ∧ x ∈ θs.flatMap Th.ends
    · rw [if_pos b, if_pos ⟨b.1, h2.mp b.2⟩]
    · rw [if_neg b, if_neg (fun z => b ⟨z.1, h2.mpr z.2⟩)]
theorem Dom.arr {w : Wd} {τ : Str → Option Int} {m : Int} (k : Srt w) (h : Dom w τ) : ∀ {θs : List Th}, (∀ θ ∈ θs, θ.In w) → Dom w (arrT τ θs m) := fun {θs} hθ x hx => by
  unfold arrT at hx
  by_cases a : x ∈ θs.map Th.n
  · obtain ⟨θ, ht, rfl⟩ := List.mem_map.mp a
    exact th_in (hθ θ ht)
  · rw [if_neg a] at hx
    by_cases b : τ x = none ∧ x ∈ θs.flatMap Th.ends
    · obtain ⟨θ, ht, he⟩ := List.mem_flatMap.mp b.2
      exact st_in (ends_in k (hθ θ ht) x he)
    · rw [if_neg b] at hx
      exact h x hx
/-! ### frames -/
def Fy (a b : Nat) (O O' : Store) : Prop := O.length ≤ O'.length ∧ ∀ i, i < O.length → i ≠ a → i ≠ b → O'[i]? = O[i]?
theorem Fy.refl {a b : Nat} (O : Store) : Fy a b O O := ⟨Nat.le_refl _, fun _ _ _ _ => rfl⟩
theorem Fy.trans {a b : Nat} {O O1 O2 : Store} (f : Fy a b O O1) (g : Fy a b O1 O2) : Fy a b O O2 := ⟨Nat.le_trans f.1 g.1, fun i h h1 h2 => (g.2 i (Nat.lt_of_lt_of_le h f.1) h1 h2).trans (f.2 i h h1 h2)⟩
theorem Fy.at {a b i : Nat} {O O' : Store} {x : Ob} (f : Fy a b O O') (h1 : i ≠ a) (h2 : i ≠ b) (h : O[i]? = some x) : O'[i]? = some x := (f.2 i (List.getElem?_eq_some_iff.mp h).1 h1 h2).trans h
theorem Fz.fy {a b : Nat} {O O' : Store} (f : Fz O O') : Fy a b O O' := ⟨f.1, fun i h _ _ => f.2 i h⟩
theorem fy_a {a b : Nat} {O : Store} {x : Ob} : Fy a b O (O.set a x) := ⟨by rw [List.length_set]; exact Nat.le_refl _, fun i _ h1 _ => List.getElem?_set_ne (fun z => h1 z.symm)⟩
theorem fy_b {a b : Nat} {O : Store} {x : Ob} : Fy a b O (O.set b x) := ⟨by rw [List.length_set]; exact Nat.le_refl _, fun i _ _ h2 => List.getElem?_set_ne (fun z => h2 z.symm)⟩
theorem Fx.fy {a b : Nat} {O O' : Store} (f : Fx a O O') : Fy a b O O' := ⟨f.1, fun i h h1 _ => f.2 i h h1⟩
theorem LandAt.fy {h s l p v a b : Nat} {w : Wd} {O O' : Store} (la : LandAt h s l p v w O) (f : Fy a b O O') (ha : h ≠ a ∧ s ≠ a ∧ l ≠ a ∧ p ≠ a ∧ v ≠ a) (hb : h ≠ b ∧ s ≠ b ∧ l ≠ b ∧ p ≠ b ∧ v ≠ b) : LandAt h s l p v w O' :=
  ⟨f.at ha.1 hb.1 la.eo, f.at ha.2.1 hb.2.1 la.es, f.at ha.2.2.1 hb.2.2.1 la.el, f.at ha.2.2.2.1 hb.2.2.2.1 la.ep, f.at ha.2.2.2.2 hb.2.2.2.2 la.ev, la.lp, la.sv, la.pos⟩
theorem LandAt.set {h s l p v b : Nat} {w : Wd} {O : Store} {x : Ob} (la : LandAt h s l p v w O) (hb : h ≠ b ∧ s ≠ b ∧ l ≠ b ∧ p ≠ b ∧ v ≠ b) : LandAt h s l p v w (O.set b x) := la.fy (a := b) (b := b) fy_a hb hb
/-! ### the law's arrivals -/
abbrev leB : SM := (sIf (mTest (mDIn false (mVar 4) (mVar 1))) (sDPutM (mVar 1) (mVar 4) (mVar 3)) sNext)
section
variable {t q2 : Nat} {m : Int} {τ : Str → Option Int} {C : List Deed} {w : Wd} {O : Store} {θ : Th}
theorem end_dct {c : Nat} {τ : Str → Option Int} {kv : List (Key × D)} {e : Str} {O : Store} (dk : DKv τ kv) : DKv (endT m τ e) (if (valD kv (.inr e)).isSome = true then kv else putKD kv (.inr e) (.int m)) := by
  unfold endT
  have v := dk.v e
  cases h : τ e with
  | none =>
    rw [h] at v
    simp at v
    simp [v]
    exact dk.put
  | some i =>
    rw [h] at v
    simp at v
    simp [v]
    exact dk
theorem lends_ok : f_law_ends [θ.enc] O = .ok (.lst (θ.ends.map .str)) O := by
  cases θ <;> simp [f_law_ends, b_law_ends, Th.enc, Th.ends, runF, sSeq, sIf, sNext, sDrop, sRet, sRetN, sAsg, ofRes, ofB, bName, bNil, bCons, bTup, bLst, bSubL, mTest, mOp, mVar, mC, mChain, mAnd, mOr, mNot, mIf, mAndV, mOrV, mNotV, mNeg, mCons, mNil, mTup, mLst, newL, mCall, mFn, arity, g1, g2, gLen, gInt, gAbs, gMax2, gMin2, gIx, seqOf, lsqOf, lstOf, Res.bind, ofO, gAdd_ok, gSub_ok, gEq_int, gNe_int, gLt_int, gLe_int, gGt_int, gGe_int, gEq_bl, gNe_bl, gEq_str, gNe_str, mIsi, mIsiT, tyD, kitL, kitTab, atI_c0, atI_c1, atI_c2, atI_c3, atI_c4, sForR1, int1, int2, mMeth, mMake, mFld, sFldM, gIs, gIsNot, isNon_t, sRaise, gList, newLO]
theorem lcome_ok {y0 : D} (ec : DctT t τ O) (k : WOK w) (dm : Dom w τ) (hθ : θ.In w) : ∃ kv, f_law_come [y0, .hdl t, θ.enc, .int m] O = .ok .non (O.set t (.dct kv)) ∧ DKv (comeT τ θ m) kv := by
  obtain ⟨kv, hkv, dk⟩ := ec
  have kl := dk.len k dm
  have dk1 := dk.put (x := θ.n) (i := m)
  have dm1 : Dom w (setT τ θ.n m) := dm.put (th_in hθ)
  have en := fun O => enc_n (θ := θ) (O := O)
  have e0 := fun O => lends_ok (θ := θ) (O := O)
  have set2 : ∀ x y : Ob, (O.set t x).set t y = O.set t y := fun x y => List.set_set ..
  obtain ⟨L', O', e, y4, kv', rfl, rfl, dk'⟩ := forL_keeps (m := mFn (arity 1 f_law_ends) [] (mCons (mVar 2) mNil)) (b := bName 4) (body := leB) (L := [some y0, some (.hdl t), some θ.enc, some (.int m), none]) (O := O.set t (.dct (putKD kv (.inr θ.n) (.int m)))) (O1 := O.set t (.dct (putKD kv (.inr θ.n) (.int m)))) (ds := θ.ends.map .str)
    (I := fun i L O' => ∃ (y4 : Option D) (kv' : List (Key × D)), L = [some y0, some (.hdl t), some θ.enc, some (.int m), y4] ∧ O' = O.set t (.dct kv') ∧ DKv ((θ.ends.take i).foldl (endT m) (setT τ θ.n m)) kv')
    (by
      have e0' := e0 (O.set t (.dct (putKD kv (.inr θ.n) (.int m))))
      generalize O.set t (.dct (putKD kv (.inr θ.n) (.int m))) = O1 at *
      generalize θ.enc = te at *
      generalize θ.ends.map D.str = z at *
      simp [runF, sSeq, sIf, sNext, sDrop, sRet, sRetN, sAsg, ofRes, ofB, bName, bNil, bCons, bTup, bLst, bSubL, mTest, mOp, mVar, mC, mChain, mAnd, mOr, mNot, mIf, mAndV, mOrV, mNotV, mNeg, mCons, mNil, mTup, mLst, newL, mCall, mFn, arity, g1, g2, gLen, gInt, gAbs, gMax2, gMin2, gIx, seqOf, lsqOf, lstOf, Res.bind, ofO, gAdd_ok, gSub_ok, gEq_int, gNe_int, gLt_int, gLe_int, gGt_int, gGe_int, gEq_bl, gNe_bl, gEq_str, gNe_str, mIsi, mIsiT, tyD, kitL, kitTab, atI_c0, atI_c1, atI_c2, atI_c3, atI_c4, sForR1, int1, int2, mMeth, mMake, mFld, sFldM, gIs, gIsNot, isNon_t, sRaise, gList, newLO, e0']) ⟨none, _, rfl, rfl, dk1⟩ fun i d L O' hd ⟨y4, kv', hL, hO, dk'⟩ => by
      subst hL hO
      rw [List.getElem?_map] at hd
      obtain ⟨x, hx, rfl⟩ := Option.map_eq_some_iff.mp hd
      have tk : (θ.ends.take (i + 1)).foldl (endT m) (setT τ θ.n m) = endT m ((θ.ends.take i).foldl (endT m) (setT τ θ.n m)) x := by
        rw [take_get hx, List.foldl_append]
        rfl
      have dmi : Dom w ((θ.ends.take i).foldl (endT m) (setT τ θ.n m)) := fun y hy => by
        rw [ends_at] at hy
        by_cases c : setT τ θ.n m y = none ∧ y ∈ θ.ends.take i
        · exact st_in (ends_in k.srt hθ y (List.mem_of_mem_take c.2))
        · rw [if_neg c] at hy
          exact dm1 y hy
      have kl' := dk'.len k dmi
      have dk2 := end_dct (m := m) (e := x) (c := t) (O := O) dk'
      rw [← tk] at dk2
      refine ⟨[some y0, some (.hdl t), some θ.enc, some (.int m), some (.str x)], _, ?_, some (.str x), _, rfl, rfl, dk2⟩
      have g1 : (O.set t (.dct kv'))[t]? = some (.dct kv') := set_at hkv
      have kl2 : kv'.length ≤ 1000000 := by omega
      have st2 := set2 (.dct kv') (.dct (putKD kv' (.inr x) (.int m)))
      generalize θ.enc = te at *
      by_cases c : (valD kv' (.inr x)).isSome = true
      · rw [if_pos c]
        generalize O.set t (.dct kv') = O1 at *
        simp [turnOf, mDIn, dctOf, keyD, runF, sSeq, sIf, sNext, sDrop, sRet, sRetN, sAsg, ofRes, ofB, bName, bNil, bCons, bTup, bLst, bSubL, mTest, mOp, mVar, mC, mChain, mAnd, mOr, mNot, mIf, mAndV, mOrV, mNotV, mNeg, mCons, mNil, mTup, mLst, newL, mCall, mFn, arity, g1, g2, gLen, gInt, gAbs, gMax2, gMin2, gIx, seqOf, lsqOf, lstOf, Res.bind, ofO, gAdd_ok, gSub_ok, gEq_int, gNe_int, gLt_int, gLe_int, gGt_int, gGe_int, gEq_bl, gNe_bl, gEq_str, gNe_str, mIsi, mIsiT, tyD, kitL, kitTab, atI_c0, atI_c1, atI_c2, atI_c3, atI_c4, sForR1, int1, int2, mMeth, mMake, mFld, sFldM, gIs, gIsNot, isNon_t, sRaise, gList, newLO, g1, c]
      · rw [if_neg c, ← st2]
        have c' := Bool.eq_false_iff.mpr c
        generalize O.set t (.dct kv') = O1 at *
        simp [turnOf, mDIn, sDPutM, dctOf, keyD, hdlN, runF, sSeq, sIf, sNext, sDrop, sRet, sRetN, sAsg, ofRes, ofB, bName, bNil, bCons, bTup, bLst, bSubL, mTest, mOp, mVar, mC, mChain, mAnd, mOr, mNot, mIf, mAndV, mOrV, mNotV, mNeg, mCons, mNil, mTup, mLst, newL, mCall, mFn, arity, g1, g2, gLen, gInt, gAbs, gMax2, gMin2, gIx, seqOf, lsqOf, lstOf, Res.bind, ofO, gAdd_ok, gSub_ok, gEq_int, gNe_int, gLt_int, gLe_int, gGt_int, gGe_int, gEq_bl, gNe_bl, gEq_str, gNe_str, mIsi, mIsiT, tyD, kitL, kitTab, atI_c0, atI_c1, atI_c2, atI_c3, atI_c4, sForR1, int1, int2, mMeth, mMake, mFld, sFldM, gIs, gIsNot, isNon_t, sRaise, gList, newLO, g1, c', kl2]
  rw [List.length_map, List.take_length] at dk'
  refine ⟨kv', ?_, dk'⟩
  have en0 := en O
  have kl2 : kv.length ≤ 1000000 := by omega
  simp only [f_law_come, b_law_come]
  generalize sForL _ _ _ = sL at e ⊢
  generalize θ.enc = te at *
  simp [sDPutM, dctOf, keyD, hdlN, runF, sSeq, sIf, sNext, sDrop, sRet, sRetN, sAsg, ofRes, ofB, bName, bNil, bCons, bTup, bLst, bSubL, mTest, mOp, mVar, mC, mChain, mAnd, mOr, mNot, mIf, mAndV, mOrV, mNotV, mNeg, mCons, mNil, mTup, mLst, newL, mCall, mFn, arity, g1, g2, gLen, gInt, gAbs, gMax2, gMin2, seqOf, lsqOf, lstOf, Res.bind, ofO, gAdd_ok, gSub_ok, gEq_int, gNe_int, gLt_int, gLe_int, gGt_int, gGe_int, gEq_bl, gNe_bl, gEq_str, gNe_str, mIsi, mIsiT, tyD, kitL, kitTab, atI_c0, atI_c1, atI_c2, atI_c3, atI_c4, sForR1, int1, int2, mMeth, mMake, mFld, sFldM, gIs, gIsNot, isNon_t, sRaise, gList, newLO, en0, hkv, kl2, e]
def advT (τ : Str → Option Int) (C : List Deed) (m : Int) : Str → Option Int := arrT τ ((C.filter fun r => decide (r.1 = m)).map (·.2)) m
def advC (C : List Deed) (m : Int) : List Deed := C.filter fun r => decide (r.1 ≠ m)
abbrev laB : SM := (sIf (mTest (mOp gEq (mVar 4) (mVar 3))) (sDrop (mFn (arity 4 f_law_come) [] (mCons (mVar 0) (mCons (mVar 1) (mCons (mVar 5) (mCons (mVar 3) mNil)))))) sNext)
theorem larrive_ok {y0 : D} (ec : DctT t τ O) (k : WOK w) (dm : Dom w τ) (hC : ∀ r ∈ C, r.2.In w) (eq : O[q2]? = some (.lst (C.map rowL))) (hl : C.length ≤ 1000) (hne : q2 ≠ t) :
    ∃ kv, f_law_arrive [y0, .hdl t, .hdl q2, .int m] O = .ok (.hdl O.length) (O.set t (.dct kv) ++ [.lst ((advC C m).map rowL)]) ∧ DKv (advT τ C m) kv := by
  obtain ⟨kv, hkv, dk⟩ := ec
  have self : O.set t (.dct kv) = O := List.ext_getElem? fun i => by
    by_cases c : i = t
    · subst c
      rw [set_at hkv, hkv]
    · rw [List.getElem?_set_ne (fun z => c z.symm)]
  obtain ⟨L', O', e, y4, y5, kv', rfl, rfl, dk'⟩ := loopH_keeps (turn := turnOf (bTup 2 (bCons (bName 4) (bCons (bName 5) bNil))) laB) (n := q2) (xs := C.map rowL)
    (I := fun i L O' => ∃ (y4 y5 : Option D) (kv' : List (Key × D)), L = [some y0, some (.hdl t), some (.hdl q2), some (.int m), y4, y5, none] ∧ O' = O.set t (.dct kv') ∧ DKv (advT τ (C.take i) m) kv')
    (fun j L O' ⟨_, _, _, _, hO, _⟩ => by rw [hO, List.getElem?_set_ne (Ne.symm hne)]; exact eq) (C.map rowL).length 0 [some y0, some (.hdl t), some (.hdl q2), some (.int m), none, none, none] O (by omega) ⟨none, none, kv, rfl, self.symm, by
      show DKv (arrT τ [] m) kv
      rw [arr_nil]
      exact dk⟩ fun i d L O' hd ⟨y4, y5, kv', hL, hO, dk'⟩ => by
      subst hL hO
      rw [List.getElem?_map] at hd
      obtain ⟨r, hr, rfl⟩ := Option.map_eq_some_iff.mp hd
      have inr := hC r (List.mem_of_getElem? hr)
      have tk : advT τ (C.take (i + 1)) m = if r.1 = m then comeT (advT τ (C.take i) m) r.2 m else advT τ (C.take i) m := by
        unfold advT
        rw [take_get hr, List.filter_append, List.filter_cons]
        by_cases c : r.1 = m
        · rw [if_pos (decide_eq_true c), if_pos c, List.map_append]
          exact arr_snoc
        · rw [if_neg (by rw [decide_eq_false c]; exact Bool.false_ne_true), if_neg c]
          simp
      have dmi : Dom w (advT τ (C.take i) m) := dm.arr k.srt fun θ hθ => by
        obtain ⟨r, hr, rfl⟩ := List.mem_map.mp hθ
        exact hC r (List.mem_of_mem_take (List.mem_filter.mp hr).1)
      rw [tk]
      have g1 : DctT t (advT τ (C.take i) m) (O.set t (.dct kv')) := ⟨kv', set_at hkv, dk'⟩
      by_cases c : r.1 = m
      · rw [if_pos c]
        obtain ⟨kv2, e2, dk2⟩ := lcome_ok (m := m) (y0 := y0) g1 k dmi inr
        rw [List.set_set] at e2
        refine ⟨[some y0, some (.hdl t), some (.hdl q2), some (.int m), some (.int r.1), some r.2.enc, none], _, ?_, some (.int r.1), some r.2.enc, kv2, rfl, rfl, dk2⟩
        generalize O.set t (.dct kv') = O1 at *
        generalize O.set t (.dct kv2) = O2 at *
        simp [turnOf, runF, sSeq, sIf, sNext, sDrop, sRet, sRetN, sAsg, ofRes, ofB, bName, bNil, bCons, bTup, bLst, bSubL, mTest, mOp, mVar, mC, mChain, mAnd, mOr, mNot, mIf, mAndV, mOrV, mNotV, mNeg, mCons, mNil, mTup, mLst, newL, mCall, mFn, arity, g1, g2, gLen, gInt, gAbs, gMax2, gMin2, gIx, seqOf, lsqOf, lstOf, Res.bind, ofO, gAdd_ok, gSub_ok, gEq_int, gNe_int, gLt_int, gLe_int, gGt_int, gGe_int, gEq_bl, gNe_bl, gEq_str, gNe_str, mIsi, mIsiT, tyD, kitL, kitTab, atI_c0, atI_c1, atI_c2, atI_c3, atI_c4, sForR1, int1, int2, mMeth, mMake, mFld, sFldM, gIs, gIsNot, isNon_t, sRaise, gList, newLO, c, e2]
      · rw [if_neg c]
        refine ⟨[some y0, some (.hdl t), some (.hdl q2), some (.int m), some (.int r.1), some r.2.enc, none], _, ?_, some (.int r.1), some r.2.enc, kv', rfl, rfl, dk'⟩
        generalize O.set t (.dct kv') = O1 at *
        simp [turnOf, runF, sSeq, sIf, sNext, sDrop, sRet, sRetN, sAsg, ofRes, ofB, bName, bNil, bCons, bTup, bLst, bSubL, mTest, mOp, mVar, mC, mChain, mAnd, mOr, mNot, mIf, mAndV, mOrV, mNotV, mNeg, mCons, mNil, mTup, mLst, newL, mCall, mFn, arity, g1, g2, gLen, gInt, gAbs, gMax2, gMin2, gIx, seqOf, lsqOf, lstOf, Res.bind, ofO, gAdd_ok, gSub_ok, gEq_int, gNe_int, gLt_int, gLe_int, gGt_int, gGe_int, gEq_bl, gNe_bl, gEq_str, gNe_str, mIsi, mIsiT, tyD, kitL, kitTab, atI_c0, atI_c1, atI_c2, atI_c3, atI_c4, sForR1, int1, int2, mMeth, mMake, mFld, sFldM, gIs, gIsNot, isNon_t, sRaise, gList, newLO, c]
  rw [List.length_map, List.take_length] at *
  refine ⟨kv', ?_, dk'⟩
  have eq1 : (O.set t (.dct kv'))[q2]? = some (.lst (C.map rowL)) := by rw [List.getElem?_set_ne (Ne.symm hne)]; exact eq
  have ln : (O.set t (.dct kv')).length = O.length := List.length_set ..
  obtain ⟨O1, hO1⟩ : ∃ O1, O.set t (.dct kv') = O1 := ⟨_, rfl⟩
  rw [hO1] at e eq1 ln ⊢
  have e3 := lc_all (hm := true) (enc := rowL) (src := mVar 2) (tt := mTest (mOp gNe (mOp gIx (mVar 6) (mC (.int 0))) (mVar 3))) (el := mVar 6) (i := 6) (L := [some y0, some (.hdl t), some (.hdl q2), some (.int m), y4, y5, none]) (O := O1) (O1 := O1) (d := .hdl q2) (xs := C) (fun r => decide (r.1 ≠ m)) rowL
    (by simp [runF, sSeq, sIf, sNext, sDrop, sRet, sRetN, sAsg, ofRes, ofB, bName, bNil, bCons, bTup, bLst, bSubL, mTest, mOp, mVar, mC, mChain, mAnd, mOr, mNot, mIf, mAndV, mOrV, mNotV, mNeg, mCons, mNil, mTup, mLst, newL, mCall, mFn, arity, g1, g2, gLen, gInt, gAbs, gMax2, gMin2, gIx, seqOf, lsqOf, lstOf, Res.bind, ofO, gAdd_ok, gSub_ok, gEq_int, gNe_int, gLt_int, gLe_int, gGt_int, gGe_int, gEq_bl, gNe_bl, gEq_str, gNe_str, mIsi, mIsiT, tyD, kitL, kitTab, atI_c0, atI_c1, atI_c2, atI_c3, atI_c4, sForR1, int1, int2, mMeth, mMake, mFld, sFldM, gIs, gIsNot, isNon_t, sRaise, gList, newLO]) (by simp [lsqOf, lstOf, eq1]) (by omega) (by simp) (fun r _ => by simp [runF, sSeq, sIf, sNext, sDrop, sRet, sRetN, sAsg, ofRes, ofB, bName, bNil, bCons, bTup, bLst, bSubL, mTest, mOp, mVar, mC, mChain, mAnd, mOr, mNot, mIf, mAndV, mOrV, mNotV, mNeg, mCons, mNil, mTup, mLst, newL, mCall, mFn, arity, g1, g2, gLen, gInt, gAbs, gMax2, gMin2, gIx, seqOf, lsqOf, lstOf, Res.bind, ofO, gAdd_ok, gSub_ok, gEq_int, gNe_int, gLt_int, gLe_int, gGt_int, gGe_int, gEq_bl, gNe_bl, gEq_str, gNe_str, mIsi, mIsiT, tyD, kitL, kitTab, atI_c0, atI_c1, atI_c2, atI_c3, atI_c4, sForR1, int1, int2, mMeth, mMake, mFld, sFldM, gIs, gIsNot, isNon_t, sRaise, gList, newLO]) fun r _ _ => by simp [runF, sSeq, sIf, sNext, sDrop, sRet, sRetN, sAsg, ofRes, ofB, bName, bNil, bCons, bTup, bLst, bSubL, mTest, mOp, mVar, mC, mChain, mAnd, mOr, mNot, mIf, mAndV, mOrV, mNotV, mNeg, mCons, mNil, mTup, mLst, newL, mCall, mFn, arity, g1, g2, gLen, gInt, gAbs, gMax2, gMin2, gIx, seqOf, lsqOf, lstOf, Res.bind, ofO, gAdd_ok, gSub_ok, gEq_int, gNe_int, gLt_int, gLe_int, gGt_int, gGe_int, gEq_bl, gNe_bl, gEq_str, gNe_str, mIsi, mIsiT, tyD, kitL, kitTab, atI_c0, atI_c1, atI_c2, atI_c3, atI_c4, sForR1, int1, int2, mMeth, mMake, mFld, sFldM, gIs, gIsNot, isNon_t, sRaise, gList, newLO]
  have fl : (C.filter fun r => decide (r.1 ≠ m)).length ≤ C.length := List.length_filter_le _ _
  rw [newL_t (by rw [List.length_map]; omega)] at e3
  replace e3 : _ = Res.ok (D.hdl O1.length) (O1 ++ [Ob.lst ((advC C m).map rowL)]) := e3
  have es : sForL (mVar 2) (bTup 2 (bCons (bName 4) (bCons (bName 5) bNil))) laB [some y0, some (.hdl t), some (.hdl q2), some (.int m), none, none, none] O = .next [some y0, some (.hdl t), some (.hdl q2), some (.int m), y4, y5, none] O1 := by
    show (match O[q2]? with
      | some (.lst xs) => loopH (turnOf (bTup 2 (bCons (bName 4) (bCons (bName 5) bNil))) laB) q2 xs.length 0 _ O
      | _ => .bad) = _
    rw [eq]
    show loopH _ q2 (C.map rowL).length 0 _ O = _
    rw [List.length_map]
    exact e
  rw [ln] at e3
  simp only [f_law_arrive, b_law_arrive]
  generalize sForL _ _ _ = sL at es ⊢
  generalize mLcL true _ [6] _ _ _ = cL at e3 ⊢
  simp [runF, sSeq, sIf, sNext, sDrop, sRet, sRetN, sAsg, ofRes, ofB, bName, bNil, bCons, bTup, bLst, bSubL, mTest, mOp, mVar, mC, mChain, mAnd, mOr, mNot, mIf, mAndV, mOrV, mNotV, mNeg, mCons, mNil, mTup, mLst, newL, mCall, mFn, arity, g1, g2, gLen, gInt, gAbs, gMax2, gMin2, gIx, seqOf, lsqOf, lstOf, Res.bind, ofO, gAdd_ok, gSub_ok, gEq_int, gNe_int, gLt_int, gLe_int, gGt_int, gGe_int, gEq_bl, gNe_bl, gEq_str, gNe_str, mIsi, mIsiT, tyD, kitL, kitTab, atI_c0, atI_c1, atI_c2, atI_c3, atI_c4, sForR1, int1, int2, mMeth, mMake, mFld, sFldM, gIs, gIsNot, isNon_t, sRaise, gList, newLO, es, e3]
end
end DK.W
end
section
set_option Elab.async false
set_option linter.all false
set_option autoImplicit false
set_option maxRecDepth 100000
set_option maxHeartbeats 4000000
/-! DKStF: the program's arrivals, and going on, in plain Lean. -/
namespace DK.W
open PySem L2 DK
abbrev saE : SM := (sIf (mTest (mDIn false (mVar 7) (mFld "State" "_came" (mVar 0)))) (sDPutM (mFld "State" "_came" (mVar 0)) (mVar 7) (mVar 1)) sNext)
abbrev saB : SM := (sSeq (sDPutM (mFld "State" "_came" (mVar 0)) (mVar 5) (mVar 1))
    (sSeq (sAsg (mIf (mTest (mOp gEq (mVar 4) (mC (.str "plant")))) (mLst false (mCons (mOp gIx (mMeth "Land" "plant" (arity 2 f_land_plant) [] (mFld "State" "_land" (mVar 0)) (mCons (mVar 5) mNil)) (mC (.int 0))) mNil)) (mCall (g1 (gList false)) (mCons (mSl false (mMeth "Land" "line" (arity 2 f_land_line) [] (mFld "State" "_land" (mVar 0)) (mCons (mVar 5) mNil)) oNone (oSome (mC (.int 2)))) mNil))) (bName 6))
    (sForL (mVar 6) (bName 7) (sIf (mTest (mDIn false (mVar 7) (mFld "State" "_came" (mVar 0)))) (sDPutM (mFld "State" "_came" (mVar 0)) (mVar 7) (mVar 1)) sNext))))
abbrev saG : BM := (bTup 3 (bCons (bName 3) (bCons (bName 4) (bCons (bName 5) bNil))))
/-- the land's handles lie below -/
structure Below (h s l p v n : Nat) : Prop where
  h : h < n
  s : s < n
  l : l < n
  p : p < n
  v : v < n
theorem Below.ne {h s l p v n a : Nat} (b : Below h s l p v n) (ha : n ≤ a) : h ≠ a ∧ s ≠ a ∧ l ≠ a ∧ p ≠ a ∧ v ≠ a := ⟨by have := b.h; omega, by have := b.s; omega, by have := b.l; omega, by have := b.p; omega, by have := b.v; omega⟩
section
variable {kz : List (Key × D)} {st h s l p v c q z n : Nat} {now m : Int} {τ : Str → Option Int} {C : List Deed} {mo : D} {w : Wd} {O : Store} {θ : Th}
/-- one thing comes: its name, then its ends -/
theorem sturn_ok {kv : List (Key × D)} {y2 y3 y4 y5 y6 y7 y8 : Option D} (eo : O[st]? = some (stO h now c q z mo)) (hkv : O[c]? = some (.dct kv)) (dk : DKv τ kv) (la : LandAt h s l p v w O) (k : WOK w) (dm : Dom w τ) (hθ : θ.In w) (bl : Below h s l p v n) (hc : n ≤ c) (hs : st ≠ c) :
    ∃ kv' y6' y7', turnOf saG saB (rowP (m, θ)) [some (.hdl st), some (.int m), y2, y3, y4, y5, y6, y7, y8] O = .next [some (.hdl st), some (.int m), y2, some (.int m), some (.str θ.kd), some (.str θ.n), y6', y7', y8] (O.set c (.dct kv')) ∧ DKv (comeT τ θ m) kv' := by
  have kl := dk.len k dm
  have dk1 := dk.put (x := θ.n) (i := m)
  have dm1 : Dom w (setT τ θ.n m) := dm.put (th_in hθ)
  have set2 : ∀ x y : Ob, (O.set c x).set c y = O.set c y := fun x y => List.set_set ..
  have eo1 : ∀ x : Ob, (O.set c x)[st]? = some (stO h now c q z mo) := fun x => by rw [List.getElem?_set_ne (Ne.symm hs)]; exact eo
  have la1 : ∀ x : Ob, LandAt h s l p v w (O.set c x) := fun x => la.set (bl.ne hc)
  obtain ⟨L', O', e, y7', kv', rfl, rfl, dk'⟩ := forL_keeps (m := mVar 6) (b := bName 7) (body := saE) (L := [some (.hdl st), some (.int m), y2, some (.int m), some (.str θ.kd), some (.str θ.n), some (.lst (θ.ends.map .str)), y7, y8]) (O := O.set c (.dct (putKD kv (.inr θ.n) (.int m)))) (O1 := O.set c (.dct (putKD kv (.inr θ.n) (.int m)))) (ds := θ.ends.map .str)
    (I := fun i L O' => ∃ (y7 : Option D) (kv' : List (Key × D)), L = [some (.hdl st), some (.int m), y2, some (.int m), some (.str θ.kd), some (.str θ.n), some (.lst (θ.ends.map .str)), y7, y8] ∧ O' = O.set c (.dct kv') ∧ DKv ((θ.ends.take i).foldl (endT m) (setT τ θ.n m)) kv')
    rfl ⟨y7, _, rfl, rfl, dk1⟩ fun i d L O' hd ⟨y7, kv', hL, hO, dk'⟩ => by
      subst hL hO
      rw [List.getElem?_map] at hd
      obtain ⟨x, hx, rfl⟩ := Option.map_eq_some_iff.mp hd
      have tk : (θ.ends.take (i + 1)).foldl (endT m) (setT τ θ.n m) = endT m ((θ.ends.take i).foldl (endT m) (setT τ θ.n m)) x := by
        rw [take_get hx, List.foldl_append]
        rfl
      have dmi : Dom w ((θ.ends.take i).foldl (endT m) (setT τ θ.n m)) := fun y hy => by
        rw [ends_at] at hy
        by_cases cc : setT τ θ.n m y = none ∧ y ∈ θ.ends.take i
        · exact st_in (ends_in k.srt hθ y (List.mem_of_mem_take cc.2))
        · rw [if_neg cc] at hy
          exact dm1 y hy
      have kl' := dk'.len k dmi
      have dk2 := end_dct (m := m) (e := x) (c := c) (O := O) dk'
      rw [← tk] at dk2
      refine ⟨[some (.hdl st), some (.int m), y2, some (.int m), some (.str θ.kd), some (.str θ.n), some (.lst (θ.ends.map .str)), some (.str x), y8], _, ?_, some (.str x), _, rfl, rfl, dk2⟩
      have g1 : (O.set c (.dct kv'))[c]? = some (.dct kv') := set_at hkv
      have kl2 : kv'.length ≤ 1000000 := by omega
      have st2 := set2 (.dct kv') (.dct (putKD kv' (.inr x) (.int m)))
      have eo2 := eo1 (.dct kv')
      generalize θ.ends.map D.str = ze at *
      by_cases cc : (valD kv' (.inr x)).isSome = true
      · rw [if_pos cc]
        generalize O.set c (.dct kv') = O1 at *
        simp [turnOf, mDIn, dctOf, keyD, runF, sSeq, sIf, sNext, sDrop, sRet, sRetN, sAsg, ofRes, ofB, bName, bNil, bCons, bTup, bLst, bSubL, mTest, mOp, mVar, mC, mChain, mAnd, mOr, mNot, mIf, mAndV, mOrV, mNotV, mNeg, mCons, mNil, mTup, mLst, newL, mCall, mFn, arity, g1, g2, gLen, gInt, gAbs, gMax2, gMin2, gIx, seqOf, lsqOf, lstOf, Res.bind, ofO, gAdd_ok, gSub_ok, gEq_int, gNe_int, gLt_int, gLe_int, gGt_int, gGe_int, gEq_bl, gNe_bl, gEq_str, gNe_str, mIsi, mIsiT, tyD, kitL, kitTab, atI_c0, atI_c1, atI_c2, atI_c3, atI_c4, sForR1, int1, int2, mMeth, mMake, mFld, sFldM, gIs, gIsNot, isNon_t, sRaise, gList, newLO, eo2, lst_now, lst_land, lst_copy, lst_renew, lst_moved, lst_moment, lst_came, lst_coming, lst_table, lst_is_begun, lst_since, lst_span, lst_bar, lst_begin, lst_next_minute, lst_arrive, lst_go, lst_finish, lsf_land, lsf_now, lsf_came, lsf_coming, lsf_since, lsf_moment, lsp_land, lsp_now, lsp_came, lsp_coming, lsp_since, lsp_moment, g1, cc]
      · rw [if_neg cc, ← st2]
        have c' := Bool.eq_false_iff.mpr cc
        generalize O.set c (.dct kv') = O1 at *
        simp [turnOf, mDIn, sDPutM, dctOf, keyD, hdlN, runF, sSeq, sIf, sNext, sDrop, sRet, sRetN, sAsg, ofRes, ofB, bName, bNil, bCons, bTup, bLst, bSubL, mTest, mOp, mVar, mC, mChain, mAnd, mOr, mNot, mIf, mAndV, mOrV, mNotV, mNeg, mCons, mNil, mTup, mLst, newL, mCall, mFn, arity, g1, g2, gLen, gInt, gAbs, gMax2, gMin2, gIx, seqOf, lsqOf, lstOf, Res.bind, ofO, gAdd_ok, gSub_ok, gEq_int, gNe_int, gLt_int, gLe_int, gGt_int, gGe_int, gEq_bl, gNe_bl, gEq_str, gNe_str, mIsi, mIsiT, tyD, kitL, kitTab, atI_c0, atI_c1, atI_c2, atI_c3, atI_c4, sForR1, int1, int2, mMeth, mMake, mFld, sFldM, gIs, gIsNot, isNon_t, sRaise, gList, newLO, eo2, lst_now, lst_land, lst_copy, lst_renew, lst_moved, lst_moment, lst_came, lst_coming, lst_table, lst_is_begun, lst_since, lst_span, lst_bar, lst_begin, lst_next_minute, lst_arrive, lst_go, lst_finish, lsf_land, lsf_now, lsf_came, lsf_coming, lsf_since, lsf_moment, lsp_land, lsp_now, lsp_came, lsp_coming, lsp_since, lsp_moment, g1, c', kl2]
  rw [List.length_map, List.take_length] at dk'
  have kl2 : kv.length ≤ 1000000 := by omega
  have eo2 := eo1 (.dct (putKD kv (.inr θ.n) (.int m)))
  have la2 := la1 (.dct (putKD kv (.inr θ.n) (.int m)))
  refine ⟨kv', some (.lst (θ.ends.map .str)), y7', ?_, dk'⟩
  simp only [turnOf, saB]
  generalize sForL (mVar 6) _ _ = sL at e ⊢
  generalize O.set c (.dct kv') = O2 at *
  cases θ with
  | ln x =>
    have e1 := line_is la2 k.srt hθ
    have sl : ∀ O, gSl false (.tup [.str x.a, .str x.b, .int x.need, .int x.min]) none (some 2) O = .ok (.tup [.str x.a, .str x.b]) O := fun _ => rfl
    have np : (("line" : Str) = "plant") = False := eq_false (by decide)
    simp only [Th.n, Th.kd, Th.ends, List.map_cons, List.map_nil, rowP] at *
    generalize hO1 : O.set c (.dct (putKD kv (.inr x.n) (.int m))) = O1 at *
    simp [hO1, mSl, oNone, oSome, sDPutM, dctOf, keyD, hdlN, np, runF, sSeq, sIf, sNext, sDrop, sRet, sRetN, sAsg, ofRes, ofB, bName, bNil, bCons, bTup, bLst, bSubL, mTest, mOp, mVar, mC, mChain, mAnd, mOr, mNot, mIf, mAndV, mOrV, mNotV, mNeg, mCons, mNil, mTup, mLst, newL, mCall, mFn, arity, g1, g2, gLen, gInt, gAbs, gMax2, gMin2, gIx, seqOf, lsqOf, lstOf, Res.bind, ofO, gAdd_ok, gSub_ok, gEq_int, gNe_int, gLt_int, gLe_int, gGt_int, gGe_int, gEq_bl, gNe_bl, gEq_str, gNe_str, mIsi, mIsiT, tyD, kitL, kitTab, atI_c0, atI_c1, atI_c2, atI_c3, atI_c4, sForR1, int1, int2, mMeth, mMake, mFld, sFldM, gIs, gIsNot, isNon_t, sRaise, gList, newLO, eo, eo2, la2.eo, lst_now, lst_land, lst_copy, lst_renew, lst_moved, lst_moment, lst_came, lst_coming, lst_table, lst_is_begun, lst_since, lst_span, lst_bar, lst_begin, lst_next_minute, lst_arrive, lst_go, lst_finish, lsf_land, lsf_now, lsf_came, lsf_coming, lsf_since, lsf_moment, lsp_land, lsp_now, lsp_came, lsp_coming, lsp_since, lsp_moment, lk_stations, lk_lines, lk_plants, lk_names, lk_line, lk_plant, lk_is_self, lk_lines_at, lk_plants_at, lk_far_end, lk_rows, lk_there, lk_copy, lk_remove_station, lk_remove_line, lk_remove_plant, lk_add_station, lk_add_line, lk_add_self, lk_add_plant, lk_free, lk_room, lk_kind, hkv, kl2, e1, sl, e]
  | pl x =>
    have e1 := plant_is la2 k.srt hθ
    simp only [Th.n, Th.kd, Th.ends, List.map_cons, List.map_nil, rowP] at *
    generalize hO1 : O.set c (.dct (putKD kv (.inr x.n) (.int m))) = O1 at *
    simp [hO1, mSl, oNone, oSome, sDPutM, dctOf, keyD, hdlN, runF, sSeq, sIf, sNext, sDrop, sRet, sRetN, sAsg, ofRes, ofB, bName, bNil, bCons, bTup, bLst, bSubL, mTest, mOp, mVar, mC, mChain, mAnd, mOr, mNot, mIf, mAndV, mOrV, mNotV, mNeg, mCons, mNil, mTup, mLst, newL, mCall, mFn, arity, g1, g2, gLen, gInt, gAbs, gMax2, gMin2, gIx, seqOf, lsqOf, lstOf, Res.bind, ofO, gAdd_ok, gSub_ok, gEq_int, gNe_int, gLt_int, gLe_int, gGt_int, gGe_int, gEq_bl, gNe_bl, gEq_str, gNe_str, mIsi, mIsiT, tyD, kitL, kitTab, atI_c0, atI_c1, atI_c2, atI_c3, atI_c4, sForR1, int1, int2, mMeth, mMake, mFld, sFldM, gIs, gIsNot, isNon_t, sRaise, gList, newLO, eo, eo2, la2.eo, lst_now, lst_land, lst_copy, lst_renew, lst_moved, lst_moment, lst_came, lst_coming, lst_table, lst_is_begun, lst_since, lst_span, lst_bar, lst_begin, lst_next_minute, lst_arrive, lst_go, lst_finish, lsf_land, lsf_now, lsf_came, lsf_coming, lsf_since, lsf_moment, lsp_land, lsp_now, lsp_came, lsp_coming, lsp_since, lsp_moment, lk_stations, lk_lines, lk_plants, lk_names, lk_line, lk_plant, lk_is_self, lk_lines_at, lk_plants_at, lk_far_end, lk_rows, lk_there, lk_copy, lk_remove_station, lk_remove_line, lk_remove_plant, lk_add_station, lk_add_line, lk_add_self, lk_add_plant, lk_free, lk_room, lk_kind, hkv, kl2, e1, e]
theorem sarrive_ok (a : StK kz st h c q z now τ C mo O) (la : LandAt h s l p v w O) (k : WOK w) (dm : Dom w τ) (hC : ∀ r ∈ C, r.2.In w) (hl : C.length ≤ 1000) (bl : Below h s l p v n) (hc : n ≤ c) (hst : n ≤ st) :
    ∃ O', f_state_arrive [.hdl st, .int m] O = .ok .non O' ∧ StK kz st h c O.length z now (advT τ C m) (advC C m) .non O' ∧ Fy st c O O' := by
  have ncs : st ≠ c := fun zz => by
    have h1 := a.eo
    obtain ⟨kv, h2, _⟩ := a.ec
    rw [zz, h2] at h1
    cases h1
  have nqs : q ≠ st := fun zz => by
    have h1 := a.eo
    rw [← zz, a.eq] at h1
    cases h1
  have nzs : z ≠ st := fun zz => by
    have h1 := a.eo
    rw [← zz, a.ez] at h1
    cases h1
  have slt := (List.getElem?_eq_some_iff.mp a.eo).1
  have zlt := (List.getElem?_eq_some_iff.mp a.ez).1
  obtain ⟨kv, hkv, dk⟩ := a.ec
  have clt := (List.getElem?_eq_some_iff.mp hkv).1
  have f1l : (C.filter fun r => decide (r.1 = m)).length ≤ C.length := List.length_filter_le _ _
  have f2l : (C.filter fun r => decide (r.1 ≠ m)).length ≤ C.length := List.length_filter_le _ _
  have c1 := lc_all (hm := false) (enc := rowP) (src := mFld "State" "_coming" (mVar 0)) (tt := mTest (mOp gEq (mOp gIx (mVar 8) (mC (.int 0))) (mVar 1))) (el := mVar 8) (i := 8) (L := [some (.hdl st), some (.int m), none, none, none, none, none, none, none]) (O := O) (O1 := O) (d := .hdl q) (xs := C) (fun r => decide (r.1 = m)) rowP
    (by simp [runF, sSeq, sIf, sNext, sDrop, sRet, sRetN, sAsg, ofRes, ofB, bName, bNil, bCons, bTup, bLst, bSubL, mTest, mOp, mVar, mC, mChain, mAnd, mOr, mNot, mIf, mAndV, mOrV, mNotV, mNeg, mCons, mNil, mTup, mLst, newL, mCall, mFn, arity, g1, g2, gLen, gInt, gAbs, gMax2, gMin2, gIx, seqOf, lsqOf, lstOf, Res.bind, ofO, gAdd_ok, gSub_ok, gEq_int, gNe_int, gLt_int, gLe_int, gGt_int, gGe_int, gEq_bl, gNe_bl, gEq_str, gNe_str, mIsi, mIsiT, tyD, kitL, kitTab, atI_c0, atI_c1, atI_c2, atI_c3, atI_c4, sForR1, int1, int2, mMeth, mMake, mFld, sFldM, gIs, gIsNot, isNon_t, sRaise, gList, newLO, a.eo, lst_now, lst_land, lst_copy, lst_renew, lst_moved, lst_moment, lst_came, lst_coming, lst_table, lst_is_begun, lst_since, lst_span, lst_bar, lst_begin, lst_next_minute, lst_arrive, lst_go, lst_finish, lsf_land, lsf_now, lsf_came, lsf_coming, lsf_since, lsf_moment, lsp_land, lsp_now, lsp_came, lsp_coming, lsp_since, lsp_moment]) (by simp [lsqOf, lstOf, a.eq]) (by omega) (by simp) (fun r _ => by simp [runF, sSeq, sIf, sNext, sDrop, sRet, sRetN, sAsg, ofRes, ofB, bName, bNil, bCons, bTup, bLst, bSubL, mTest, mOp, mVar, mC, mChain, mAnd, mOr, mNot, mIf, mAndV, mOrV, mNotV, mNeg, mCons, mNil, mTup, mLst, newL, mCall, mFn, arity, g1, g2, gLen, gInt, gAbs, gMax2, gMin2, gIx, seqOf, lsqOf, lstOf, Res.bind, ofO, gAdd_ok, gSub_ok, gEq_int, gNe_int, gLt_int, gLe_int, gGt_int, gGe_int, gEq_bl, gNe_bl, gEq_str, gNe_str, mIsi, mIsiT, tyD, kitL, kitTab, atI_c0, atI_c1, atI_c2, atI_c3, atI_c4, sForR1, int1, int2, mMeth, mMake, mFld, sFldM, gIs, gIsNot, isNon_t, sRaise, gList, newLO]) fun r _ _ => by simp [runF, sSeq, sIf, sNext, sDrop, sRet, sRetN, sAsg, ofRes, ofB, bName, bNil, bCons, bTup, bLst, bSubL, mTest, mOp, mVar, mC, mChain, mAnd, mOr, mNot, mIf, mAndV, mOrV, mNotV, mNeg, mCons, mNil, mTup, mLst, newL, mCall, mFn, arity, g1, g2, gLen, gInt, gAbs, gMax2, gMin2, gIx, seqOf, lsqOf, lstOf, Res.bind, ofO, gAdd_ok, gSub_ok, gEq_int, gNe_int, gLt_int, gLe_int, gGt_int, gGe_int, gEq_bl, gNe_bl, gEq_str, gNe_str, mIsi, mIsiT, tyD, kitL, kitTab, atI_c0, atI_c1, atI_c2, atI_c3, atI_c4, sForR1, int1, int2, mMeth, mMake, mFld, sFldM, gIs, gIsNot, isNon_t, sRaise, gList, newLO]
  rw [newL_f (by rw [List.length_map]; omega)] at c1
  obtain ⟨F, hF⟩ : ∃ F, (C.filter fun r => decide (r.1 = m)) = F := ⟨_, rfl⟩
  rw [hF] at c1
  have sF : ∀ r ∈ sortC F, r.1 = m ∧ r.2.In w := fun r hr => by
    have h1 := (sortC_perm F).mem_iff.mp hr
    rw [← hF] at h1
    obtain ⟨h2, h3⟩ := List.mem_filter.mp h1
    exact ⟨of_decide_eq_true h3, hC r h2⟩
  have sl := sortC_len F
  have e1 : gSortD false O (.lst (F.map rowP)) = some (.lst ((sortC F).map rowP), O) := by
    rw [sortD_rows (C := F) rfl]
    simp [newLO]
    rw [← hF] at *
    omega
  have c2 := lc_all (hm := true) (enc := rowP) (src := mFld "State" "_coming" (mVar 0)) (tt := mTest (mOp gNe (mOp gIx (mVar 8) (mC (.int 0))) (mVar 1))) (el := mVar 8) (i := 8) (L := [some (.hdl st), some (.int m), some (.lst ((sortC F).map rowP)), none, none, none, none, none, none]) (O := O) (O1 := O) (d := .hdl q) (xs := C) (fun r => decide (r.1 ≠ m)) rowP
    (by generalize (sortC F).map rowP = zz; simp [runF, sSeq, sIf, sNext, sDrop, sRet, sRetN, sAsg, ofRes, ofB, bName, bNil, bCons, bTup, bLst, bSubL, mTest, mOp, mVar, mC, mChain, mAnd, mOr, mNot, mIf, mAndV, mOrV, mNotV, mNeg, mCons, mNil, mTup, mLst, newL, mCall, mFn, arity, g1, g2, gLen, gInt, gAbs, gMax2, gMin2, gIx, seqOf, lsqOf, lstOf, Res.bind, ofO, gAdd_ok, gSub_ok, gEq_int, gNe_int, gLt_int, gLe_int, gGt_int, gGe_int, gEq_bl, gNe_bl, gEq_str, gNe_str, mIsi, mIsiT, tyD, kitL, kitTab, atI_c0, atI_c1, atI_c2, atI_c3, atI_c4, sForR1, int1, int2, mMeth, mMake, mFld, sFldM, gIs, gIsNot, isNon_t, sRaise, gList, newLO, a.eo, lst_now, lst_land, lst_copy, lst_renew, lst_moved, lst_moment, lst_came, lst_coming, lst_table, lst_is_begun, lst_since, lst_span, lst_bar, lst_begin, lst_next_minute, lst_arrive, lst_go, lst_finish, lsf_land, lsf_now, lsf_came, lsf_coming, lsf_since, lsf_moment, lsp_land, lsp_now, lsp_came, lsp_coming, lsp_since, lsp_moment]) (by simp [lsqOf, lstOf, a.eq]) (by omega) (by simp) (fun r _ => by simp [runF, sSeq, sIf, sNext, sDrop, sRet, sRetN, sAsg, ofRes, ofB, bName, bNil, bCons, bTup, bLst, bSubL, mTest, mOp, mVar, mC, mChain, mAnd, mOr, mNot, mIf, mAndV, mOrV, mNotV, mNeg, mCons, mNil, mTup, mLst, newL, mCall, mFn, arity, g1, g2, gLen, gInt, gAbs, gMax2, gMin2, gIx, seqOf, lsqOf, lstOf, Res.bind, ofO, gAdd_ok, gSub_ok, gEq_int, gNe_int, gLt_int, gLe_int, gGt_int, gGe_int, gEq_bl, gNe_bl, gEq_str, gNe_str, mIsi, mIsiT, tyD, kitL, kitTab, atI_c0, atI_c1, atI_c2, atI_c3, atI_c4, sForR1, int1, int2, mMeth, mMake, mFld, sFldM, gIs, gIsNot, isNon_t, sRaise, gList, newLO]) fun r _ _ => by simp [runF, sSeq, sIf, sNext, sDrop, sRet, sRetN, sAsg, ofRes, ofB, bName, bNil, bCons, bTup, bLst, bSubL, mTest, mOp, mVar, mC, mChain, mAnd, mOr, mNot, mIf, mAndV, mOrV, mNotV, mNeg, mCons, mNil, mTup, mLst, newL, mCall, mFn, arity, g1, g2, gLen, gInt, gAbs, gMax2, gMin2, gIx, seqOf, lsqOf, lstOf, Res.bind, ofO, gAdd_ok, gSub_ok, gEq_int, gNe_int, gLt_int, gLe_int, gGt_int, gGe_int, gEq_bl, gNe_bl, gEq_str, gNe_str, mIsi, mIsiT, tyD, kitL, kitTab, atI_c0, atI_c1, atI_c2, atI_c3, atI_c4, sForR1, int1, int2, mMeth, mMake, mFld, sFldM, gIs, gIsNot, isNon_t, sRaise, gList, newLO]
  rw [newL_t (by rw [List.length_map]; omega)] at c2
  replace c2 : _ = Res.ok (D.hdl O.length) (O ++ [Ob.lst ((advC C m).map rowP)]) := c2
  have fA : Fz O (O ++ [Ob.lst ((advC C m).map rowP)]) := fz_app
  have gq : (O ++ [Ob.lst ((advC C m).map rowP)])[O.length]? = some (.lst ((advC C m).map rowP)) := by rw [List.getElem?_append_right (Nat.le_refl _)]; simp
  obtain ⟨OA, hOA⟩ : ∃ OA, O ++ [Ob.lst ((advC C m).map rowP)] = OA := ⟨_, rfl⟩
  rw [hOA] at c2 fA gq
  have eoA := fA.at a.eo
  have fB : Fy st c O (OA.set st (stO h now c O.length z mo)) := (Fz.fy fA).trans fy_a
  have eoB : (OA.set st (stO h now c O.length z mo))[st]? = some (stO h now c O.length z mo) := set_at eoA
  have ckv : (OA.set st (stO h now c O.length z mo))[c]? = some (.dct kv) := by rw [List.getElem?_set_ne ncs]; exact fA.at hkv
  have gqB : (OA.set st (stO h now c O.length z mo))[O.length]? = some (.lst ((advC C m).map rowP)) := by rw [List.getElem?_set_ne (by omega)]; exact gq
  have ezB : (OA.set st (stO h now c O.length z mo))[z]? = some (.dct kz) := by rw [List.getElem?_set_ne (Ne.symm nzs)]; exact fA.at a.ez
  obtain ⟨OB, hOB⟩ : ∃ OB, OA.set st (stO h now c O.length z mo) = OB := ⟨_, rfl⟩
  rw [hOB] at fB eoB ckv gqB ezB
  have selfB : OB.set c (.dct kv) = OB := List.ext_getElem? fun i => by
    by_cases cc : i = c
    · subst cc
      rw [set_at ckv, ckv]
    · rw [List.getElem?_set_ne (fun zz => cc zz.symm)]
  have laB := la.fy fB (bl.ne hst) (bl.ne hc)
  obtain ⟨L', O', e2, y3, y4, y5, y6, y7, kv', rfl, rfl, dk'⟩ := forL_keeps (m := mVar 2) (b := saG) (body := saB) (L := [some (.hdl st), some (.int m), some (.lst ((sortC F).map rowP)), none, none, none, none, none, none]) (O := OB) (O1 := OB) (ds := (sortC F).map rowP)
    (I := fun i L O' => ∃ (y3 y4 y5 y6 y7 : Option D) (kv' : List (Key × D)), L = [some (.hdl st), some (.int m), some (.lst ((sortC F).map rowP)), y3, y4, y5, y6, y7, none] ∧ O' = OB.set c (.dct kv') ∧ DKv (arrT τ (((sortC F).take i).map (·.2)) m) kv')
    rfl ⟨none, none, none, none, none, kv, rfl, selfB.symm, by
      show DKv (arrT τ [] m) kv
      rw [arr_nil]
      exact dk⟩ fun i d L O' hd ⟨y3, y4, y5, y6, y7, kv', hL, hO, dk'⟩ => by
      subst hL hO
      rw [List.getElem?_map] at hd
      obtain ⟨r, hr, rfl⟩ := Option.map_eq_some_iff.mp hd
      obtain ⟨rm, rin⟩ := sF r (List.mem_of_getElem? hr)
      have tk : arrT τ (((sortC F).take (i + 1)).map (·.2)) m = comeT (arrT τ (((sortC F).take i).map (·.2)) m) r.2 m := by
        rw [take_get hr, List.map_append]
        exact arr_snoc
      have dmi : Dom w (arrT τ (((sortC F).take i).map (·.2)) m) := dm.arr k.srt fun θ hθ => by
        obtain ⟨r, hr, rfl⟩ := List.mem_map.mp hθ
        exact (sF r (List.mem_of_mem_take hr)).2
      have eo1 : (OB.set c (.dct kv'))[st]? = some (stO h now c O.length z mo) := by rw [List.getElem?_set_ne (Ne.symm ncs)]; exact eoB
      have g1 : (OB.set c (.dct kv'))[c]? = some (.dct kv') := set_at ckv
      have la1 : LandAt h s l p v w (OB.set c (.dct kv')) := laB.set (bl.ne hc)
      obtain ⟨kv2, y6', y7', e3, dk2⟩ := sturn_ok (m := m) (θ := r.2) (y2 := some (.lst ((sortC F).map rowP))) (y3 := y3) (y4 := y4) (y5 := y5) (y6 := y6) (y7 := y7) (y8 := none) eo1 g1 dk' la1 k dmi rin bl hc ncs
      rw [List.set_set] at e3
      rw [← tk] at dk2
      have er : rowP r = rowP (m, r.2) := by rw [← rm]
      rw [er]
      exact ⟨_, _, e3, _, _, _, _, _, kv2, rfl, rfl, dk2⟩
  rw [List.length_map, List.take_length] at dk'
  have ep : arrT τ ((sortC F).map (·.2)) m = advT τ C m := by
    rw [arr_perm ((sortC_perm F).map _), ← hF]
    rfl
  rw [ep] at dk'
  have eoC : (OB.set c (.dct kv'))[st]? = some (stO h now c O.length z mo) := by rw [List.getElem?_set_ne (Ne.symm ncs)]; exact eoB
  have ckC : (OB.set c (.dct kv'))[c]? = some (.dct kv') := set_at ckv
  refine ⟨(OB.set c (.dct kv')).set st (stO h now c O.length z .non), ?_, ⟨set_at eoC, ⟨kv', by rw [List.getElem?_set_ne ncs]; exact ckC, dk'⟩, ?_, ?_, a.cz⟩, (fB.trans fy_b).trans fy_a⟩
  · simp only [f_state_arrive, b_state_arrive]
    generalize mLcL false _ [8] _ _ _ = l1 at c1 ⊢
    generalize mLcL true _ [8] _ _ _ = l2 at c2 ⊢
    generalize sForL (mVar 2) _ _ = sL at e2 ⊢
    generalize OB.set c (.dct kv') = OC at *
    generalize (sortC F).map rowP = z1 at *
    generalize F.map rowP = z2 at *
    simp [runF, sSeq, sIf, sNext, sDrop, sRet, sRetN, sAsg, ofRes, ofB, bName, bNil, bCons, bTup, bLst, bSubL, mTest, mOp, mVar, mC, mChain, mAnd, mOr, mNot, mIf, mAndV, mOrV, mNotV, mNeg, mCons, mNil, mTup, mLst, newL, mCall, mFn, arity, g1, g2, gLen, gInt, gAbs, gMax2, gMin2, gIx, seqOf, lsqOf, lstOf, Res.bind, ofO, gAdd_ok, gSub_ok, gEq_int, gNe_int, gLt_int, gLe_int, gGt_int, gGe_int, gEq_bl, gNe_bl, gEq_str, gNe_str, mIsi, mIsiT, tyD, kitL, kitTab, atI_c0, atI_c1, atI_c2, atI_c3, atI_c4, sForR1, int1, int2, mMeth, mMake, mFld, sFldM, gIs, gIsNot, isNon_t, sRaise, gList, newLO, a.eo, eoA, eoC, lst_now, lst_land, lst_copy, lst_renew, lst_moved, lst_moment, lst_came, lst_coming, lst_table, lst_is_begun, lst_since, lst_span, lst_bar, lst_begin, lst_next_minute, lst_arrive, lst_go, lst_finish, lsf_land, lsf_now, lsf_came, lsf_coming, lsf_since, lsf_moment, lsp_land, lsp_now, lsp_came, lsp_coming, lsp_since, lsp_moment, c1, c2, e1, e2, hOB]
  · rw [List.getElem?_set_ne (by omega), List.getElem?_set_ne (by omega)]
    exact gqB
  · rw [List.getElem?_set_ne (Ne.symm nzs), List.getElem?_set_ne a.cz]
    exact ezB
end
end DK.W
end
section
set_option Elab.async false
set_option linter.all false
set_option autoImplicit false
set_option maxRecDepth 100000
set_option maxHeartbeats 4000000
/-! DKStG: going on to a minute, in plain Lean. -/
namespace DK.W
open PySem L2 DK
/-- minute by minute, n of them from a on -/
def runT : Nat → Int → (Str → Option Int) → List Deed → (Str → Option Int) × List Deed
  | 0, _, τ, C => (τ, C)
  | n + 1, a, τ, C => runT n (a + 1) (advT τ C a) (advC C a)
theorem adv_none {τ : Str → Option Int} {C : List Deed} {a : Int} (h : ∀ r ∈ C, r.1 ≠ a) : advT τ C a = τ ∧ advC C a = C := by
  refine ⟨?_, List.filter_eq_self.mpr fun r hr => decide_eq_true (h r hr)⟩
  unfold advT
  rw [List.filter_eq_nil_iff.mpr fun r hr => by rw [decide_eq_false (h r hr)]; exact Bool.false_ne_true]
  exact arr_nil
theorem run_skip : ∀ (n : Nat) (a : Int) (τ : Str → Option Int) (C : List Deed), (∀ r ∈ C, a + (n : Int) ≤ r.1) → runT n a τ C = (τ, C)
  | 0, _, _, _, _ => rfl
  | n + 1, a, τ, C, h => by
    obtain ⟨e1, e2⟩ := adv_none (τ := τ) (C := C) (a := a) fun r hr => by have := h r hr; omega
    show runT n (a + 1) (advT τ C a) (advC C a) = _
    rw [e1, e2]
    exact run_skip n (a + 1) τ C fun r hr => by have := h r hr; omega
theorem run_add : ∀ (n k : Nat) (a : Int) (τ : Str → Option Int) (C : List Deed), runT (n + k) a τ C = runT k (a + (n : Int)) (runT n a τ C).1 (runT n a τ C).2
  | 0, k, a, τ, C => by simp [runT]
  | n + 1, k, a, τ, C => by
    rw [show n + 1 + k = (n + k) + 1 by omega]
    show runT (n + k) (a + 1) (advT τ C a) (advC C a) = _
    rw [run_add n k (a + 1)]
    show runT k (a + 1 + (n : Int)) _ _ = runT k (a + ((n + 1 : Nat) : Int)) _ _
    rw [show a + 1 + (n : Int) = a + ((n + 1 : Nat) : Int) by omega]
    rfl
theorem advC_in {C : List Deed} {a : Int} {r : Deed} (h : r ∈ advC C a) : r ∈ C ∧ r.1 ≠ a := by
  obtain ⟨h1, h2⟩ := List.mem_filter.mp h
  exact ⟨h1, of_decide_eq_true h2⟩
theorem adv_dom {w : Wd} {τ : Str → Option Int} {C : List Deed} {a : Int} (k : Srt w) (dm : Dom w τ) (hC : ∀ r ∈ C, r.2.In w) : Dom w (advT τ C a) := dm.arr k fun θ hθ => by
  obtain ⟨r, hr, rfl⟩ := List.mem_map.mp hθ
  exact hC r (List.mem_filter.mp hr).1
theorem run_keep {w : Wd} (k : Srt w) : ∀ (n : Nat) (a : Int) (τ : Str → Option Int) (C : List Deed), Dom w τ → (∀ r ∈ C, r.2.In w) → Dom w (runT n a τ C).1 ∧ (∀ r ∈ (runT n a τ C).2, r ∈ C ∧ (a ≤ r.1 → a + (n : Int) ≤ r.1)) ∧ (runT n a τ C).2.length ≤ C.length
  | 0, a, τ, C, dm, hC => ⟨dm, fun r hr => ⟨hr, fun h => by simpa using h⟩, Nat.le_refl _⟩
  | n + 1, a, τ, C, dm, hC => by
    obtain ⟨h1, h2, h3⟩ := run_keep k n (a + 1) (advT τ C a) (advC C a) (adv_dom k dm hC) fun r hr => hC r (advC_in hr).1
    refine ⟨h1, fun r hr => ?_, Nat.le_trans h3 (List.length_filter_le _ _)⟩
    obtain ⟨q1, q2⟩ := h2 r hr
    obtain ⟨q3, q4⟩ := advC_in q1
    exact ⟨q3, fun h => by have := q2 (by omega); omega⟩
abbrev goC : TM := (mAnd (mTru (mFld "State" "_coming" (mVar 0))) (mTest (mOp gLe (mOp gIx (mCall (g1 gMinD) (mCons (mFld "State" "_coming" (mVar 0)) mNil)) (mC (.int 0))) (mVar 1))))
abbrev goB : SM := (sSeq (sFldM "State" "_now" (mVar 0) (mOp gIx (mCall (g1 gMinD) (mCons (mFld "State" "_coming" (mVar 0)) mNil)) (mC (.int 0))))
    (sDrop (mMeth "State" "_arrive" (arity 2 f_state_arrive) [] (mVar 0) (mCons (mFld "State" "_now" (mVar 0)) mNil))))
section
variable {kz : List (Key × D)} {st h s l p v c z n0 : Nat} {w : Wd} {e : Int}
theorem MoOK.now {q : Nat} {now now' : Int} {τ : Str → Option Int} {C : List Deed} {mo : D} {O : Store} (a : StK kz st h c q z now τ C mo O) (m0 : MoOK mo h w τ O) : MoOK mo h w τ (O.set st (stO h now' c q z mo)) := by
  rcases m0 with m0 | ⟨m, r, R, e, k⟩
  · exact .inl m0
  · obtain ⟨kr, hkr, hri⟩ := k.rt
    have h1 : m ≠ st := fun zz => by
      have := a.eo
      rw [← zz, k.eo] at this
      cases this
    have h2 : r ≠ st := fun zz => by
      have := a.eo
      rw [← zz, hkr] at this
      cases this
    exact .inr ⟨m, r, R, e, ⟨by rw [List.getElem?_set_ne (Ne.symm h1)]; exact k.eo, ⟨kr, by rw [List.getElem?_set_ne (Ne.symm h2)]; exact hkr, hri⟩, k.mks, k.ro⟩⟩
theorem StK.nes {q : Nat} {now : Int} {τ : Str → Option Int} {C : List Deed} {mo : D} {O : Store} (a : StK kz st h c q z now τ C mo O) : c ≠ st ∧ q ≠ st ∧ z ≠ st := by
  refine ⟨fun zz => ?_, fun zz => ?_, fun zz => ?_⟩
  · have h1 := a.eo
    obtain ⟨kv, h2, _⟩ := a.ec
    rw [← zz, h2] at h1
    cases h1
  · have h1 := a.eo
    rw [← zz, a.eq] at h1
    cases h1
  · have h1 := a.eo
    rw [← zz, a.ez] at h1
    cases h1
theorem StK.now {q : Nat} {now now' : Int} {τ : Str → Option Int} {C : List Deed} {mo mo' : D} {O : Store} (a : StK kz st h c q z now τ C mo O) : StK kz st h c q z now' τ C mo' (O.set st (stO h now' c q z mo')) := by
  obtain ⟨n1, n2, n3⟩ := a.nes
  obtain ⟨kv, h2, h3⟩ := a.ec
  exact ⟨set_at a.eo, ⟨kv, by rw [List.getElem?_set_ne (Ne.symm n1)]; exact h2, h3⟩, by rw [List.getElem?_set_ne (Ne.symm n2)]; exact a.eq, by rw [List.getElem?_set_ne (Ne.symm n3)]; exact a.ez, a.cz⟩
theorem go_loop (k : WOK w) (bl : Below h s l p v n0) (hc : n0 ≤ c) (hst : n0 ≤ st) : ∀ (fuel N : Nat) (a : Int) (q : Nat) (now : Int) (τ : Str → Option Int) (C : List Deed) (mo : D) (O : Store), C.length < fuel → C.length ≤ N → N ≤ 1000 → StK kz st h c q z now τ C mo O → LandAt h s l p v w O → Dom w τ → (∀ r ∈ C, r.2.In w) → ((∀ r ∈ C, e < r.1) → MoOK mo h w τ O) → (∀ r ∈ C, a ≤ r.1) → a ≤ e + 1 →
    ∃ q' now' mo' O', (q' = q ∨ O.length ≤ q') ∧ loopW goC goB fuel [some (.hdl st), some (.int e)] O = .next [some (.hdl st), some (.int e)] O' ∧ StK kz st h c q' z now' (runT (e + 1 - a).toNat a τ C).1 (runT (e + 1 - a).toNat a τ C).2 mo' O' ∧ MoOK mo' h w (runT (e + 1 - a).toNat a τ C).1 O' ∧ Fy st c O O'
  | 0, _, _, _, _, _, _, _, _, hf, _, _, _, _, _, _, _, _, _ => by omega
  | f + 1, N, a, q, now, τ, C, mo, O, hf, hN, h1000, hA, la, dm, hC, m0, ha, hae => by
    by_cases hc0 : C = []
    · subst hc0
      have rs := run_skip (e + 1 - a).toNat a τ [] (fun r hr => nomatch hr)
      rw [rs]
      refine ⟨q, now, mo, O, .inl rfl, ?_, hA, m0 (fun r hr => nomatch hr), Fy.refl _⟩
      unfold loopW
      simp [goC, truD, mTru, runF, sSeq, sIf, sNext, sDrop, sRet, sRetN, sAsg, ofRes, ofB, bName, bNil, bCons, bTup, bLst, bSubL, mTest, mOp, mVar, mC, mChain, mAnd, mOr, mNot, mIf, mAndV, mOrV, mNotV, mNeg, mCons, mNil, mTup, mLst, newL, mCall, mFn, arity, g1, g2, gLen, gInt, gAbs, gMax2, gMin2, gIx, seqOf, lsqOf, lstOf, Res.bind, ofO, gAdd_ok, gSub_ok, gEq_int, gNe_int, gLt_int, gLe_int, gGt_int, gGe_int, gEq_bl, gNe_bl, gEq_str, gNe_str, mIsi, mIsiT, tyD, kitL, kitTab, atI_c0, atI_c1, atI_c2, atI_c3, atI_c4, sForR1, int1, int2, mMeth, mMake, mFld, sFldM, gIs, gIsNot, isNon_t, sRaise, gList, newLO, hA.eo, lst_now, lst_land, lst_copy, lst_renew, lst_moved, lst_moment, lst_came, lst_coming, lst_table, lst_is_begun, lst_since, lst_span, lst_bar, lst_begin, lst_next_minute, lst_arrive, lst_go, lst_finish, lsf_land, lsf_now, lsf_came, lsf_coming, lsf_since, lsf_moment, lsp_land, lsp_now, lsp_came, lsp_coming, lsp_since, lsp_moment, hA.eq]
    · obtain ⟨r, hr, em, hmin⟩ := min_ok (O := O) (d := .hdl q) (C := C) (by simp [lsqOf, lstOf, hA.eq]) hc0
      have hne : (C.map rowP).isEmpty = false := by
        cases C with
        | nil => exact absurd rfl hc0
        | cons x xs => rfl
      have ar := ha r hr
      by_cases cr : r.1 ≤ e
      · have hb : ∃ O1, goB [some (.hdl st), some (.int e)] O = .next [some (.hdl st), some (.int e)] O1 ∧ ∃ q1, O.length ≤ q1 ∧ StK kz st h c q1 z r.1 (advT τ C r.1) (advC C r.1) .non O1 ∧ Fy st c O O1 := by
          have A1 := hA.now (now' := r.1) (mo' := mo)
          have f1 : Fy st c O (O.set st (stO h r.1 c q z mo)) := fy_a
          have la1 := la.fy f1 (bl.ne hst) (bl.ne hc)
          obtain ⟨O2, e2, A2, f2⟩ := sarrive_ok (m := r.1) A1 la1 k dm hC (by omega) bl hc hst
          refine ⟨O2, ?_, _, by rw [List.length_set]; exact Nat.le_refl _, A2, f1.trans f2⟩
          have so := A1.eo
          generalize hO1 : O.set st (stO h r.1 c q z mo) = O1 at *
          simp [goB, runF, sSeq, sIf, sNext, sDrop, sRet, sRetN, sAsg, ofRes, ofB, bName, bNil, bCons, bTup, bLst, bSubL, mTest, mOp, mVar, mC, mChain, mAnd, mOr, mNot, mIf, mAndV, mOrV, mNotV, mNeg, mCons, mNil, mTup, mLst, newL, mCall, mFn, arity, g1, g2, gLen, gInt, gAbs, gMax2, gMin2, gIx, seqOf, lsqOf, lstOf, Res.bind, ofO, gAdd_ok, gSub_ok, gEq_int, gNe_int, gLt_int, gLe_int, gGt_int, gGe_int, gEq_bl, gNe_bl, gEq_str, gNe_str, mIsi, mIsiT, tyD, kitL, kitTab, atI_c0, atI_c1, atI_c2, atI_c3, atI_c4, sForR1, int1, int2, mMeth, mMake, mFld, sFldM, gIs, gIsNot, isNon_t, sRaise, gList, newLO, hA.eo, lst_now, lst_land, lst_copy, lst_renew, lst_moved, lst_moment, lst_came, lst_coming, lst_table, lst_is_begun, lst_since, lst_span, lst_bar, lst_begin, lst_next_minute, lst_arrive, lst_go, lst_finish, lsf_land, lsf_now, lsf_came, lsf_coming, lsf_since, lsf_moment, lsp_land, lsp_now, lsp_came, lsp_coming, lsp_since, lsp_moment, em, hO1, so, e2]
        obtain ⟨O1, eB, q1, hq1, A1, f1⟩ := hb
        have la1 := la.fy f1 (bl.ne hst) (bl.ne hc)
        have cl : (advC C r.1).length < C.length := List.length_filter_lt_length_iff_exists.mpr ⟨r, hr, by simp⟩
        obtain ⟨q', now', mo', O', hq', eL, A', m', f'⟩ := go_loop k bl hc hst f N (r.1 + 1) q1 r.1 (advT τ C r.1) (advC C r.1) .non O1 (by omega) (by omega) h1000 A1 la1 (adv_dom k.srt dm hC) (fun y hy => hC y (advC_in hy).1) (fun _ => .inl rfl) (fun y hy => by
          obtain ⟨y1, y2⟩ := advC_in hy
          have := hmin y y1
          omega) (by omega)
        have er : runT (e + 1 - a).toNat a τ C = runT (e + 1 - (r.1 + 1)).toNat (r.1 + 1) (advT τ C r.1) (advC C r.1) := by
          rw [show (e + 1 - a).toNat = (r.1 - a).toNat + ((e + 1 - (r.1 + 1)).toNat + 1) by omega, run_add, run_skip (r.1 - a).toNat a τ C fun y hy => by have := hmin y hy; omega]
          rw [show a + ((r.1 - a).toNat : Int) = r.1 by omega]
          rfl
        rw [er]
        have l1 := f1.1
        refine ⟨q', now', mo', O', by omega, ?_, A', m', f1.trans f'⟩
        have eC : goC [some (.hdl st), some (.int e)] O = .ok true O := by
          generalize C.map rowP = zz at *
          simp [goC, truD, mTru, runF, sSeq, sIf, sNext, sDrop, sRet, sRetN, sAsg, ofRes, ofB, bName, bNil, bCons, bTup, bLst, bSubL, mTest, mOp, mVar, mC, mChain, mAnd, mOr, mNot, mIf, mAndV, mOrV, mNotV, mNeg, mCons, mNil, mTup, mLst, newL, mCall, mFn, arity, g1, g2, gLen, gInt, gAbs, gMax2, gMin2, gIx, seqOf, lsqOf, lstOf, Res.bind, ofO, gAdd_ok, gSub_ok, gEq_int, gNe_int, gLt_int, gLe_int, gGt_int, gGe_int, gEq_bl, gNe_bl, gEq_str, gNe_str, mIsi, mIsiT, tyD, kitL, kitTab, atI_c0, atI_c1, atI_c2, atI_c3, atI_c4, sForR1, int1, int2, mMeth, mMake, mFld, sFldM, gIs, gIsNot, isNon_t, sRaise, gList, newLO, hA.eo, lst_now, lst_land, lst_copy, lst_renew, lst_moved, lst_moment, lst_came, lst_coming, lst_table, lst_is_begun, lst_since, lst_span, lst_bar, lst_begin, lst_next_minute, lst_arrive, lst_go, lst_finish, lsf_land, lsf_now, lsf_came, lsf_coming, lsf_since, lsf_moment, lsp_land, lsp_now, lsp_came, lsp_coming, lsp_since, lsp_moment, hA.eq, hne, hc0, em, cr]
        unfold loopW
        rw [eC]
        show (match goB _ O with
          | .next L2 O2 => loopW goC goB f L2 O2
          | .cnt L2 O2 => loopW goC goB f L2 O2
          | .brk L2 O2 => .next L2 O2
          | .ret d O2 => .ret d O2
          | .exc x L2 O2 => .exc x L2 O2
          | .bad => .bad) = _
        rw [eB]
        exact eL
      · have rs := run_skip (e + 1 - a).toNat a τ C (fun y hy => by have := hmin y hy; omega)
        rw [rs]
        refine ⟨q, now, mo, O, .inl rfl, ?_, hA, m0 (fun y hy => by have := hmin y hy; omega), Fy.refl _⟩
        unfold loopW
        generalize C.map rowP = zz at *
        simp [goC, truD, mTru, runF, sSeq, sIf, sNext, sDrop, sRet, sRetN, sAsg, ofRes, ofB, bName, bNil, bCons, bTup, bLst, bSubL, mTest, mOp, mVar, mC, mChain, mAnd, mOr, mNot, mIf, mAndV, mOrV, mNotV, mNeg, mCons, mNil, mTup, mLst, newL, mCall, mFn, arity, g1, g2, gLen, gInt, gAbs, gMax2, gMin2, gIx, seqOf, lsqOf, lstOf, Res.bind, ofO, gAdd_ok, gSub_ok, gEq_int, gNe_int, gLt_int, gLe_int, gGt_int, gGe_int, gEq_bl, gNe_bl, gEq_str, gNe_str, mIsi, mIsiT, tyD, kitL, kitTab, atI_c0, atI_c1, atI_c2, atI_c3, atI_c4, sForR1, int1, int2, mMeth, mMake, mFld, sFldM, gIs, gIsNot, isNon_t, sRaise, gList, newLO, hA.eo, lst_now, lst_land, lst_copy, lst_renew, lst_moved, lst_moment, lst_came, lst_coming, lst_table, lst_is_begun, lst_since, lst_span, lst_bar, lst_begin, lst_next_minute, lst_arrive, lst_go, lst_finish, lsf_land, lsf_now, lsf_came, lsf_coming, lsf_since, lsf_moment, lsp_land, lsp_now, lsp_came, lsp_coming, lsp_since, lsp_moment, hA.eq, hne, hc0, em, cr]
theorem go_ok {q : Nat} {now : Int} {τ : Str → Option Int} {C : List Deed} {mo : D} {O : Store} (k : WOK w) (bl : Below h s l p v n0) (hc : n0 ≤ c) (hst : n0 ≤ st) (hA : StK kz st h c q z now τ C mo O) (la : LandAt h s l p v w O) (dm : Dom w τ) (hC : ∀ r ∈ C, r.2.In w) (m0 : (∀ r ∈ C, e < r.1) → MoOK mo h w τ O) (hl : C.length ≤ 900) (ha : ∀ r ∈ C, now ≤ r.1) (h0 : now ≤ e) (h1 : e ≤ 10 ^ 12) :
    ∃ q' mo' O', (q' = q ∨ O.length ≤ q') ∧ f_state_go [.hdl st, .int e] O = .ok .non O' ∧ StK kz st h c q' z e (runT (e + 1 - now).toNat now τ C).1 (runT (e + 1 - now).toNat now τ C).2 mo' O' ∧ MoOK mo' h w (runT (e + 1 - now).toNat now τ C).1 O' ∧ Fy st c O O' := by
  obtain ⟨q', now', mo', O', hq', eL, A', m', f'⟩ := go_loop (e := e) k bl hc hst 1000 900 now q now τ C mo O (by omega) hl (by omega) hA la dm hC m0 ha (by omega)
  have A2 := A'.now (now' := e) (mo' := mo')
  refine ⟨q', mo', O'.set st (stO h e c q' z mo'), hq', ?_, A2, m'.now A', f'.trans fy_a⟩
  have ck : ∀ O, f_checked_number [.int e, .int now, .int 1000000000000] O = .ok (.int e) O := fun O => by
    rw [chk_is]
    exact chk_yes h0 (by omega)
  have pw : ∀ O, gPow O (.int 10) (.int 12) = some (.int 1000000000000, O) := fun _ => rfl
  have ew : sWhile 1000 goC goB [some (.hdl st), some (.int e)] O = .next [some (.hdl st), some (.int e)] O' := eL
  simp only [f_state_go, b_state_go]
  generalize sWhile 1000 _ _ = sW at ew ⊢
  simp [runF, sSeq, sIf, sNext, sDrop, sRet, sRetN, sAsg, ofRes, ofB, bName, bNil, bCons, bTup, bLst, bSubL, mTest, mOp, mVar, mC, mChain, mAnd, mOr, mNot, mIf, mAndV, mOrV, mNotV, mNeg, mCons, mNil, mTup, mLst, newL, mCall, mFn, arity, g1, g2, gLen, gInt, gAbs, gMax2, gMin2, gIx, seqOf, lsqOf, lstOf, Res.bind, ofO, gAdd_ok, gSub_ok, gEq_int, gNe_int, gLt_int, gLe_int, gGt_int, gGe_int, gEq_bl, gNe_bl, gEq_str, gNe_str, mIsi, mIsiT, tyD, kitL, kitTab, atI_c0, atI_c1, atI_c2, atI_c3, atI_c4, sForR1, int1, int2, mMeth, mMake, mFld, sFldM, gIs, gIsNot, isNon_t, sRaise, gList, newLO, hA.eo, A'.eo, lst_now, lst_land, lst_copy, lst_renew, lst_moved, lst_moment, lst_came, lst_coming, lst_table, lst_is_begun, lst_since, lst_span, lst_bar, lst_begin, lst_next_minute, lst_arrive, lst_go, lst_finish, lsf_land, lsf_now, lsf_came, lsf_coming, lsf_since, lsf_moment, lsp_land, lsp_now, lsp_came, lsp_coming, lsp_since, lsp_moment, pw, ck, ew]
end
end DK.W
end
section
set_option Elab.async false
set_option linter.all false
set_option autoImplicit false
set_option maxRecDepth 100000
set_option maxHeartbeats 4000000
/-! DKStH: a state made and copied, deeds begun, in plain Lean. -/
namespace DK.W
open PySem L2 DK
section
variable {kz : List (Key × D)} {σ : Str → Int} {st h s l p v c q z n0 : Nat} {now : Int} {τ : Str → Option Int} {C : List Deed} {mo : D} {w : Wd} {O : Store} {θ : Th}
theorem app_at {O J : Store} {i : Nat} : (O ++ J)[O.length + i]? = J[i]? := by rw [List.getElem?_append_right (by omega), show O.length + i - O.length = i by omega]
theorem app_at0 {O J : Store} : (O ++ J)[O.length]? = J[0]? := by rw [List.getElem?_append_right (Nat.le_refl _), Nat.sub_self]
/-! ### deeds begun -/
theorem bar_done (hb : isNon (barW w τ C now θ) = true) : ∃ t, doneT now θ = some t := by
  unfold barW barV at hb
  cases hc : begunB τ C θ.n with
  | true => rw [hc] at hb; simp [isNon] at hb
  | false =>
    rw [hc] at hb
    cases hf : fedW w τ θ with
    | false =>
      rw [hf] at hb
      cases hl : litB (litOf w (Tl w τ)) θ <;> rw [hl] at hb <;> simp [isNon] at hb
    | true =>
      rw [hf] at hb
      have dn := done_none (now := now) (θ := θ)
      cases hco : coolT now θ with
      | true => rw [hco] at hb; simp [isNon] at hb
      | false =>
        rw [hco] at dn
        cases hd : doneT now θ with
        | none => rw [hd] at dn; cases dn
        | some t => exact ⟨t, rfl⟩
end
end DK.W
end
section
set_option Elab.async false
set_option linter.all false
set_option autoImplicit false
set_option maxRecDepth 100000
set_option maxHeartbeats 4000000
/-! DKPlA: deeds in order; what minutes bring, whatever the order, in plain Lean. -/
namespace DK.W
open PySem L2 DK
/-! ### order -/
/-! ### order does not matter on the way -/
/-- it can be begun -/
noncomputable def canB (w : Wd) (τ : Str → Option Int) (C : List Deed) (m : Int) (θ : Th) : Bool := isNon (barW w τ C m θ)
end DK.W
end
section
set_option Elab.async false
set_option linter.all false
set_option autoImplicit false
set_option maxRecDepth 100000
set_option maxHeartbeats 4000000
/-! DKVals: sorted(d.values()), by mirrors. -/
namespace DK
open PySem PySem.Calls PySem.Spec PyProof.Rows L2 PySem.W
end DK
end
section
set_option Elab.async false
set_option linter.all false
set_option autoImplicit false
set_option maxRecDepth 100000
set_option maxHeartbeats 4000000
/-! DKR3: rows of a minute and two names: in order, and the least of them, in plain Lean. -/
namespace DK.W
open PySem L2 DK
end DK.W
end
section
set_option Elab.async false
set_option linter.all false
set_option autoImplicit false
set_option maxRecDepth 100000
set_option maxHeartbeats 4000000
/-! DKRn: rows of any alike data: in order, and the least of them; comprehensions of rows, in plain Lean. -/
namespace DK.W
open PySem L2 DK
/-- a kind of rows -/
structure RowK (α : Type) where
  d : α → D
  enc : α → PyData
  dp : ∀ (O : Store) (r : α), deep O 20 (d r) = some (enc r)
  al : ∀ a b, PySem.W.alike (enc a) (enc b) = true
  tp : ∀ a, isTup1 (enc a) = true
  de : ∀ a, (enc a).depth ≤ 40
  inj : ∀ a b, PySem.W.keyToks (enc a) = PySem.W.keyToks (enc b) → a = b
section
variable {α : Type} (K : RowK α)
def RowK.le (a b : α) : Bool := PySem.W.dataLe false K.enc a b
theorem RowK.encD (O : Store) (r : α) : encD O (K.d r) = K.enc r := by
  unfold DK.encD
  rw [K.dp]
  rfl
theorem RowK.map_enc {O : Store} (C : List α) : (C.map K.d).map (DK.encD O) = C.map K.enc := by
  rw [List.map_map]
  exact List.map_congr_left fun r _ => K.encD O r
theorem RowK.alikes (C : List α) : alikeB (C.map K.enc) = true := by
  unfold alikeB
  rw [List.all_eq_true]
  intro x hx
  obtain ⟨a, _, rfl⟩ := List.mem_map.mp hx
  rw [List.all_eq_true]
  intro y hy
  obtain ⟨b, _, rfl⟩ := List.mem_map.mp hy
  exact K.al a b
theorem RowK.sortB (C : List α) : DK.sortB (C.map K.enc) = true := by
  unfold DK.sortB
  rw [Bool.or_eq_true_iff]
  left
  rw [List.all_eq_true]
  intro x hx
  obtain ⟨a, _, rfl⟩ := List.mem_map.mp hx
  exact K.tp a
theorem RowK.le_trans (a b c : α) (h1 : K.le a b = true) (h2 : K.le b c = true) : K.le a c = true := (PySem.W.sortLe_total (PyProof.Rows.listOrd PyProof.Rows.itemOrd) false fun b => PySem.W.keyToks (K.enc b)).trans a b c h1 h2
theorem RowK.le_total (a b : α) : (K.le a b || K.le b a) = true := Bool.or_eq_true_iff.mpr ((PySem.W.sortLe_total (PyProof.Rows.listOrd PyProof.Rows.itemOrd) false fun b => PySem.W.keyToks (K.enc b)).total a b)
theorem RowK.le_lt {a b : α} : K.le a b = !PySem.W.dataLt (K.enc b) (K.enc a) := rfl
theorem RowK.le_self (a : α) : K.le a a = true := by
  have := K.le_total a a
  rwa [Bool.or_self] at this
end
/-! ### comprehensions -/
theorem forHK {m : EM} {b : BM} {body : SM} {n : Nat} {xs : List D} {I : Nat → Loc → Store → Prop} {L : Loc} {O O1 : Store} (hm : m L O = .ok (.hdl n) O1) (e : O1[n]? = some (.lst xs)) (ho : ∀ j L O, I j L O → O[n]? = some (.lst xs)) (hI : I 0 L O1)
    (st : ∀ j d L O, xs[j]? = some d → I j L O → ∃ L' O', turnOf b body d L O = .next L' O' ∧ I (j + 1) L' O') : ∃ L' O', sForL m b body L O = .next L' O' ∧ I xs.length L' O' := by
  obtain ⟨L', O', e1, h⟩ := loopH_keeps (turn := turnOf b body) ho xs.length 0 L O1 (by omega) hI st
  refine ⟨L', O', ?_, h⟩
  show ofRes L (m L O) _ = _
  rw [hm]
  show (match O1[n]? with | some (.lst xs) => loopH (turnOf b body) n xs.length 0 L O1 | _ => .bad) = _
  rw [e]
  exact e1
end DK.W
end
section
set_option Elab.async false
set_option linter.all false
set_option autoImplicit false
set_option maxRecDepth 100000
set_option maxHeartbeats 4000000
/-! mirrors that many laws share: printed by mirrors.py. -/
namespace DK.W
open PySem L2 DK
def b_named : SM := (sSeq (sIf (mTest (mOp gEq (mVar 1) (mC (.str "station")))) (sRet (mMeth "Land" "stations" (arity 1 f_land_stations) [] (mVar 0) mNil)) sNext)
    (sSeq (sIf (mTest (mOp gEq (mVar 1) (mC (.str "line")))) (sRet (mMeth "Land" "lines" (arity 1 f_land_lines) [] (mVar 0) mNil)) sNext)
    (sRet (mMeth "Land" "plants" (arity 1 f_land_plants) [] (mVar 0) mNil))))
def f_named : FM := runF 2 b_named
def b_table_init : SM := (sSeq (sFldM "Table" "_rows" (mVar 0) (mLst true mNil))
    (sSeq (sForT (mC (.tup [.str "station", .str "line", .str "plant"])) (bName 3) (sForL (mFn (arity 2 f_named) [] (mCons (mVar 1) (mCons (mVar 3) mNil))) (bName 4) (sSeq (sAsg (mDGet1 (mVar 2) (mVar 4)) (bName 5))
    (sSeq (sIf (mAnd (mTest (mOp gIsNot (mVar 5) (mC .non))) (mNot (mTest (mFn (arity 3 f_is_number) [] (mCons (mVar 5) (mCons (mC (.int 0)) (mCons (mOp gPow (mC (.int 10)) (mC (.int 12))) mNil))))))) (sRaise "InvalidPaper" (mCons (mC (.str "no minute")) mNil)) sNext)
    (sDrop (mApp (mFld "Table" "_rows" (mVar 0)) (mTup (mCons (mVar 3) (mCons (mVar 4) (mCons (mVar 5) mNil))))))))))
    (sSeq (sIf (mTest (mOp gGt (mCall (g1 gLen) (mCons (mLcD false (mVar 2) [4] (bName 4) (mTest (mOp gIs (mMeth "Land" "kind" (arity 2 f_land_kind) [] (mVar 1) (mCons (mVar 4) mNil)) (mC .non))) (mVar 4)) mNil)) (mC (.int 0)))) (sRaise "InvalidPaper" (mCons (mC (.str "an unknown name")) mNil)) sNext)
    (sSeq (sFldM "Table" "_minutes" (mVar 0) mDNew)
    (sForL (mFld "Table" "_rows" (mVar 0)) (bTup 3 (bCons (bName 3) (bCons (bName 4) (bCons (bName 5) bNil)))) (sDPutM (mFld "Table" "_minutes" (mVar 0)) (mVar 4) (mTup (mCons (mVar 3) (mCons (mVar 5) mNil)))))))))
def f_table_init : FM := runF 6 b_table_init
def b_table_rows : SM := (sRet (mCall (g1 (gList true)) (mCons (mFld "Table" "_rows" (mVar 0)) mNil)))
def f_table_rows : FM := runF 1 b_table_rows
end DK.W
end
section
set_option Elab.async false
set_option linter.all false
set_option autoImplicit false
set_option maxRecDepth 100000
set_option maxHeartbeats 4000000
/-! DKTbA: a table is made, in plain Lean. -/
namespace DK.W
open PySem L2 DK
/-! ### rows -/
abbrev Row := Str × Str × Option Int
abbrev rowD (r : Row) : D := .tup [.str r.1, .str r.2.1, optI r.2.2]
abbrev minD (r : Row) : D := .tup [.str r.1, optI r.2.2]
def rowsK (kd : Str) (xs : List Str) (M : Str → Option Int) : List Row := xs.map fun x => (kd, x, M x)
def rowsW (w : Wd) (M : Str → Option Int) : List Row := (rowsK "station" w.st M ++ rowsK "line" (w.ls.map (·.n)) M) ++ rowsK "plant" (w.ps.map (·.n)) M
theorem rowsK_len {kd : Str} {xs : List Str} {M : Str → Option Int} : (rowsK kd xs M).length = xs.length := List.length_map _
theorem rowsK_nm {kd : Str} {xs : List Str} {M : Str → Option Int} : (rowsK kd xs M).map (·.2.1) = xs := by
  unfold rowsK
  rw [List.map_map]
  exact List.map_id _
theorem rowsW_nm {w : Wd} {M : Str → Option Int} : (rowsW w M).map (·.2.1) = nmsW w := by
  unfold rowsW nmsW
  rw [List.map_append, List.map_append, rowsK_nm, rowsK_nm, rowsK_nm]
theorem rowsW_len {w : Wd} {M : Str → Option Int} : (rowsW w M).length = (nmsW w).length := by rw [← rowsW_nm (M := M), List.length_map]
theorem kind_in {w : Wd} {x : Str} : kindD w x = .non ↔ x ∉ nmsW w := by
  unfold kindD nmsW
  rw [List.mem_append, List.mem_append]
  by_cases c1 : x ∈ w.st
  · rw [if_pos c1]
    exact ⟨(fun z => nomatch z), fun z => absurd (.inl (.inl c1)) z⟩
  · rw [if_neg c1]
    by_cases c2 : x ∈ w.ls.map (·.n)
    · rw [if_pos c2]
      exact ⟨(fun z => nomatch z), fun z => absurd (.inl (.inr c2)) z⟩
    · rw [if_neg c2]
      by_cases c3 : x ∈ w.ps.map (·.n)
      · rw [if_pos c3]
        exact ⟨(fun z => nomatch z), fun z => absurd (.inr c3) z⟩
      · rw [if_neg c3]
        exact ⟨fun _ z => z.elim (fun z => z.elim c1 c2) c3, fun _ => rfl⟩
/-! ### minutes handed in -/
structure Mins (kvs : List (Key × D)) (M : Str → Option Int) (ns : List Str) : Prop where
  v : ∀ x, (valD kvs (.inr x)).getD .non = optI (M x)
  k : ∃ ks : List Str, kvs.map (·.1) = ks.map Sum.inr ∧ ∀ x ∈ ks, x ∈ ns
  b : ∀ x i, M x = some i → 0 ≤ i ∧ i ≤ 10 ^ 12
  l : kvs.length ≤ 1000
abbrev tab1 (n : Nat) : Ob := .ins "Table" [("_rows", .hdl (n + 1))]
abbrev tabO (n : Nat) : Ob := .ins "Table" [("_rows", .hdl (n + 1)), ("_minutes", .hdl (n + 2))]
abbrev inB : SM := (sSeq (sAsg (mDGet1 (mVar 2) (mVar 4)) (bName 5))
    (sSeq (sIf (mAnd (mTest (mOp gIsNot (mVar 5) (mC .non))) (mNot (mTest (mFn (arity 3 f_is_number) [] (mCons (mVar 5) (mCons (mC (.int 0)) (mCons (mOp gPow (mC (.int 10)) (mC (.int 12))) mNil))))))) (sRaise "InvalidPaper" (mCons (mC (.str "no minute")) mNil)) sNext)
    (sDrop (mApp (mFld "Table" "_rows" (mVar 0)) (mTup (mCons (mVar 3) (mCons (mVar 4) (mCons (mVar 5) mNil))))))))
theorem isnum_yes {O : Store} {v a c : Int} (h0 : a ≤ v) (h1 : v ≤ c) : f_is_number [.int v, .int a, .int c] O = .ok (.bl true) O := by
  simp [f_is_number, b_is_number, runF, sSeq, sIf, sNext, sDrop, sRet, sRetN, sAsg, ofRes, ofB, bName, bNil, bCons, bTup, bLst, bSubL, mTest, mOp, mVar, mC, mChain, mAnd, mOr, mNot, mIf, mAndV, mOrV, mNotV, mNeg, mCons, mNil, mTup, mLst, newL, mCall, mFn, arity, g1, g2, gLen, gInt, gAbs, gMax2, gMin2, gIx, seqOf, lsqOf, lstOf, Res.bind, ofO, gAdd_ok, gSub_ok, gEq_int, gNe_int, gLt_int, gLe_int, gGt_int, gGe_int, gEq_bl, gNe_bl, gEq_str, gNe_str, mIsi, mIsiT, tyD, kitL, kitTab, atI_c0, atI_c1, atI_c2, atI_c3, atI_c4, sForR1, int1, int2, mMeth, mMake, mFld, sFldM, gIs, gIsNot, isNon_t, sRaise, gList, newLO, h0, h1]
theorem tr1 {a : D} : List.lookup ("_rows" : Str) [(("_rows" : Str), a)] = some a := rfl
section
variable {h s l p v m : Nat} {w : Wd} {O : Store} {kvs : List (Key × D)} {M : Str → Option Int} {ns : List Str}
/-- the rows of one kind -/
theorem inner_ok {kd : Str} {xs : List Str} {acc : List D} {y4 y5 : Option D} (hm : O[m]? = some (.dct kvs)) (K : ∀ x ∈ xs, (valD kvs (.inr x)).getD .non = optI (M x)) (B : ∀ x i, M x = some i → 0 ≤ i ∧ i ≤ 10 ^ 12)
    (e : f_named [.hdl h, .str kd] (O ++ [tab1 O.length, .lst acc]) = .ok (.lst (xs.map .str)) (O ++ [tab1 O.length, .lst acc])) (hl : acc.length + xs.length ≤ 1000) :
    ∃ y4' y5', sForL (mFn (arity 2 f_named) [] (mCons (mVar 1) (mCons (mVar 3) mNil))) (bName 4) inB [some (.hdl O.length), some (.hdl h), some (.hdl m), some (.str kd), y4, y5] (O ++ [tab1 O.length, .lst acc])
      = .next [some (.hdl O.length), some (.hdl h), some (.hdl m), some (.str kd), y4', y5'] (O ++ [tab1 O.length, .lst (acc ++ (rowsK kd xs M).map rowD)]) := by
  have mlt := (List.getElem?_eq_some_iff.mp hm).1
  obtain ⟨L', O', e1, y4', y5', rfl, rfl⟩ := forL_keeps (m := mFn (arity 2 f_named) [] (mCons (mVar 1) (mCons (mVar 3) mNil))) (b := bName 4) (body := inB) (L := [some (.hdl O.length), some (.hdl h), some (.hdl m), some (.str kd), y4, y5]) (O := O ++ [tab1 O.length, .lst acc]) (O1 := O ++ [tab1 O.length, .lst acc]) (ds := xs.map .str)
    (I := fun i L O' => ∃ y4 y5 : Option D, L = [some (.hdl O.length), some (.hdl h), some (.hdl m), some (.str kd), y4, y5] ∧ O' = O ++ [tab1 O.length, .lst (acc ++ (rowsK kd (xs.take i) M).map rowD)])
    (by simp [runF, sSeq, sIf, sNext, sDrop, sRet, sRetN, sAsg, ofRes, ofB, bName, bNil, bCons, bTup, bLst, bSubL, mTest, mOp, mVar, mC, mChain, mAnd, mOr, mNot, mIf, mAndV, mOrV, mNotV, mNeg, mCons, mNil, mTup, mLst, newL, mCall, mFn, arity, g1, g2, gLen, gInt, gAbs, gMax2, gMin2, gIx, seqOf, lsqOf, lstOf, Res.bind, ofO, gAdd_ok, gSub_ok, gEq_int, gNe_int, gLt_int, gLe_int, gGt_int, gGe_int, gEq_bl, gNe_bl, gEq_str, gNe_str, mIsi, mIsiT, tyD, kitL, kitTab, atI_c0, atI_c1, atI_c2, atI_c3, atI_c4, sForR1, int1, int2, mMeth, mMake, mFld, sFldM, gIs, gIsNot, isNon_t, sRaise, gList, newLO, e]) ⟨y4, y5, rfl, by simp [rowsK]⟩ fun i d L O' hd ⟨y4, y5, hL, hO⟩ => by
      subst hL hO
      rw [List.getElem?_map] at hd
      obtain ⟨x, hx, rfl⟩ := Option.map_eq_some_iff.mp hd
      have hi := (List.getElem?_eq_some_iff.mp hx).1
      have kx := K x (List.mem_of_getElem? hx)
      have tk : (rowsK kd (xs.take (i + 1)) M).map rowD = (rowsK kd (xs.take i) M).map rowD ++ [rowD (kd, x, M x)] := by
        rw [take_snoc hx]
        unfold rowsK
        rw [List.map_append, List.map_append]
        rfl
      have al : (acc ++ (rowsK kd (xs.take i) M).map rowD).length ≤ 1000000 := by
        rw [List.length_append, List.length_map, rowsK_len, List.length_take]
        omega
      rw [tk, ← List.append_assoc]
      generalize acc ++ (rowsK kd (xs.take i) M).map rowD = zs at *
      have g1 : (O ++ [tab1 O.length, Ob.lst zs])[m]? = some (.dct kvs) := by rw [List.getElem?_append_left mlt]; exact hm
      have g2 : (O ++ [tab1 O.length, Ob.lst zs])[O.length]? = some (tab1 O.length) := by rw [List.getElem?_append_right (Nat.le_refl _)]; simp
      have g3 : (O ++ [tab1 O.length, Ob.lst zs])[O.length + 1]? = some (.lst zs) := by rw [List.getElem?_append_right (by omega)]; simp
      have st : (O ++ [tab1 O.length, Ob.lst zs]).set (O.length + 1) (.lst (zs ++ [rowD (kd, x, M x)])) = O ++ [tab1 O.length, .lst (zs ++ [rowD (kd, x, M x)])] := by
        rw [List.set_append_right _ _ (by omega), show O.length + 1 - O.length = 1 by omega]
        rfl
      have ea : mApp (mFld "Table" "_rows" (mVar 0)) (mTup (mCons (mVar 3) (mCons (mVar 4) (mCons (mVar 5) mNil)))) [some (.hdl O.length), some (.hdl h), some (.hdl m), some (.str kd), some (.str x), some (optI (M x))] (O ++ [tab1 O.length, Ob.lst zs]) = .ok .non (O ++ [tab1 O.length, .lst (zs ++ [rowD (kd, x, M x)])]) := by
        rw [← st]
        exact app_ok (O1 := O ++ [tab1 O.length, Ob.lst zs]) (O2 := O ++ [tab1 O.length, Ob.lst zs]) (xs0 := zs) (by simp [runF, sSeq, sIf, sNext, sDrop, sRet, sRetN, sAsg, ofRes, ofB, bName, bNil, bCons, bTup, bLst, bSubL, mTest, mOp, mVar, mC, mChain, mAnd, mOr, mNot, mIf, mAndV, mOrV, mNotV, mNeg, mCons, mNil, mTup, mLst, newL, mCall, mFn, arity, g1, g2, gLen, gInt, gAbs, gMax2, gMin2, gIx, seqOf, lsqOf, lstOf, Res.bind, ofO, gAdd_ok, gSub_ok, gEq_int, gNe_int, gLt_int, gLe_int, gGt_int, gGe_int, gEq_bl, gNe_bl, gEq_str, gNe_str, mIsi, mIsiT, tyD, kitL, kitTab, atI_c0, atI_c1, atI_c2, atI_c3, atI_c4, sForR1, int1, int2, mMeth, mMake, mFld, sFldM, gIs, gIsNot, isNon_t, sRaise, gList, newLO, g2, tr1]) g3 (by simp [runF, sSeq, sIf, sNext, sDrop, sRet, sRetN, sAsg, ofRes, ofB, bName, bNil, bCons, bTup, bLst, bSubL, mTest, mOp, mVar, mC, mChain, mAnd, mOr, mNot, mIf, mAndV, mOrV, mNotV, mNeg, mCons, mNil, mTup, mLst, newL, mCall, mFn, arity, g1, g2, gLen, gInt, gAbs, gMax2, gMin2, gIx, seqOf, lsqOf, lstOf, Res.bind, ofO, gAdd_ok, gSub_ok, gEq_int, gNe_int, gLt_int, gLe_int, gGt_int, gGe_int, gEq_bl, gNe_bl, gEq_str, gNe_str, mIsi, mIsiT, tyD, kitL, kitTab, atI_c0, atI_c1, atI_c2, atI_c3, atI_c4, sForR1, int1, int2, mMeth, mMake, mFld, sFldM, gIs, gIsNot, isNon_t, sRaise, gList, newLO]) g3 al
      refine ⟨[some (.hdl O.length), some (.hdl h), some (.hdl m), some (.str kd), some (.str x), some (optI (M x))], _, ?_, some (.str x), some (optI (M x)), rfl, rfl⟩
      generalize O ++ [tab1 O.length, .lst (zs ++ [rowD (kd, x, M x)])] = O2 at *
      generalize O ++ [tab1 O.length, Ob.lst zs] = O1 at *
      have pw : gPow O1 (.int 10) (.int 12) = some (.int 1000000000000, O1) := rfl
      simp only [turnOf, inB]
      generalize mApp (mFld "Table" "_rows" (mVar 0)) _ = aE at ea ⊢
      cases hM : M x with
      | none =>
        rw [hM] at kx ea
        simp only [optI] at kx ea
        simp [mDGet1, dctOf, keyD, isNon, runF, sSeq, sIf, sNext, sDrop, sRet, sRetN, sAsg, ofRes, ofB, bName, bNil, bCons, bTup, bLst, bSubL, mTest, mOp, mVar, mC, mChain, mAnd, mOr, mNot, mIf, mAndV, mOrV, mNotV, mNeg, mCons, mNil, mTup, mLst, newL, mCall, mFn, arity, g1, g2, gLen, gInt, gAbs, gMax2, gMin2, gIx, seqOf, lsqOf, lstOf, Res.bind, ofO, gAdd_ok, gSub_ok, gEq_int, gNe_int, gLt_int, gLe_int, gGt_int, gGe_int, gEq_bl, gNe_bl, gEq_str, gNe_str, mIsi, mIsiT, tyD, kitL, kitTab, atI_c0, atI_c1, atI_c2, atI_c3, atI_c4, sForR1, int1, int2, mMeth, mMake, mFld, sFldM, gIs, gIsNot, isNon_t, sRaise, gList, newLO, g1, kx, optI, ea]
      | some i =>
        rw [hM] at kx ea
        simp only [optI] at kx ea
        obtain ⟨b0, b1⟩ := B x i hM
        have nm := isnum_yes (O := O1) (v := i) (a := 0) (c := 1000000000000) b0 (by omega)
        simp [mDGet1, dctOf, keyD, isNon, runF, sSeq, sIf, sNext, sDrop, sRet, sRetN, sAsg, ofRes, ofB, bName, bNil, bCons, bTup, bLst, bSubL, mTest, mOp, mVar, mC, mChain, mAnd, mOr, mNot, mIf, mAndV, mOrV, mNotV, mNeg, mCons, mNil, mTup, mLst, newL, mCall, mFn, arity, g1, g2, gLen, gInt, gAbs, gMax2, gMin2, gIx, seqOf, lsqOf, lstOf, Res.bind, ofO, gAdd_ok, gSub_ok, gEq_int, gNe_int, gLt_int, gLe_int, gGt_int, gGe_int, gEq_bl, gNe_bl, gEq_str, gNe_str, mIsi, mIsiT, tyD, kitL, kitTab, atI_c0, atI_c1, atI_c2, atI_c3, atI_c4, sForR1, int1, int2, mMeth, mMake, mFld, sFldM, gIs, gIsNot, isNon_t, sRaise, gList, newLO, g1, kx, optI, pw, nm, ea]
  exact ⟨y4', y5', by rw [List.length_map, List.take_length] at e1; exact e1⟩
theorem nq1 : (("line" : Str) = "station") = False := eq_false (by decide)
theorem nq2 : (("plant" : Str) = "station") = False := eq_false (by decide)
theorem nq3 : (("plant" : Str) = "line") = False := eq_false (by decide)
theorem named_st (a : LandAt h s l p v w O) (k : Srt w) : f_named [.hdl h, .str "station"] O = .ok (.lst (w.st.map .str)) O := by
  have e := stations_ok a k
  simp [f_named, b_named, runF, sSeq, sIf, sNext, sDrop, sRet, sRetN, sAsg, ofRes, ofB, bName, bNil, bCons, bTup, bLst, bSubL, mTest, mOp, mVar, mC, mChain, mAnd, mOr, mNot, mIf, mAndV, mOrV, mNotV, mNeg, mCons, mNil, mTup, mLst, newL, mCall, mFn, arity, g1, g2, gLen, gInt, gAbs, gMax2, gMin2, gIx, seqOf, lsqOf, lstOf, Res.bind, ofO, gAdd_ok, gSub_ok, gEq_int, gNe_int, gLt_int, gLe_int, gGt_int, gGe_int, gEq_bl, gNe_bl, gEq_str, gNe_str, mIsi, mIsiT, tyD, kitL, kitTab, atI_c0, atI_c1, atI_c2, atI_c3, atI_c4, sForR1, int1, int2, mMeth, mMake, mFld, sFldM, gIs, gIsNot, isNon_t, sRaise, gList, newLO, a.eo, lk_stations, lk_lines, lk_plants, lk_names, lk_line, lk_plant, lk_is_self, lk_lines_at, lk_plants_at, lk_far_end, lk_rows, lk_there, lk_copy, lk_remove_station, lk_remove_line, lk_remove_plant, lk_add_station, lk_add_line, lk_add_self, lk_add_plant, lk_free, lk_room, lk_kind, e]
theorem named_ln (a : LandAt h s l p v w O) (k : Srt w) : f_named [.hdl h, .str "line"] O = .ok (.lst ((w.ls.map (·.n)).map .str)) O := by
  have e := lines_ok a k
  generalize (w.ls.map (·.n)).map D.str = z at *
  simp [nq1, nq2, nq3, f_named, b_named, runF, sSeq, sIf, sNext, sDrop, sRet, sRetN, sAsg, ofRes, ofB, bName, bNil, bCons, bTup, bLst, bSubL, mTest, mOp, mVar, mC, mChain, mAnd, mOr, mNot, mIf, mAndV, mOrV, mNotV, mNeg, mCons, mNil, mTup, mLst, newL, mCall, mFn, arity, g1, g2, gLen, gInt, gAbs, gMax2, gMin2, gIx, seqOf, lsqOf, lstOf, Res.bind, ofO, gAdd_ok, gSub_ok, gEq_int, gNe_int, gLt_int, gLe_int, gGt_int, gGe_int, gEq_bl, gNe_bl, gEq_str, gNe_str, mIsi, mIsiT, tyD, kitL, kitTab, atI_c0, atI_c1, atI_c2, atI_c3, atI_c4, sForR1, int1, int2, mMeth, mMake, mFld, sFldM, gIs, gIsNot, isNon_t, sRaise, gList, newLO, a.eo, lk_stations, lk_lines, lk_plants, lk_names, lk_line, lk_plant, lk_is_self, lk_lines_at, lk_plants_at, lk_far_end, lk_rows, lk_there, lk_copy, lk_remove_station, lk_remove_line, lk_remove_plant, lk_add_station, lk_add_line, lk_add_self, lk_add_plant, lk_free, lk_room, lk_kind, e]
theorem named_pl (a : LandAt h s l p v w O) (k : Srt w) : f_named [.hdl h, .str "plant"] O = .ok (.lst ((w.ps.map (·.n)).map .str)) O := by
  have e := plants_ok a k
  generalize (w.ps.map (·.n)).map D.str = z at *
  simp [nq1, nq2, nq3, f_named, b_named, runF, sSeq, sIf, sNext, sDrop, sRet, sRetN, sAsg, ofRes, ofB, bName, bNil, bCons, bTup, bLst, bSubL, mTest, mOp, mVar, mC, mChain, mAnd, mOr, mNot, mIf, mAndV, mOrV, mNotV, mNeg, mCons, mNil, mTup, mLst, newL, mCall, mFn, arity, g1, g2, gLen, gInt, gAbs, gMax2, gMin2, gIx, seqOf, lsqOf, lstOf, Res.bind, ofO, gAdd_ok, gSub_ok, gEq_int, gNe_int, gLt_int, gLe_int, gGt_int, gGe_int, gEq_bl, gNe_bl, gEq_str, gNe_str, mIsi, mIsiT, tyD, kitL, kitTab, atI_c0, atI_c1, atI_c2, atI_c3, atI_c4, sForR1, int1, int2, mMeth, mMake, mFld, sFldM, gIs, gIsNot, isNon_t, sRaise, gList, newLO, a.eo, lk_stations, lk_lines, lk_plants, lk_names, lk_line, lk_plant, lk_is_self, lk_lines_at, lk_plants_at, lk_far_end, lk_rows, lk_there, lk_copy, lk_remove_station, lk_remove_line, lk_remove_plant, lk_add_station, lk_add_line, lk_add_self, lk_add_plant, lk_free, lk_room, lk_kind, e]
/-- the names that a land does not know -/
def strange (w : Wd) (ks : List Str) : List Str := ks.filter fun x => decide (x ∉ nmsW w)
abbrev unkE : EM := mLcD false (mVar 2) [4] (bName 4) (mTest (mOp gIs (mMeth "Land" "kind" (arity 2 f_land_kind) [] (mVar 1) (mCons (mVar 4) mNil)) (mC .non))) (mVar 4)
theorem unk_ok {ks : List Str} {y0 y3 y4 y5 : Option D} (a : LandAt h s l p v w O) (hm : O[m]? = some (.dct kvs)) (hne : h < m ∧ s < m ∧ l < m ∧ p < m ∧ v < m) (hk : kvs.map (·.1) = ks.map Sum.inr) (hl : kvs.length ≤ 1000) :
    unkE [y0, some (.hdl h), some (.hdl m), y3, y4, y5] O = .ok (.lst ((strange w ks).map .str)) O := by
  obtain ⟨n1, n2, n3, n4, n5⟩ := hne
  have a1 : LandAt h s l p v w (O.set m (.fdc kvs)) := ⟨by rw [List.getElem?_set_ne (by omega)]; exact a.eo, by rw [List.getElem?_set_ne (by omega)]; exact a.es, by rw [List.getElem?_set_ne (by omega)]; exact a.el, by rw [List.getElem?_set_ne (by omega)]; exact a.ep, by rw [List.getElem?_set_ne (by omega)]; exact a.ev, a.lp, a.sv, a.pos⟩
  have hd1 : (O.set m (.fdc kvs))[m]? = some (.fdc kvs) := set_at hm
  have back : (O.set m (.fdc kvs)).set m (.dct kvs) = O := by
    rw [List.set_set]
    exact List.ext_getElem? fun i => by
      by_cases c : i = m
      · subst c
        rw [set_at hm, hm]
      · rw [List.getElem?_set_ne (fun z => c z.symm)]
  generalize hO1 : O.set m (.fdc kvs) = O1 at *
  have kl : ks.length = kvs.length := by rw [← List.length_map (f := Sum.inr (α := Int)) (as := ks), ← hk, List.length_map]
  have kd : (kvs.map fun kv => kD kv.1) = ks.map D.str := by
    have : (kvs.map fun kv => kD kv.1) = (kvs.map (·.1)).map kD := by rw [List.map_map]; rfl
    rw [this, hk, List.map_map]
    rfl
  have eg := lc_pureG (nx := fun i _ => some (ks.map D.str)[i]?) (turn := lcTurn [4] (bName 4) (mTest (mOp gIs (mMeth "Land" "kind" (arity 2 f_land_kind) [] (mVar 1) (mCons (mVar 4) mNil)) (mC .non))) (mVar 4) [y0, some (.hdl h), some (.hdl m), y3, y4, y5]) (ds := ks.map D.str) (O := O1)
    (f := fun d => match d with | .str x => if x ∉ nmsW w then some (.str x) else none | _ => none) (fun i => rfl) (fun d hd acc ha => by
    obtain ⟨x, hx, rfl⟩ := List.mem_map.mp hd
    have e := kind_ok (nm := x) a1
    by_cases c : x ∈ nmsW w
    · have c1 : isNon (kindD w x) = false := by
        have : kindD w x ≠ .non := fun z => kind_in.mp z c
        cases hkx : kindD w x <;> simp [isNon, hkx] at this ⊢
      simp [lcTurn, wipeL, runF, sSeq, sIf, sNext, sDrop, sRet, sRetN, sAsg, ofRes, ofB, bName, bNil, bCons, bTup, bLst, bSubL, mTest, mOp, mVar, mC, mChain, mAnd, mOr, mNot, mIf, mAndV, mOrV, mNotV, mNeg, mCons, mNil, mTup, mLst, newL, mCall, mFn, arity, g1, g2, gLen, gInt, gAbs, gMax2, gMin2, gIx, seqOf, lsqOf, lstOf, Res.bind, ofO, gAdd_ok, gSub_ok, gEq_int, gNe_int, gLt_int, gLe_int, gGt_int, gGe_int, gEq_bl, gNe_bl, gEq_str, gNe_str, mIsi, mIsiT, tyD, kitL, kitTab, atI_c0, atI_c1, atI_c2, atI_c3, atI_c4, sForR1, int1, int2, mMeth, mMake, mFld, sFldM, gIs, gIsNot, isNon_t, sRaise, gList, newLO, a1.eo, lk_stations, lk_lines, lk_plants, lk_names, lk_line, lk_plant, lk_is_self, lk_lines_at, lk_plants_at, lk_far_end, lk_rows, lk_there, lk_copy, lk_remove_station, lk_remove_line, lk_remove_plant, lk_add_station, lk_add_line, lk_add_self, lk_add_plant, lk_free, lk_room, lk_kind, e, c, c1]
    · have c1 : kindD w x = .non := kind_in.mpr c
      rw [c1] at e
      simp [lcTurn, wipeL, isNon, runF, sSeq, sIf, sNext, sDrop, sRet, sRetN, sAsg, ofRes, ofB, bName, bNil, bCons, bTup, bLst, bSubL, mTest, mOp, mVar, mC, mChain, mAnd, mOr, mNot, mIf, mAndV, mOrV, mNotV, mNeg, mCons, mNil, mTup, mLst, newL, mCall, mFn, arity, g1, g2, gLen, gInt, gAbs, gMax2, gMin2, gIx, seqOf, lsqOf, lstOf, Res.bind, ofO, gAdd_ok, gSub_ok, gEq_int, gNe_int, gLt_int, gLe_int, gGt_int, gGe_int, gEq_bl, gNe_bl, gEq_str, gNe_str, mIsi, mIsiT, tyD, kitL, kitTab, atI_c0, atI_c1, atI_c2, atI_c3, atI_c4, sForR1, int1, int2, mMeth, mMake, mFld, sFldM, gIs, gIsNot, isNon_t, sRaise, gList, newLO, a1.eo, lk_stations, lk_lines, lk_plants, lk_names, lk_line, lk_plant, lk_is_self, lk_lines_at, lk_plants_at, lk_far_end, lk_rows, lk_there, lk_copy, lk_remove_station, lk_remove_line, lk_remove_plant, lk_add_station, lk_add_line, lk_add_self, lk_add_plant, lk_free, lk_room, lk_kind, e, c, ha]) ks.length 0 [] (by simp) (by simpa using (by omega : ks.length ≤ 900000))
  have fm : ∀ xs : List Str, (xs.map D.str).filterMap (fun d => match d with | .str x => if x ∉ nmsW w then some (D.str x) else none | _ => none) = (strange w xs).map .str := fun xs => by
    induction xs with
    | nil => rfl
    | cons x xs ih =>
      unfold strange at ih ⊢
      rw [List.map_cons, List.filterMap_cons, List.filter_cons]
      by_cases c : x ∈ nmsW w
      · simp only [c, not_true_eq_false, if_false, decide_false, Bool.false_eq_true]
        exact ih
      · simp only [c, not_false_eq_true, if_true, decide_true]
        rw [ih]
        rfl
  rw [List.drop_zero, fm, List.nil_append] at eg
  have sl : (strange w ks).length ≤ ks.length := List.length_filter_le _ _
  have sl2 : ((strange w ks).map D.str).length ≤ 1000000 := by rw [List.length_map]; omega
  unfold unkE mLcD
  generalize lcTurn [4] _ _ _ _ = tn at eg ⊢
  generalize (strange w ks).map D.str = z at *
  rw [kl] at eg
  simp only [List.getElem?_map] at eg
  simp only [mVar]
  simp [hm, hO1, kd, eg, lcEnd, newL, unlockR, hd1, back, sl2]
end
end DK.W
end
section
set_option Elab.async false
set_option linter.all false
set_option autoImplicit false
set_option maxRecDepth 100000
set_option maxHeartbeats 4000000
/-! DKTbB: a table is made, in plain Lean. -/
namespace DK.W
open PySem L2 DK
abbrev minB : SM := (sDPutM (mFld "Table" "_minutes" (mVar 0)) (mVar 4) (mTup (mCons (mVar 3) (mCons (mVar 5) mNil))))
abbrev g3 : BM := (bTup 3 (bCons (bName 3) (bCons (bName 4) (bCons (bName 5) bNil))))
theorem tr2 {a b : D} : List.lookup ("_rows" : Str) [(("_rows" : Str), a), (("_minutes" : Str), b)] = some a := rfl
theorem tm2 {a b : D} : List.lookup ("_minutes" : Str) [(("_rows" : Str), a), (("_minutes" : Str), b)] = some b := rfl
section
variable {h s l p v m : Nat} {w : Wd} {O : Store} {kvs : List (Key × D)} {M : Str → Option Int} {ns : List Str}
theorem minl_ok {rs : List Row} {y1 y2 y3 y4 y5 : Option D} (nd : (rs.map (·.2.1)).Nodup) (hl : rs.length ≤ 1000) :
    ∃ y3' y4' y5', sForL (mFld "Table" "_rows" (mVar 0)) g3 minB [some (.hdl O.length), y1, y2, y3, y4, y5] (O ++ [tabO O.length, .lst (rs.map rowD), .dct []])
      = .next [some (.hdl O.length), y1, y2, y3', y4', y5'] (O ++ [tabO O.length, .lst (rs.map rowD), .dct (dicS (·.2.1) minD rs)]) := by
  have q1 : ∀ x : Ob, (O ++ [tabO O.length, .lst (rs.map rowD), x])[O.length]? = some (tabO O.length) := fun x => by rw [List.getElem?_append_right (Nat.le_refl _)]; simp
  have q2 : ∀ x : Ob, (O ++ [tabO O.length, .lst (rs.map rowD), x])[O.length + 1]? = some (.lst (rs.map rowD)) := fun x => by rw [List.getElem?_append_right (by omega)]; simp
  have q3 : ∀ x : Ob, (O ++ [tabO O.length, .lst (rs.map rowD), x])[O.length + 2]? = some x := fun x => by rw [List.getElem?_append_right (by omega)]; simp
  have q4 : ∀ x y : Ob, (O ++ [tabO O.length, .lst (rs.map rowD), x]).set (O.length + 2) y = O ++ [tabO O.length, .lst (rs.map rowD), y] := fun x y => by
    rw [List.set_append_right _ _ (by omega), show O.length + 2 - O.length = 2 by omega]
    rfl
  obtain ⟨L', O', e, y3', y4', y5', rfl, rfl⟩ := loopH_keeps (turn := turnOf g3 minB) (n := O.length + 1) (xs := rs.map rowD)
    (I := fun i L O' => ∃ y3 y4 y5 : Option D, L = [some (.hdl O.length), y1, y2, y3, y4, y5] ∧ O' = O ++ [tabO O.length, .lst (rs.map rowD), .dct (dicS (·.2.1) minD (rs.take i))])
    (fun j L O' ⟨_, _, _, _, hO⟩ => by rw [hO]; exact q2 _) (rs.map rowD).length 0 [some (.hdl O.length), y1, y2, y3, y4, y5] (O ++ [tabO O.length, .lst (rs.map rowD), .dct []]) (by omega) ⟨y3, y4, y5, rfl, rfl⟩ fun j d L O' hd ⟨y3, y4, y5, hL, hO⟩ => by
      subst hL hO
      rw [List.getElem?_map] at hd
      obtain ⟨r, hr, rfl⟩ := Option.map_eq_some_iff.mp hd
      have tk := take_get hr
      have hno : r.2.1 ∉ (rs.take j).map (·.2.1) := fun z => by
        have hs : rs.take (j + 1) <+: rs := List.take_prefix _ _
        have nd2 : ((rs.take (j + 1)).map (·.2.1)).Nodup := nd.sublist (hs.sublist.map _)
        rw [tk, List.map_append, List.nodup_append] at nd2
        exact nd2.2.2 _ z _ (by simp) rfl
      have pt := put_dicS (n := fun r : Row => r.2.1) (g := minD) (x := r) (xs := rs.take j) hno
      rw [← tk] at pt
      have dl : (dicS (fun r : Row => r.2.1) minD (rs.take j)).length ≤ 1000000 := by simp; omega
      refine ⟨[some (.hdl O.length), y1, y2, some (.str r.1), some (.str r.2.1), some (optI r.2.2)], _, ?_, some (.str r.1), some (.str r.2.1), some (optI r.2.2), rfl, rfl⟩
      generalize dicS (fun r : Row => r.2.1) minD (rs.take j) = dx at *
      generalize dicS (fun r : Row => r.2.1) minD (rs.take (j + 1)) = dy at *
      have r1 := q1 (.dct dx)
      have r3 := q3 (.dct dx)
      have r4 := q4 (.dct dx) (.dct dy)
      generalize O ++ [tabO O.length, .lst (rs.map rowD), .dct dx] = O1 at *
      simp [turnOf, sDPutM, dctOf, keyD, hdlN, runF, sSeq, sIf, sNext, sDrop, sRet, sRetN, sAsg, ofRes, ofB, bName, bNil, bCons, bTup, bLst, bSubL, mTest, mOp, mVar, mC, mChain, mAnd, mOr, mNot, mIf, mAndV, mOrV, mNotV, mNeg, mCons, mNil, mTup, mLst, newL, mCall, mFn, arity, g1, g2, gLen, gInt, gAbs, gMax2, gMin2, gIx, seqOf, lsqOf, lstOf, Res.bind, ofO, gAdd_ok, gSub_ok, gEq_int, gNe_int, gLt_int, gLe_int, gGt_int, gGe_int, gEq_bl, gNe_bl, gEq_str, gNe_str, mIsi, mIsiT, tyD, kitL, kitTab, atI_c0, atI_c1, atI_c2, atI_c3, atI_c4, sForR1, int1, int2, mMeth, mMake, mFld, sFldM, gIs, gIsNot, isNon_t, sRaise, gList, newLO, r1, r3, tm2, dl, pt, r4]
  refine ⟨y3', y4', y5', ?_⟩
  rw [List.length_map, List.take_length] at e
  have e0 : mFld "Table" "_rows" (mVar 0) [some (.hdl O.length), y1, y2, y3, y4, y5] (O ++ [tabO O.length, .lst (rs.map rowD), .dct []]) = .ok (.hdl (O.length + 1)) (O ++ [tabO O.length, .lst (rs.map rowD), .dct []]) := by
    have r1 := q1 (.dct [])
    generalize O ++ [tabO O.length, .lst (rs.map rowD), .dct []] = O1 at *
    simp [runF, sSeq, sIf, sNext, sDrop, sRet, sRetN, sAsg, ofRes, ofB, bName, bNil, bCons, bTup, bLst, bSubL, mTest, mOp, mVar, mC, mChain, mAnd, mOr, mNot, mIf, mAndV, mOrV, mNotV, mNeg, mCons, mNil, mTup, mLst, newL, mCall, mFn, arity, g1, g2, gLen, gInt, gAbs, gMax2, gMin2, gIx, seqOf, lsqOf, lstOf, Res.bind, ofO, gAdd_ok, gSub_ok, gEq_int, gNe_int, gLt_int, gLe_int, gGt_int, gGe_int, gEq_bl, gNe_bl, gEq_str, gNe_str, mIsi, mIsiT, tyD, kitL, kitTab, atI_c0, atI_c1, atI_c2, atI_c3, atI_c4, sForR1, int1, int2, mMeth, mMake, mFld, sFldM, gIs, gIsNot, isNon_t, sRaise, gList, newLO, r1, tr2]
  show ofRes _ (mFld "Table" "_rows" (mVar 0) _ _) (fun d O1 => match d with
    | .lst ds => loopD (turnOf g3 minB) ds _ O1
    | .rol ds => loopD (turnOf g3 minB) ds _ O1
    | .hdl n => (match O1[n]? with
      | some (.lst xs) => loopH (turnOf g3 minB) n xs.length 0 _ O1
      | _ => .bad)
    | _ => .bad) = _
  rw [e0]
  show (match (O ++ [tabO O.length, .lst (rs.map rowD), .dct []])[O.length + 1]? with
      | some (.lst xs) => loopH (turnOf g3 minB) (O.length + 1) xs.length 0 _ _
      | _ => .bad) = _
  rw [q2]
  show loopH (turnOf g3 minB) (O.length + 1) (rs.map rowD).length 0 _ _ = _
  rw [List.length_map]
  exact e
abbrev kindsT : EM := mC (.tup [.str "station", .str "line", .str "plant"])
abbrev kB : SM := (sForL (mFn (arity 2 f_named) [] (mCons (mVar 1) (mCons (mVar 3) mNil))) (bName 4) inB)
/-- all the rows -/
theorem rows_loop (a : LandAt h s l p v w O) (k : WOK w) (hm : O[m]? = some (.dct kvs)) (K : ∀ x ∈ nmsW w, (valD kvs (.inr x)).getD .non = optI (M x)) (B : ∀ x i, M x = some i → 0 ≤ i ∧ i ≤ 10 ^ 12) :
    ∃ y3 y4 y5, sForT kindsT (bName 3) kB [some (.hdl O.length), some (.hdl h), some (.hdl m), none, none, none] (O ++ [tab1 O.length, .lst []]) = .next [some (.hdl O.length), some (.hdl h), some (.hdl m), y3, y4, y5] (O ++ [tab1 O.length, .lst ((rowsW w M).map rowD)]) := by
  have kk := k.srt
  have nl := nmsW_len k
  have nl' : (w.st.length + (w.ls.map (·.n)).length) + (w.ps.map (·.n)).length ≤ 27 := by
    unfold nmsW at nl
    rw [List.length_append, List.length_append] at nl
    exact nl
  have K1 : ∀ x ∈ w.st, (valD kvs (.inr x)).getD .non = optI (M x) := fun x hx => K x (List.mem_append_left _ (List.mem_append_left _ hx))
  have K2 : ∀ x ∈ w.ls.map (·.n), (valD kvs (.inr x)).getD .non = optI (M x) := fun x hx => K x (List.mem_append_left _ (List.mem_append_right _ hx))
  have K3 : ∀ x ∈ w.ps.map (·.n), (valD kvs (.inr x)).getD .non = optI (M x) := fun x hx => K x (List.mem_append_right _ hx)
  obtain ⟨y4, y5, e1⟩ := inner_ok (acc := []) (y4 := none) (y5 := none) hm K1 B (named_st (a.fr fr_app) kk) (by simp; omega)
  obtain ⟨z4, z5, e2⟩ := inner_ok (acc := [] ++ (rowsK "station" w.st M).map rowD) (y4 := y4) (y5 := y5) hm K2 B (named_ln (a.fr fr_app) kk) (by rw [List.nil_append, List.length_map, rowsK_len]; omega)
  obtain ⟨u4, u5, e3⟩ := inner_ok (acc := ([] ++ (rowsK "station" w.st M).map rowD) ++ (rowsK "line" (w.ls.map (·.n)) M).map rowD) (y4 := z4) (y5 := z5) hm K3 B (named_pl (a.fr fr_app) kk) (by rw [List.nil_append, List.length_append, List.length_map, List.length_map, rowsK_len, rowsK_len]; omega)
  have er : (([] ++ (rowsK "station" w.st M).map rowD) ++ (rowsK "line" (w.ls.map (·.n)) M).map rowD) ++ (rowsK "plant" (w.ps.map (·.n)) M).map rowD = (rowsW w M).map rowD := by
    unfold rowsW
    rw [List.nil_append, List.map_append, List.map_append]
  rw [er] at e3
  refine ⟨some (.str "plant"), u4, u5, ?_⟩
  simp only [kB]
  generalize sForL _ (bName 4) inB = sI at e1 e2 e3 ⊢
  generalize (rowsW w M).map rowD = zs at *
  generalize [] ++ (rowsK "station" w.st M).map rowD ++ (rowsK "line" (w.ls.map (·.n)) M).map rowD = zb at *
  generalize [] ++ (rowsK "station" w.st M).map rowD = za at *
  simp [sForT, loopD, turnOf, runF, sSeq, sIf, sNext, sDrop, sRet, sRetN, sAsg, ofRes, ofB, bName, bNil, bCons, bTup, bLst, bSubL, mTest, mOp, mVar, mC, mChain, mAnd, mOr, mNot, mIf, mAndV, mOrV, mNotV, mNeg, mCons, mNil, mTup, mLst, newL, mCall, mFn, arity, g1, g2, gLen, gInt, gAbs, gMax2, gMin2, gIx, seqOf, lsqOf, lstOf, Res.bind, ofO, gAdd_ok, gSub_ok, gEq_int, gNe_int, gLt_int, gLe_int, gGt_int, gGe_int, gEq_bl, gNe_bl, gEq_str, gNe_str, mIsi, mIsiT, tyD, kitL, kitTab, atI_c0, atI_c1, atI_c2, atI_c3, atI_c4, sForR1, int1, int2, mMeth, mMake, mFld, sFldM, gIs, gIsNot, isNon_t, sRaise, gList, newLO, e1, e2, e3]
theorem tinit_ok (a : LandAt h s l p v w O) (k : WOK w) (hm : O[m]? = some (.dct kvs)) (K : Mins kvs M (nmsW w)) (lt : h < m ∧ s < m ∧ l < m ∧ p < m ∧ v < m) :
    f_table_init [.hdl O.length, .hdl h, .hdl m] (O ++ [.ins "Table" []]) = .ok .non (O ++ [tabO O.length, .lst ((rowsW w M).map rowD), .dct (dicS (·.2.1) minD (rowsW w M))]) := by
  obtain ⟨y3, y4, y5, e1⟩ := rows_loop a k hm (fun x _ => K.v x) K.b
  obtain ⟨ks, hk, hks⟩ := K.k
  have mlt := (List.getElem?_eq_some_iff.mp hm).1
  have hm2 : (O ++ [tab1 O.length, .lst ((rowsW w M).map rowD)])[m]? = some (.dct kvs) := by rw [List.getElem?_append_left mlt]; exact hm
  have e2 := unk_ok (y0 := some (.hdl O.length)) (y3 := y3) (y4 := y4) (y5 := y5) (a.fr (fr_app (J := [tab1 O.length, .lst ((rowsW w M).map rowD)]))) hm2 lt hk K.l
  have st : strange w ks = [] := List.filter_eq_nil_iff.mpr fun x hx => by
    rw [decide_eq_false (fun z => z (hks x hx))]
    exact Bool.false_ne_true
  rw [st] at e2
  have nd : ((rowsW w M).map (·.2.1)).Nodup := by rw [rowsW_nm]; exact nmsW_nd k
  have rl : (rowsW w M).length ≤ 1000 := by
    have := nmsW_len k
    rw [rowsW_len]
    omega
  obtain ⟨z3, z4, z5, e3⟩ := minl_ok (O := O) (y1 := some (.hdl h)) (y2 := some (.hdl m)) (y3 := y3) (y4 := y4) (y5 := y5) nd rl
  have p1 : ∀ d : D, putD "_rows" d [] = [(("_rows" : Str), d)] := fun _ => rfl
  have p2 : ∀ d a : D, putD "_minutes" d [(("_rows" : Str), a)] = [(("_rows" : Str), a), (("_minutes" : Str), d)] := fun _ _ => rfl
  simp only [f_table_init, b_table_init]
  simp only [kindsT, kB] at e1
  simp only [unkE] at e2
  generalize sForT _ (bName 3) _ = sT at e1 ⊢
  generalize mLcD false _ [4] (bName 4) _ (mVar 4) = sU at e2 ⊢
  generalize sForL (mFld "Table" "_rows" (mVar 0)) _ _ = sM at e3 ⊢
  generalize (rowsW w M).map rowD = zs at *
  generalize dicS (fun r : Row => r.2.1) minD (rowsW w M) = zd at *
  simp only [List.map_nil] at e2
  simp [mDNew, runF, sSeq, sIf, sNext, sDrop, sRet, sRetN, sAsg, ofRes, ofB, bName, bNil, bCons, bTup, bLst, bSubL, mTest, mOp, mVar, mC, mChain, mAnd, mOr, mNot, mIf, mAndV, mOrV, mNotV, mNeg, mCons, mNil, mTup, mLst, newL, mCall, mFn, arity, g1, g2, gLen, gInt, gAbs, gMax2, gMin2, gIx, seqOf, lsqOf, lstOf, Res.bind, ofO, gAdd_ok, gSub_ok, gEq_int, gNe_int, gLt_int, gLe_int, gGt_int, gGe_int, gEq_bl, gNe_bl, gEq_str, gNe_str, mIsi, mIsiT, tyD, kitL, kitTab, atI_c0, atI_c1, atI_c2, atI_c3, atI_c4, sForR1, int1, int2, mMeth, mMake, mFld, sFldM, gIs, gIsNot, isNon_t, sRaise, gList, newLO, p1, p2, e1, e2, e3]
/-! ### refused -/
end
end DK.W
end
section
set_option Elab.async false
set_option linter.all false
set_option autoImplicit false
set_option maxRecDepth 100000
set_option maxHeartbeats 4000000
/-! DKTbC: what a table tells, in plain Lean. -/
namespace DK.W
open PySem L2 DK
structure TabAt (n : Nat) (rs : List Row) (O : Store) : Prop where
  eo : O[n]? = some (tabO n)
  er : O[n + 1]? = some (.lst (rs.map rowD))
  em : O[n + 2]? = some (.dct (dicS (·.2.1) minD rs))
theorem TabAt.fz {n : Nat} {rs : List Row} {O O' : Store} (t : TabAt n rs O) (f : Fz O O') : TabAt n rs O' := ⟨f.at t.eo, f.at t.er, f.at t.em⟩
theorem TabAt.fr {n : Nat} {rs : List Row} {O O' : Store} (t : TabAt n rs O) (f : Fr O O') (h : 0 < n) : TabAt n rs O' := ⟨f.at h t.eo, f.at (by omega) t.er, f.at (by omega) t.em⟩
abbrev KINDS : List Str := ["station", "line", "plant"]
structure RowsOK (rs : List Row) : Prop where
  nd : (rs.map (·.2.1)).Nodup
  l : rs.length ≤ 27
  k : ∀ r ∈ rs, r.1 ∈ KINDS
  n : ∀ r ∈ rs, r.2.1 ∈ NAMES
  b : ∀ r ∈ rs, ∀ i, r.2.2 = some i → 0 ≤ i ∧ i ≤ 10 ^ 12
/-! ### comprehensions over rows -/
def thereR (rs : List Row) : List Row := rs.filter (·.2.2.isSome)
section
variable {n : Nat} {rs : List Row} {O : Store} {x : Str}
theorem rows_ok (t : TabAt n rs O) (k : RowsOK rs) : f_table_rows [.hdl n] O = .ok (.hdl O.length) (O ++ [.lst (rs.map rowD)]) := by
  have l := k.l
  have hl : (rs.map rowD).length ≤ 1000000 := by rw [List.length_map]; omega
  have er := t.er
  generalize rs.map rowD = z at *
  simp [f_table_rows, b_table_rows, runF, sSeq, sIf, sNext, sDrop, sRet, sRetN, sAsg, ofRes, ofB, bName, bNil, bCons, bTup, bLst, bSubL, mTest, mOp, mVar, mC, mChain, mAnd, mOr, mNot, mIf, mAndV, mOrV, mNotV, mNeg, mCons, mNil, mTup, mLst, newL, mCall, mFn, arity, g1, g2, gLen, gInt, gAbs, gMax2, gMin2, gIx, seqOf, lsqOf, lstOf, Res.bind, ofO, gAdd_ok, gSub_ok, gEq_int, gNe_int, gLt_int, gLe_int, gGt_int, gGe_int, gEq_bl, gNe_bl, gEq_str, gNe_str, mIsi, mIsiT, tyD, kitL, kitTab, atI_c0, atI_c1, atI_c2, atI_c3, atI_c4, sForR1, int1, int2, mMeth, mMake, mFld, sFldM, gIs, gIsNot, isNon_t, sRaise, gList, newLO, t.eo, tr2, er, hl]
end
end DK.W
end
section
set_option Elab.async false
set_option linter.all false
set_option autoImplicit false
set_option maxRecDepth 100000
set_option maxHeartbeats 4000000
/-! DKTbD: rows that are the same, a state's table, in plain Lean. -/
namespace DK.W
open PySem L2 DK
/-! ### sameness -/
end DK.W
end
section
set_option Elab.async false
set_option linter.all false
set_option autoImplicit false
set_option maxRecDepth 100000
set_option maxHeartbeats 4000000
/-! mirrors that many laws share: printed by mirrors.py. -/
namespace DK.W
open PySem L2 DK
def b_state_finish : SM := (sWhile 100 (mTru (mFld "State" "_coming" (mVar 0))) (sDrop (mMeth "State" "go" (arity 2 f_state_go) [] (mVar 0) (mCons (mOp gIx (mCall (g1 gMinD) (mCons (mFld "State" "_coming" (mVar 0)) mNil)) (mC (.int 0))) mNil))))
def f_state_finish : FM := runF 1 b_state_finish
def b_state_table : SM := (sRet (mMake "Table" (arity 3 f_table_init) [] (mCons (mFld "State" "_land" (mVar 0)) (mCons (mFld "State" "_came" (mVar 0)) mNil))))
def f_state_table : FM := runF 1 b_state_table
end DK.W
end
section
set_option Elab.async false
set_option linter.all false
set_option autoImplicit false
set_option maxRecDepth 100000
set_option maxHeartbeats 4000000
/-! DKPlB: plans played, in plain Lean (no program in sight). -/
namespace DK.W
open PySem L2 DK
/-- minute, what is there, what is on its way -/
abbrev PS := Int × (Str → Option Int) × List Deed
def runS (s : PS) (m : Int) : (Str → Option Int) × List Deed := runT (m + 1 - s.1).toNat s.1 s.2.1 s.2.2
abbrev dnT (d : Deed) : Deed := ((doneT d.1 d.2).getD 0, d.2)
noncomputable def begS (w : Wd) (τ : Str → Option Int) (C : List Deed) (d : Deed) : List Deed := if canB w τ C d.1 d.2 = true then C ++ [dnT d] else C
noncomputable def stepT (w : Wd) (s : PS) (d : Deed) : PS := (d.1, (runS s d.1).1, begS w (runS s d.1).1 (runS s d.1).2 d)
noncomputable def playT (w : Wd) (s : PS) (ds : List Deed) : PS := ds.foldl (stepT w) s
def okS (w : Wd) (s : PS) (d : Deed) : Prop := canB w (runS s d.1).1 (runS s d.1).2 d.1 d.2 = true
def okT (w : Wd) : PS → List Deed → Prop
  | _, [] => True
  | s, d :: ds => okS w s d ∧ okT w (stepT w s d) ds
theorem play_append {w : Wd} {s : PS} {A B : List Deed} : playT w s (A ++ B) = playT w (playT w s A) B := List.foldl_append ..
theorem play_snoc {w : Wd} {s : PS} {ds : List Deed} {i : Nat} {d : Deed} (h : ds[i]? = some d) : playT w s (ds.take (i + 1)) = stepT w (playT w s (ds.take i)) d := by
  rw [take_get h, play_append]
  rfl
/-! ### what stays so -/
structure PI (w : Wd) (B : Int) (s : PS) : Prop where
  dm : Dom w s.2.1
  hC : ∀ r ∈ s.2.2, r.2.In w
  n0 : 0 ≤ s.1
  lo : ∀ r ∈ s.2.2, s.1 ≤ r.1 ∧ r.1 ≤ B
  tb : ∀ x i, s.2.1 x = some i → 0 ≤ i ∧ i ≤ B
theorem adv_val {τ : Str → Option Int} {C : List Deed} {m i : Int} {x : Str} (h : advT τ C m x = some i) : τ x = some i ∨ (i = m ∧ ∃ r ∈ C, r.1 = m) := by
  unfold advT arrT at h
  have ex : ∀ {y : Str} {f : Th → List Str}, y ∈ ((C.filter fun r => decide (r.1 = m)).map (·.2)).flatMap f → ∃ r ∈ C, r.1 = m := fun {y f} hy => by
    obtain ⟨θ, hθ, _⟩ := List.mem_flatMap.mp hy
    obtain ⟨r, hr, _⟩ := List.mem_map.mp hθ
    exact ⟨r, (List.mem_filter.mp hr).1, of_decide_eq_true (List.mem_filter.mp hr).2⟩
  split at h
  · rename_i c
    cases h
    obtain ⟨θ, hθ, _⟩ := List.mem_map.mp c
    obtain ⟨r, hr, _⟩ := List.mem_map.mp hθ
    exact .inr ⟨rfl, r, (List.mem_filter.mp hr).1, of_decide_eq_true (List.mem_filter.mp hr).2⟩
  · split at h
    · rename_i c
      cases h
      exact .inr ⟨rfl, ex c.2⟩
    · exact .inl h
theorem run_val {B : Int} : ∀ (n : Nat) (a : Int) (τ : Str → Option Int) (C : List Deed), (∀ r ∈ C, 0 ≤ r.1 ∧ r.1 ≤ B) → (∀ x i, τ x = some i → 0 ≤ i ∧ i ≤ B) → ∀ x i, (runT n a τ C).1 x = some i → 0 ≤ i ∧ i ≤ B
  | 0, _, _, _, _, h => h
  | n + 1, a, τ, C, hC, h => run_val n (a + 1) (advT τ C a) (advC C a) (fun r hr => hC r (advC_in hr).1) fun x i e => by
    rcases adv_val e with e | ⟨e, r, hr, er⟩
    · exact h x i e
    · have := hC r hr
      omega
theorem run_S {w : Wd} {B m : Int} {s : PS} (k : WOK w) (P : PI w B s) (hm : s.1 ≤ m) : PI w B (m, runS s m) ∧ (∀ r ∈ (runS s m).2, m + 1 ≤ r.1) ∧ (runS s m).2.length ≤ s.2.2.length ∧ ∀ r ∈ (runS s m).2, r ∈ s.2.2 := by
  obtain ⟨h1, h2, h3⟩ := run_keep k.srt (m + 1 - s.1).toNat s.1 s.2.1 s.2.2 P.dm P.hC
  have lo : ∀ r ∈ (runS s m).2, m + 1 ≤ r.1 := fun r hr => by
    obtain ⟨q1, q2⟩ := h2 r hr
    have := q2 (P.lo r q1).1
    omega
  refine ⟨⟨h1, fun r hr => P.hC r (h2 r hr).1, by have := P.n0; show 0 ≤ m; omega, fun r hr => ⟨by have := lo r hr; show m ≤ r.1; omega, (P.lo r (h2 r hr).1).2⟩, ?_⟩, lo, h3, fun r hr => (h2 r hr).1⟩
  exact run_val _ _ _ _ (fun r hr => by
    have := P.lo r hr
    have := P.n0
    omega) P.tb
theorem done_near {w : Wd} {θ : Th} {now u : Int} (k : WOK w) (hθ : θ.In w) (hd : doneT now θ = some u) : now + 1 ≤ u ∧ u ≤ now + 20 := by
  cases θ with
  | ln x =>
    have e : now + x.min = u := Option.some.inj hd
    have := (k.lok x hθ).min
    omega
  | pl x =>
    obtain ⟨i, hi, e⟩ := Option.map_eq_some_iff.mp hd
    have h1 := (k.pok x hθ).quick
    have h2 := (k.pok x hθ).slow
    unfold spanP at hi
    split at hi
    · cases hi; omega
    · split at hi
      · cases hi; omega
      · cases hi
theorem can_done {w : Wd} {τ : Str → Option Int} {C : List Deed} {m : Int} {θ : Th} (h : canB w τ C m θ = true) : ∃ u, doneT m θ = some u := bar_done h
theorem dn_near {w : Wd} {τ : Str → Option Int} {C : List Deed} {d : Deed} (k : WOK w) (hd : d.2.In w) (h : canB w τ C d.1 d.2 = true) : doneT d.1 d.2 = some (dnT d).1 ∧ d.1 + 1 ≤ (dnT d).1 ∧ (dnT d).1 ≤ d.1 + 20 := by
  obtain ⟨u, hu⟩ := can_done h
  have e : (dnT d).1 = u := by
    show (doneT d.1 d.2).getD 0 = u
    rw [hu]
    rfl
  rw [e]
  exact ⟨hu, done_near k hd hu⟩
theorem begS_in {w : Wd} {τ : Str → Option Int} {C : List Deed} {d r : Deed} (h : r ∈ begS w τ C d) : r ∈ C ∨ (canB w τ C d.1 d.2 = true ∧ r = dnT d) := by
  unfold begS at h
  split at h
  · rename_i c
    rcases List.mem_append.mp h with h | h
    · exact .inl h
    · exact .inr ⟨c, List.mem_singleton.mp h⟩
  · exact .inl h
theorem begS_len {w : Wd} {τ : Str → Option Int} {C : List Deed} {d : Deed} : (begS w τ C d).length ≤ C.length + 1 := by
  unfold begS
  split
  · rw [List.length_append]
    exact Nat.le_refl _
  · omega
theorem step_S {w : Wd} {B : Int} {s : PS} {d : Deed} (k : WOK w) (P : PI w B s) (hm : s.1 ≤ d.1) (hB : d.1 + 20 ≤ B) (hd : d.2.In w) : PI w B (stepT w s d) ∧ (stepT w s d).2.2.length ≤ s.2.2.length + 1 := by
  obtain ⟨P1, lo, ln, _⟩ := run_S k P hm
  refine ⟨⟨P1.dm, fun r hr => ?_, P1.n0, fun r hr => ?_, P1.tb⟩, Nat.le_trans begS_len (by omega)⟩
  · rcases begS_in hr with hr | ⟨_, rfl⟩
    · exact P1.hC r hr
    · exact hd
  · rcases begS_in hr with hr | ⟨c, rfl⟩
    · exact P1.lo r hr
    · have := dn_near k hd c
      show d.1 ≤ (dnT d).1 ∧ (dnT d).1 ≤ B
      omega
theorem play_S {w : Wd} {B : Int} {s : PS} {ds : List Deed} (k : WOK w) (P : PI w B s) (hp : ds.Pairwise fun a b => a.1 ≤ b.1) (h0 : ∀ d ∈ ds, s.1 ≤ d.1 ∧ d.1 + 20 ≤ B ∧ d.2.In w) : ∀ i, i ≤ ds.length → PI w B (playT w s (ds.take i)) ∧ (playT w s (ds.take i)).2.2.length ≤ s.2.2.length + i ∧ ∀ d, ds[i]? = some d → (playT w s (ds.take i)).1 ≤ d.1
  | 0, _ => ⟨P, Nat.le_refl _, fun d hd => (h0 d (List.mem_of_getElem? hd)).1⟩
  | i + 1, hi => by
    obtain ⟨P1, ln, h1⟩ := play_S k P hp h0 i (by omega)
    obtain ⟨d, hd⟩ : ∃ d, ds[i]? = some d := ⟨ds[i]'(by omega), List.getElem?_eq_getElem _⟩
    obtain ⟨a1, a2, a3⟩ := h0 d (List.mem_of_getElem? hd)
    rw [play_snoc hd]
    obtain ⟨P2, ln2⟩ := step_S k P1 (h1 d hd) a2 a3
    refine ⟨P2, by omega, fun e he => ?_⟩
    show d.1 ≤ e.1
    have h2 := List.pairwise_iff_getElem.mp hp i (i + 1) (by omega) (List.getElem?_eq_some_iff.mp he).1 (by omega)
    rw [(List.getElem?_eq_some_iff.mp hd).2, (List.getElem?_eq_some_iff.mp he).2] at h2
    exact h2
/-! ### event by event -/
/-- a run that goes on -/
theorem run_on {s : PS} {m e : Int} (h1 : s.1 ≤ m) (h2 : m ≤ e) (lo : ∀ r ∈ (runS s m).2, m + 1 ≤ r.1) : runS s e = runS (m, runS s m) e := by
  show runT (e + 1 - s.1).toNat s.1 s.2.1 s.2.2 = runT (e + 1 - m).toNat m (runS s m).1 (runS s m).2
  rw [show (e + 1 - s.1).toNat = (m + 1 - s.1).toNat + (e - m).toNat by omega, run_add]
  show runT (e - m).toNat (s.1 + (((m + 1 - s.1).toNat : Nat) : Int)) (runS s m).1 (runS s m).2 = _
  rw [show s.1 + (((m + 1 - s.1).toNat : Nat) : Int) = m + 1 by omega, show (e + 1 - m).toNat = (e - m).toNat + 1 by omega]
  show _ = runT (e - m).toNat (m + 1) (advT (runS s m).1 (runS s m).2 m) (advC (runS s m).2 m)
  obtain ⟨e1, e2⟩ := adv_none (τ := (runS s m).1) (C := (runS s m).2) (a := m) fun r hr => by have := lo r hr; omega
  rw [e1, e2]
end DK.W
end
section
set_option Elab.async false
set_option linter.all false
set_option autoImplicit false
set_option maxRecDepth 100000
set_option maxHeartbeats 4000000
/-! DKPlC: a plan drawn turn by turn can be played, in plain Lean (no program in sight). -/
namespace DK.W
open PySem L2 DK
abbrev s00 : PS := (0, fun _ => none, [])
theorem pi00 {w : Wd} {B : Int} : PI w B s00 := ⟨(fun x h => by cases h), nofun, Int.le_refl _, nofun, nofun⟩
abbrev dnG (m : Int) (G : List Th) : List Deed := G.map fun θ => dnT (m, θ)
abbrev atG (m : Int) (G : List Th) : List Deed := G.map fun θ => (m, θ)
/-- a plan that has been drawn up to a minute -/
structure AtP (w : Wd) (B : Int) (P : List Deed) (m : Int) (τ : Str → Option Int) (C : List Deed) : Prop where
  ok : okT w s00 (sortC P)
  pi : PI w B (playT w s00 (sortC P))
  hP : ∀ p ∈ P, 0 ≤ p.1 ∧ p.1 < m ∧ p.2.In w
  nd : (P.map (·.2.n)).Nodup
  bg : ∀ p ∈ P, begunB τ C p.2.n = true
  le : (playT w s00 (sortC P)).1 ≤ m
  e1 : (runS (playT w s00 (sortC P)) m).1 = τ
  e2 : (runS (playT w s00 (sortC P)) m).2.Perm C
theorem AtP.lo {w : Wd} {B m : Int} {P C : List Deed} {τ : Str → Option Int} (k : WOK w) (A : AtP w B P m τ C) : ∀ r ∈ C, m + 1 ≤ r.1 := fun r hr => (run_S k A.pi A.le).2.1 r (A.e2.mem_iff.mpr hr)
end DK.W
end
section
set_option Elab.async false
set_option linter.all false
set_option autoImplicit false
set_option maxRecDepth 100000
set_option maxHeartbeats 4000000
/-! DKPlD: a state goes on to its end; its table, in plain Lean. -/
namespace DK.W
open PySem L2 DK
theorem mins_of {w : Wd} {τ : Str → Option Int} {kv : List (Key × D)} (k : WOK w) (dk : DKv τ kv) (dm : Dom w τ) (tb : ∀ x i, τ x = some i → 0 ≤ i ∧ i ≤ 10 ^ 12) : Mins kv τ (nmsW w) := by
  obtain ⟨ks, hk, nd⟩ := dk.k
  refine ⟨fun x => ?_, ⟨ks, hk, fun x hx => dm x ((dk.mem hk).mp hx)⟩, tb, by have := dk.len k dm; omega⟩
  rw [dk.v x]
  cases τ x <;> rfl
theorem Fy.fz {a b : Nat} {O0 O O' : Store} (f : Fz O0 O) (g : Fy a b O O') (ha : O0.length ≤ a) (hb : O0.length ≤ b) : Fz O0 O' := ⟨Nat.le_trans f.1 g.1, fun i hi => (g.2 i (Nat.lt_of_lt_of_le hi f.1) (by omega) (by omega)).trans (f.2 i hi)⟩
abbrev finC : TM := mTru (mFld "State" "_coming" (mVar 0))
abbrev finB : SM := (sDrop (mMeth "State" "go" (arity 2 f_state_go) [] (mVar 0) (mCons (mOp gIx (mCall (g1 gMinD) (mCons (mFld "State" "_coming" (mVar 0)) mNil)) (mC (.int 0))) mNil)))
section
variable {st h s l p v c z n0 : Nat} {w : Wd} {B : Int}
theorem table_ok {q : Nat} {now : Int} {τ : Str → Option Int} {C : List Deed} {mo : D} {O : Store} (k : WOK w) (a : StAt st h c q z now τ C mo O) (la : LandAt h s l p v w O) (dm : Dom w τ) (tb : ∀ x i, τ x = some i → 0 ≤ i ∧ i ≤ 10 ^ 12) (bl : Below h s l p v n0) (hc : n0 ≤ c) :
    ∃ O', f_state_table [.hdl st] O = .ok (.hdl O.length) O' ∧ TabAt O.length (rowsW w τ) O' ∧ Fz O O' := by
  obtain ⟨kv, hkv, dk⟩ := a.ec
  have e1 := tinit_ok la k hkv (mins_of k dk dm tb) ⟨Nat.lt_of_lt_of_le bl.h hc, Nat.lt_of_lt_of_le bl.s hc, Nat.lt_of_lt_of_le bl.l hc, Nat.lt_of_lt_of_le bl.p hc, Nat.lt_of_lt_of_le bl.v hc⟩
  refine ⟨O ++ [tabO O.length, .lst ((rowsW w τ).map rowD), .dct (dicS (fun r : Row => r.2.1) minD (rowsW w τ))], ?_, ⟨app_at0, app_at, app_at⟩, fz_app⟩
  · show f_state_table [.hdl st] O = .ok (.hdl O.length) (O ++ [tabO O.length, .lst ((rowsW w τ).map rowD), .dct (dicS (fun r : Row => r.2.1) minD (rowsW w τ))])
    generalize (rowsW w τ).map rowD = zs at *
    generalize dicS (fun r : Row => r.2.1) minD (rowsW w τ) = zd at *
    simp [f_state_table, b_state_table, runF, sSeq, sIf, sNext, sDrop, sRet, sRetN, sAsg, ofRes, ofB, bName, bNil, bCons, bTup, bLst, bSubL, mTest, mOp, mVar, mC, mChain, mAnd, mOr, mNot, mIf, mAndV, mOrV, mNotV, mNeg, mCons, mNil, mTup, mLst, newL, mCall, mFn, arity, g1, g2, gLen, gInt, gAbs, gMax2, gMin2, gIx, seqOf, lsqOf, lstOf, Res.bind, ofO, gAdd_ok, gSub_ok, gEq_int, gNe_int, gLt_int, gLe_int, gGt_int, gGe_int, gEq_bl, gNe_bl, gEq_str, gNe_str, mIsi, mIsiT, tyD, kitL, kitTab, atI_c0, atI_c1, atI_c2, atI_c3, atI_c4, sForR1, int1, int2, mMeth, mMake, mFld, sFldM, gIs, gIsNot, isNon_t, sRaise, gList, newLO, a.eo, lst_now, lst_land, lst_copy, lst_renew, lst_moved, lst_moment, lst_came, lst_coming, lst_table, lst_is_begun, lst_since, lst_span, lst_bar, lst_begin, lst_next_minute, lst_arrive, lst_go, lst_finish, lsf_land, lsf_now, lsf_came, lsf_coming, lsf_since, lsf_moment, lsp_land, lsp_now, lsp_came, lsp_coming, lsp_since, lsp_moment, e1]
theorem fin_loop (k : WOK w) (bl : Below h s l p v n0) (hc : n0 ≤ c) (hst : n0 ≤ st) (hB : B ≤ 10 ^ 12) : ∀ (fuel : Nat) (q : Nat) (now : Int) (τ : Str → Option Int) (C : List Deed) (mo : D) (O : Store), C.length < fuel → C.length ≤ 900 → StAt st h c q z now τ C mo O → LandAt h s l p v w O → PI w B (now, τ, C) → MoOK mo h w τ O → now ≤ B →
    ∃ q' now' mo' O', (q' = q ∨ O.length ≤ q') ∧ loopW finC finB fuel [some (.hdl st)] O = .next [some (.hdl st)] O' ∧ StAt st h c q' z now' (runS (now, τ, C) B).1 [] mo' O' ∧ MoOK mo' h w (runS (now, τ, C) B).1 O' ∧ Fy st c O O'
  | 0, _, _, _, _, _, _, hf, _, _, _, _, _, _ => by omega
  | f + 1, q, now, τ, C, mo, O, hf, hN, hA, la, P, m0, hnB => by
    by_cases hc0 : C = []
    · subst hc0
      have rs : runS (now, τ, []) B = (τ, []) := run_skip _ _ _ _ nofun
      rw [rs]
      refine ⟨q, now, mo, O, .inl rfl, ?_, hA, m0, Fy.refl _⟩
      unfold loopW
      simp [truD, mTru, runF, sSeq, sIf, sNext, sDrop, sRet, sRetN, sAsg, ofRes, ofB, bName, bNil, bCons, bTup, bLst, bSubL, mTest, mOp, mVar, mC, mChain, mAnd, mOr, mNot, mIf, mAndV, mOrV, mNotV, mNeg, mCons, mNil, mTup, mLst, newL, mCall, mFn, arity, g1, g2, gLen, gInt, gAbs, gMax2, gMin2, gIx, seqOf, lsqOf, lstOf, Res.bind, ofO, gAdd_ok, gSub_ok, gEq_int, gNe_int, gLt_int, gLe_int, gGt_int, gGe_int, gEq_bl, gNe_bl, gEq_str, gNe_str, mIsi, mIsiT, tyD, kitL, kitTab, atI_c0, atI_c1, atI_c2, atI_c3, atI_c4, sForR1, int1, int2, mMeth, mMake, mFld, sFldM, gIs, gIsNot, isNon_t, sRaise, gList, newLO, hA.eo, lst_now, lst_land, lst_copy, lst_renew, lst_moved, lst_moment, lst_came, lst_coming, lst_table, lst_is_begun, lst_since, lst_span, lst_bar, lst_begin, lst_next_minute, lst_arrive, lst_go, lst_finish, lsf_land, lsf_now, lsf_came, lsf_coming, lsf_since, lsf_moment, lsp_land, lsp_now, lsp_came, lsp_coming, lsp_since, lsp_moment, hA.eq]
    · obtain ⟨r, hr, em, hmin⟩ := min_ok (O := O) (d := .hdl q) (C := C) (by simp [lsqOf, lstOf, hA.eq]) hc0
      have hne : (C.map rowP).isEmpty = false := by
        cases C with
        | nil => exact absurd rfl hc0
        | cons x xs => rfl
      have lr := P.lo r hr
      simp only at lr
      obtain ⟨q1, mo1, O1, hq1, e1, A1, m1, f1⟩ := go_ok (e := r.1) k bl hc hst hA la P.dm P.hC (fun _ => m0) hN (fun y hy => (P.lo y hy).1) lr.1 (by omega)
      have la1 := la.fy f1 (bl.ne hst) (bl.ne hc)
      obtain ⟨P1, lo1, _, _⟩ := run_S (m := r.1) k P lr.1
      have ec : runT (r.1 + 1 - now).toNat now τ C = (advT τ C r.1, advC C r.1) := by
        rw [show (r.1 + 1 - now).toNat = (r.1 - now).toNat + 1 by omega, run_add, run_skip (r.1 - now).toNat now τ C fun y hy => by have := hmin y hy; omega, show now + (((r.1 - now).toNat : Nat) : Int) = r.1 by omega]
        rfl
      have cl : (runS (now, τ, C) r.1).2.length < C.length := by
        show (runT (r.1 + 1 - now).toNat now τ C).2.length < _
        rw [ec]
        exact List.length_filter_lt_length_iff_exists.mpr ⟨r, hr, by simp⟩
      obtain ⟨q', now', mo', O', hq', eL, A', m', f'⟩ := fin_loop k bl hc hst hB f q1 r.1 (runS (now, τ, C) r.1).1 (runS (now, τ, C) r.1).2 mo1 O1 (by omega) (by omega) A1 la1 P1 m1 lr.2
      have ro := run_on (s := (now, τ, C)) (m := r.1) (e := B) lr.1 lr.2 lo1
      rw [ro]
      have l1 := f1.1
      refine ⟨q', now', mo', O', by omega, ?_, A', m', f1.trans f'⟩
      have eC : finC [some (.hdl st)] O = .ok true O := by
        generalize C.map rowP = zz at *
        simp [truD, mTru, runF, sSeq, sIf, sNext, sDrop, sRet, sRetN, sAsg, ofRes, ofB, bName, bNil, bCons, bTup, bLst, bSubL, mTest, mOp, mVar, mC, mChain, mAnd, mOr, mNot, mIf, mAndV, mOrV, mNotV, mNeg, mCons, mNil, mTup, mLst, newL, mCall, mFn, arity, g1, g2, gLen, gInt, gAbs, gMax2, gMin2, gIx, seqOf, lsqOf, lstOf, Res.bind, ofO, gAdd_ok, gSub_ok, gEq_int, gNe_int, gLt_int, gLe_int, gGt_int, gGe_int, gEq_bl, gNe_bl, gEq_str, gNe_str, mIsi, mIsiT, tyD, kitL, kitTab, atI_c0, atI_c1, atI_c2, atI_c3, atI_c4, sForR1, int1, int2, mMeth, mMake, mFld, sFldM, gIs, gIsNot, isNon_t, sRaise, gList, newLO, hA.eo, lst_now, lst_land, lst_copy, lst_renew, lst_moved, lst_moment, lst_came, lst_coming, lst_table, lst_is_begun, lst_since, lst_span, lst_bar, lst_begin, lst_next_minute, lst_arrive, lst_go, lst_finish, lsf_land, lsf_now, lsf_came, lsf_coming, lsf_since, lsf_moment, lsp_land, lsp_now, lsp_came, lsp_coming, lsp_since, lsp_moment, hA.eq, hne, hc0]
      have eB : finB [some (.hdl st)] O = .next [some (.hdl st)] O1 := by
        simp [runF, sSeq, sIf, sNext, sDrop, sRet, sRetN, sAsg, ofRes, ofB, bName, bNil, bCons, bTup, bLst, bSubL, mTest, mOp, mVar, mC, mChain, mAnd, mOr, mNot, mIf, mAndV, mOrV, mNotV, mNeg, mCons, mNil, mTup, mLst, newL, mCall, mFn, arity, g1, g2, gLen, gInt, gAbs, gMax2, gMin2, gIx, seqOf, lsqOf, lstOf, Res.bind, ofO, gAdd_ok, gSub_ok, gEq_int, gNe_int, gLt_int, gLe_int, gGt_int, gGe_int, gEq_bl, gNe_bl, gEq_str, gNe_str, mIsi, mIsiT, tyD, kitL, kitTab, atI_c0, atI_c1, atI_c2, atI_c3, atI_c4, sForR1, int1, int2, mMeth, mMake, mFld, sFldM, gIs, gIsNot, isNon_t, sRaise, gList, newLO, hA.eo, lst_now, lst_land, lst_copy, lst_renew, lst_moved, lst_moment, lst_came, lst_coming, lst_table, lst_is_begun, lst_since, lst_span, lst_bar, lst_begin, lst_next_minute, lst_arrive, lst_go, lst_finish, lsf_land, lsf_now, lsf_came, lsf_coming, lsf_since, lsf_moment, lsp_land, lsp_now, lsp_came, lsp_coming, lsp_since, lsp_moment, em, e1]
      unfold loopW
      rw [eC]
      show (match finB _ O with
        | .next L2 O2 => loopW finC finB f L2 O2
        | .cnt L2 O2 => loopW finC finB f L2 O2
        | .brk L2 O2 => .next L2 O2
        | .ret d O2 => .ret d O2
        | .exc x L2 O2 => .exc x L2 O2
        | .bad => .bad) = _
      rw [eB]
      exact eL
theorem finish_ok {q : Nat} {now : Int} {τ : Str → Option Int} {C : List Deed} {mo : D} {O : Store} (k : WOK w) (bl : Below h s l p v n0) (hc : n0 ≤ c) (hst : n0 ≤ st) (hB : B ≤ 10 ^ 12) (hl : C.length ≤ 90) (hA : StAt st h c q z now τ C mo O) (la : LandAt h s l p v w O) (P : PI w B (now, τ, C)) (m0 : MoOK mo h w τ O) (hnB : now ≤ B) :
    ∃ q' now' mo' O', (q' = q ∨ O.length ≤ q') ∧ f_state_finish [.hdl st] O = .ok .non O' ∧ StAt st h c q' z now' (runS (now, τ, C) B).1 [] mo' O' ∧ MoOK mo' h w (runS (now, τ, C) B).1 O' ∧ Fy st c O O' := by
  obtain ⟨q', now', mo', O', hq', eL, A', m', f'⟩ := fin_loop k bl hc hst hB 100 q now τ C mo O (by omega) (by omega) hA la P m0 hnB
  refine ⟨q', now', mo', O', hq', ?_, A', m', f'⟩
  have ew : sWhile 100 finC finB [some (.hdl st)] O = .next [some (.hdl st)] O' := eL
  show runF 1 b_state_finish [.hdl st] O = _
  unfold runF
  rw [show b_state_finish ([D.hdl st].map some ++ List.replicate (1 - [D.hdl st].length) none) O = .next [some (.hdl st)] O' from ew]
end
end DK.W
end
section
set_option Elab.async false
set_option linter.all false
set_option autoImplicit false
set_option maxRecDepth 100000
set_option maxHeartbeats 4000000
/-! DKPlE: plans played by the program, in plain Lean. -/
namespace DK.W
open PySem L2 DK
/-- a state that plays -/
structure SP (w : Wd) (B : Int) (h s l p v : Nat) (O0 : Store) (st c z : Nat) (u : PS) (q : Nat) (mo : D) (O : Store) : Prop where
  sa : StAt st h c q z u.1 u.2.1 u.2.2 mo O
  la : LandAt h s l p v w O
  m0 : MoOK mo h w u.2.1 O
  pi : PI w B u
  fz : Fz O0 O
  bl : Below h s l p v O0.length
  hst : O0.length ≤ st
  hc : O0.length ≤ c
  hq : O0.length ≤ q
  hl : u.2.2.length ≤ 800
section
variable {h s l p v st c z q : Nat} {w : Wd} {B m : Int} {u : PS} {mo : D} {O0 O : Store} {θ : Th}
theorem SP.go (k : WOK w) (S : SP w B h s l p v O0 st c z u q mo O) (hm : u.1 ≤ m) (hB : m ≤ B) (hB2 : B ≤ 10 ^ 12) :
    ∃ q' mo' O', f_state_go [.hdl st, .int m] O = .ok .non O' ∧ SP w B h s l p v O0 st c z (m, runS u m) q' mo' O' := by
  have hl := S.hl
  obtain ⟨q', mo', O', hq, e, a, m', f⟩ := go_ok (e := m) k S.bl S.hc S.hst S.sa S.la S.pi.dm S.pi.hC (fun _ => S.m0) (by omega) (fun r hr => (S.pi.lo r hr).1) hm (by omega)
  obtain ⟨P1, _, ln, _⟩ := run_S k S.pi hm
  have lq := (List.getElem?_eq_some_iff.mp S.sa.eq).1
  have l0 := S.fz.1
  have hq0 := S.hq
  exact ⟨q', mo', O', e, ⟨a, S.la.fy f (S.bl.ne S.hst) (S.bl.ne S.hc), m', P1, Fy.fz S.fz f S.hst S.hc, S.bl, S.hst, S.hc, by omega, Nat.le_trans ln hl⟩⟩
/-- the end, and the table of it -/
theorem SP.fin (k : WOK w) (S : SP w B h s l p v O0 st c z u q mo O) (hu : u.1 ≤ B) (hB : B ≤ 10 ^ 12) (hl : u.2.2.length ≤ 90) :
    ∃ O1 n O2, f_state_finish [.hdl st] O = .ok .non O1 ∧ (∃ q' now' mo', StAt st h c q' z now' (runS u B).1 [] mo' O1) ∧ f_state_table [.hdl st] O1 = .ok (.hdl n) O2 ∧ TabAt n (rowsW w (runS u B).1) O2 ∧ Fz O0 O2 ∧ O0.length ≤ n := by
  obtain ⟨q', now', mo', O1, hq, e1, a1, m1, f1⟩ := finish_ok (B := B) k S.bl S.hc S.hst hB hl S.sa S.la S.pi S.m0 hu
  have la1 := S.la.fy f1 (S.bl.ne S.hst) (S.bl.ne S.hc)
  have P1 := (run_S (m := B) k S.pi hu).1
  obtain ⟨O2, e2, t2, f2⟩ := table_ok (n0 := O0.length) k a1 la1 P1.dm (fun x i hi => by have := P1.tb x i hi; omega) S.bl S.hc
  have f01 := Fy.fz S.fz f1 S.hst S.hc
  exact ⟨O1, O1.length, O2, e1, ⟨q', now', mo', a1⟩, e2, t2, f01.trans f2, f01.1⟩
end
/-! ### the form of a deed -/
end DK.W
end
section
set_option Elab.async false
set_option linter.all false
set_option autoImplicit false
set_option maxRecDepth 100000
set_option maxHeartbeats 4000000
/-! DKPlF: play and play_what_can, the law's rows, in plain Lean. -/
namespace DK.W
open PySem L2 DK
theorem seq_nx {A B : SM} {L L' : Loc} {O O' : Store} (h : A L O = .next L' O') : sSeq A B L O = B L' O' := by
  unfold sSeq
  rw [h]
structure PlanOK (w : Wd) (B : Int) (ds : List Deed) : Prop where
  asc : ds.Pairwise fun a b => a.1 ≤ b.1
  inw : ∀ d ∈ ds, 0 ≤ d.1 ∧ d.1 + 20 ≤ B ∧ d.2.In w
  len : ds.length ≤ 80
theorem PlanOK.at {w : Wd} {B : Int} {ds : List Deed} (k : WOK w) (p : PlanOK w B ds) {i : Nat} (hi : i ≤ ds.length) : PI w B (playT w s00 (ds.take i)) ∧ (playT w s00 (ds.take i)).2.2.length ≤ i ∧ ∀ d, ds[i]? = some d → (playT w s00 (ds.take i)).1 ≤ d.1 := by
  have := play_S (s := s00) k pi00 p.asc (fun d hd => (by
    obtain ⟨a, b, c⟩ := p.inw d hd
    exact ⟨a, b, c⟩)) i hi
  rw [show s00.2.2.length + i = i from Nat.zero_add i] at this
  exact this
theorem PlanOK.le {w : Wd} {B : Int} {ds : List Deed} (p : PlanOK w B ds) (hB : 0 ≤ B) : (playT w s00 ds).1 ≤ B := by
  rcases List.eq_nil_or_concat ds with h | ⟨xs, d, h⟩
  · subst h
    exact hB
  · rw [List.concat_eq_append] at h
    subst h
    rw [play_append]
    show d.1 ≤ B
    have := (p.inw d (by simp)).2.1
    omega
end DK.W
end
section
set_option Elab.async false
set_option linter.all false
set_option autoImplicit false
set_option maxRecDepth 100000
set_option maxHeartbeats 4000000
/-! DKPlG: the law's rows, and its run of deeds, in plain Lean. -/
namespace DK.W
open PySem L2 DK
/-! ### whole numbers in order -/
/-! ### the rows -/
/-! ### the run of deeds -/
/-- the law's lists -/
structure LS (w : Wd) (O0 : Store) (t q : Nat) (τ : Str → Option Int) (C : List Deed) (O : Store) : Prop where
  tt : DctT t τ O
  tq : O[q]? = some (.lst (C.map rowL))
  fz : Fz O0 O
  ht : O0.length ≤ t
  hq : O0.length ≤ q
  dm : Dom w τ
  hC : ∀ r ∈ C, r.2.In w
  hl : C.length ≤ 900
section
variable {w : Wd} {τ : Str → Option Int} {t q : Nat} {O0 O : Store} {C : List Deed} {ds : List Deed} {dd : D} {bb : Bool} {y5 y6 y7 y8 y9 : Option D} {θ : Th}
theorem LS.ne (S : LS w O0 t q τ C O) : q ≠ t := fun zz => by
  obtain ⟨kv, h2, _⟩ := S.tt
  have h1 := S.tq
  rw [zz, h2] at h1
  cases h1
theorem LS.arr (k : WOK w) (S : LS w O0 t q τ C O) (x : Int) : ∃ O', f_law_arrive [encW w, .hdl t, .hdl q, .int x] O = .ok (.hdl O.length) O' ∧ LS w O0 t O.length (advT τ C x) (advC C x) O' := by
  have hl := S.hl
  obtain ⟨kv, e, dk⟩ := larrive_ok (y0 := encW w) (m := x) S.tt k S.dm S.hC S.tq (by omega) S.ne
  have lt : t < O.length := by
    obtain ⟨kv, h2, _⟩ := S.tt
    exact (List.getElem?_eq_some_iff.mp h2).1
  have ln : (O.set t (.dct kv)).length = O.length := List.length_set ..
  refine ⟨_, e, ⟨kv, by rw [List.getElem?_append_left (by rw [ln]; exact lt), List.getElem?_set_self lt], dk⟩, ?_, (fz_setNew S.fz S.ht).trans fz_app, S.ht, S.fz.1, adv_dom k.srt S.dm S.hC, fun r hr => S.hC r (advC_in hr).1, Nat.le_trans (List.length_filter_le _ _) hl⟩
  rw [← ln, List.getElem?_append_right (Nat.le_refl _), Nat.sub_self]
  rfl
end
end DK.W
end
section
set_option Elab.async false
set_option linter.all false
set_option autoImplicit false
set_option maxRecDepth 100000
set_option maxHeartbeats 4000000
/-! DKPlH: the law's run of deeds, in plain Lean. -/
namespace DK.W
open PySem L2 DK
def thgs (w : Wd) : List Th := w.ls.map Th.ln ++ w.ps.map Th.pl
theorem thgs_mem {w : Wd} {θ : Th} : θ ∈ thgs w ↔ θ.In w := by
  unfold thgs
  rw [List.mem_append, List.mem_map, List.mem_map]
  cases θ with
  | ln x => exact ⟨fun h => h.elim (fun ⟨y, hy, e⟩ => by cases e; exact hy) (fun ⟨y, _, e⟩ => by cases e), fun h => .inl ⟨x, h, rfl⟩⟩
  | pl x => exact ⟨fun h => h.elim (fun ⟨y, _, e⟩ => by cases e) (fun ⟨y, hy, e⟩ => by cases e; exact hy), fun h => .inr ⟨x, h, rfl⟩⟩
end DK.W
end
section
set_option Elab.async false
set_option linter.all false
set_option autoImplicit false
set_option maxRecDepth 100000
set_option maxHeartbeats 4000000
/-! DKRiA: all is begun as soon as it can be, in plain Lean (no program in sight). -/
namespace DK.W
open PySem L2 DK
/-! ### the least -/
def lstI (x : Int) (xs : List Int) : Int := xs.foldl (fun a b => if b < a then b else a) x
def minF : List Int → Int
  | [] => 0
  | x :: xs => lstI x xs
/-! ### a step -/
/-- holds: a minute, or never -/
abbrev Ho := Str → Option Int
def ho0 : Ho := fun _ => some 0
noncomputable def cooN (w : Wd) (τ : Str → Option Int) (C : List Deed) (m : Int) (θ : Th) : Bool := !begunB τ C θ.n && fedW w τ θ && coolT m θ
def coolM : Th → Int
  | .ln _ => 0
  | .pl x => x.cool
def hoOK (η : Ho) (m : Int) (x : Str) : Bool := match η x with
  | some h => decide (h ≤ m)
  | none => false
noncomputable def gS (w : Wd) (η : Ho) (s : PS) : List Th := (thgs w).filter fun θ => canB w s.2.1 s.2.2 s.1 θ && hoOK η s.1 θ.n
noncomputable def waitT (w : Wd) (η : Ho) (s : PS) (θ : Th) : Option Int := if canB w s.2.1 s.2.2 s.1 θ = true then (match η θ.n with
  | some h => if s.1 < h then some h else none
  | none => none) else if cooN w s.2.1 s.2.2 s.1 θ = true then some (coolM θ) else none
noncomputable def nxC (w : Wd) (η : Ho) (s : PS) : List Deed := s.2.2 ++ dnG s.1 (gS w η s)
noncomputable def later (w : Wd) (η : Ho) (s : PS) : List Int := (((thgs w).filterMap (waitT w η s)).filter fun x => decide (s.1 < x)) ++ (nxC w η s).map (·.1)
noncomputable def nxS (w : Wd) (η : Ho) (s : PS) : PS := (minF (later w η s), runS (s.1, s.2.1, nxC w η s) (minF (later w η s)))
noncomputable def riseN (w : Wd) (η : Ho) : Nat → PS → List Deed → PS × List Deed
  | 0, s, D => (s, D)
  | n + 1, s, D => if later w η s = [] then ((s.1, s.2.1, nxC w η s), D ++ atG s.1 (gS w η s)) else riseN w η n (nxS w η s) (D ++ atG s.1 (gS w η s))
theorem gS_ok {w : Wd} {η : Ho} {s : PS} {θ : Th} (h : θ ∈ gS w η s) : θ.In w ∧ canB w s.2.1 s.2.2 s.1 θ = true ∧ hoOK η s.1 θ.n = true := by
  obtain ⟨h1, h2⟩ := List.mem_filter.mp h
  obtain ⟨h3, h4⟩ := Bool.and_eq_true_iff.mp h2
  exact ⟨thgs_mem.mp h1, h3, h4⟩
/-! ### what stays so -/
theorem PI.nx {w : Wd} {B : Int} {η : Ho} {s : PS} (k : WOK w) (P : PI w B s) (hB : s.1 + 20 ≤ B) : PI w B (s.1, s.2.1, nxC w η s) := by
  refine ⟨P.dm, fun r hr => ?_, P.n0, fun r hr => ?_, P.tb⟩
  · rcases List.mem_append.mp hr with hr | hr
    · exact P.hC r hr
    · obtain ⟨θ, hθ, rfl⟩ := List.mem_map.mp hr
      exact (gS_ok hθ).1
  · rcases List.mem_append.mp hr with hr | hr
    · exact P.lo r hr
    · obtain ⟨θ, hθ, rfl⟩ := List.mem_map.mp hr
      obtain ⟨h1, h2, _⟩ := gS_ok hθ
      obtain ⟨_, d1, d2⟩ := dn_near (d := (s.1, θ)) k h1 h2
      exact ⟨Int.le_trans (by simp only at d1 ⊢; omega) d1, Int.le_trans d2 hB⟩
end DK.W
end
section
set_option Elab.async false
set_option linter.all false
set_option autoImplicit false
set_option maxRecDepth 100000
set_option maxHeartbeats 4000000
/-! DKRiB: the run from minute to minute ends, and brings all as soon as can be (no program in sight). -/
namespace DK.W
open PySem L2 DK
/-! ### it ends -/
/-! ### as soon as can be -/
end DK.W
end
section
set_option Elab.async false
set_option linter.all false
set_option autoImplicit false
set_option maxRecDepth 100000
set_option maxHeartbeats 4000000
/-! DKRiC: no plan is sooner, in plain Lean (no program in sight). -/
namespace DK.W
open PySem L2 DK
/-! ### a plan against it -/
structure JP (w : Wd) (τF : Str → Option Int) (τ : Str → Option Int) (C : List Deed) : Prop where
  a : ∀ x v, τ x = some v → ∃ u, u ≤ v ∧ τF x = some u
  c : ∀ r ∈ C, r.2.In w ∧ ∃ u, u ≤ r.1 ∧ τF r.2.n = some u
end DK.W
end
section
set_option Elab.async false
set_option linter.all false
set_option autoImplicit false
set_option maxRecDepth 100000
set_option maxHeartbeats 4000000
/-! DKFlA: chances and bounds of a table, in plain Lean (no program in sight). -/
namespace DK.W
open PySem L2 DK
/-! ### causes -/
end DK.W
end
section
set_option Elab.async false
set_option linter.all false
set_option autoImplicit false
set_option maxRecDepth 100000
set_option maxHeartbeats 4000000
/-! DKFlB: floors and the soonest minutes, in plain Lean (no program in sight). -/
namespace DK.W
open PySem L2 DK
end DK.W
end
section
set_option Elab.async false
set_option linter.all false
set_option autoImplicit false
set_option maxRecDepth 100000
set_option maxHeartbeats 4000000
/-! DKTbE: what is there by a minute, in plain Lean. -/
namespace DK.W
open PySem L2 DK
end DK.W
end
section
set_option Elab.async false
set_option linter.all false
set_option autoImplicit false
set_option maxRecDepth 100000
set_option maxHeartbeats 4000000
/-! mirrors that many laws share: printed by mirrors.py. -/
namespace DK.W
open PySem L2 DK
end DK.W
end
section
set_option Elab.async false
set_option linter.all false
set_option autoImplicit false
set_option maxRecDepth 100000
set_option maxHeartbeats 4000000
/-! DKRiD: the program begins all that can be begun, in plain Lean. -/
namespace DK.W
open PySem L2 DK
/-- holds handed in as a dict -/
def HoAt (hd : Nat) (η : Ho) (O : Store) : Prop := ∃ kvs, O[hd]? = some (.dct kvs) ∧ ∀ x, (valD kvs (.inr x)).getD (.int 0) = optI (η x)
section
variable {h s l p v st c z q : Nat} {w : Wd} {B m : Int} {u : PS} {mo : D} {O0 O : Store} {θ : Th} {η : Ho} {hd bh wh : Nat} {y2 y3 y4 y5 y6 y7 y8 : Option D}
theorem HoAt.fz {O' : Store} (H : HoAt hd η O) (f : Fz O O') : HoAt hd η O' := by
  obtain ⟨kvs, e, r⟩ := H
  exact ⟨kvs, f.at e, r⟩
end
end DK.W
end
section
set_option Elab.async false
set_option linter.all false
set_option autoImplicit false
set_option maxRecDepth 100000
set_option maxHeartbeats 4000000
/-! DKRiE: the program's run from minute to minute, in plain Lean. -/
namespace DK.W
open PySem L2 DK
end DK.W
end
section
set_option Elab.async false
set_option linter.all false
set_option autoImplicit false
set_option maxRecDepth 100000
set_option maxHeartbeats 4000000
/-! DKRiF: rise_from and rise, in plain Lean. -/
namespace DK.W
open PySem L2 DK
end DK.W
end
section
set_option Elab.async false
set_option linter.all false
set_option autoImplicit false
set_option maxRecDepth 100000
set_option maxHeartbeats 4000000
/-! DKRiG: rise_from and rise to their ends, in plain Lean. -/
namespace DK.W
open PySem L2 DK
section
variable {h s l p v st c z hd s0 : Nat} {w : Wd} {B A : Int} {O0 : Store} {η : Ho}
/-- the soonest minutes -/
noncomputable def soonT (w : Wd) : Str → Option Int := (riseN w ho0 100 s00 []).1.2.1
end
end DK.W
end
section
set_option Elab.async false
set_option linter.all false
set_option autoImplicit false
set_option maxRecDepth 100000
set_option maxHeartbeats 4000000
/-! mirrors that many laws share: printed by mirrors.py. -/
namespace DK.W
open PySem L2 DK
end DK.W
end
section
set_option Elab.async false
set_option linter.all false
set_option autoImplicit false
set_option maxRecDepth 100000
set_option maxHeartbeats 4000000
/-! DKFlC: chances and bounds by the program, in plain Lean. -/
namespace DK.W
open PySem L2 DK
end DK.W
end
section
set_option Elab.async false
set_option linter.all false
set_option autoImplicit false
set_option maxRecDepth 100000
set_option maxHeartbeats 4000000
/-! DKFlD: first chances, bounds and breaks by the program, in plain Lean. -/
namespace DK.W
open PySem L2 DK
end DK.W
end
section
set_option Elab.async false
set_option linter.all false
set_option autoImplicit false
set_option maxRecDepth 100000
set_option maxHeartbeats 4000000
/-! DKFlE: breaks and floors by the program, in plain Lean. -/
namespace DK.W
open PySem L2 DK
end DK.W
end
section
set_option Elab.async false
set_option linter.all false
set_option autoImplicit false
set_option maxRecDepth 100000
set_option maxHeartbeats 4000000
/-! DKFlF: moments, what is there, and chances by the law, in plain Lean. -/
namespace DK.W
open PySem L2 DK
/-- a dict of minutes, some of them None -/
def DctM (md : Nat) (w : Wd) (M : Str → Option Int) (O : Store) : Prop := ∃ kvs, O[md]? = some (.dct kvs) ∧ Mins kvs M (nmsW w)
theorem DctM.fz {md : Nat} {w : Wd} {M : Str → Option Int} {O O' : Store} (d : DctM md w M O) (f : Fz O O') : DctM md w M O' := by
  obtain ⟨kvs, e, K⟩ := d
  exact ⟨kvs, f.at e, K⟩
end DK.W
end
section
set_option Elab.async false
set_option linter.all false
set_option autoImplicit false
set_option maxRecDepth 100000
set_option maxHeartbeats 4000000
/-! DKFlG: what is there at a minute, and chances, by the law, in plain Lean. -/
namespace DK.W
open PySem L2 DK
end DK.W
end
section
set_option Elab.async false
set_option linter.all false
set_option autoImplicit false
set_option maxRecDepth 100000
set_option maxHeartbeats 4000000
/-! DKFlH: breaks by the law, in plain Lean. -/
namespace DK.W
open PySem L2 DK
def pm (vs : List Int) : Option Int := if vs = [] then none else some (minF vs)
section
variable {w : Wd} {O : Store} {M : Str → Option Int} {md g b : Nat} {t c : Int} {θ : Th} {x : Str} {y4 y5 y6 y7 : Option D}
/-- all but b stands as before -/
def Kp (b : Nat) (O O' : Store) : Prop := O'.length = O.length ∧ ∀ i, i ≠ b → O'[i]? = O[i]?
theorem Kp.refl : Kp b O O := ⟨rfl, fun _ _ => rfl⟩
theorem Kp.set {O' : Store} {y : Ob} (h : Kp b O O') : Kp b O (O'.set b y) := ⟨by rw [List.length_set]; exact h.1, fun i hi => by rw [List.getElem?_set_ne (Ne.symm hi)]; exact h.2 i hi⟩
theorem Kp.at {O' : Store} {i : Nat} {y : Ob} (h : Kp b O O') (hi : i ≠ b) (e : O[i]? = some y) : O'[i]? = some y := (h.2 i hi).trans e
end
end DK.W
end
section
set_option Elab.async false
set_option linter.all false
set_option autoImplicit false
set_option maxRecDepth 100000
set_option maxHeartbeats 4000000
/-! mirrors that many laws share: printed by mirrors.py. -/
namespace DK.W
open PySem L2 DK
end DK.W
end
section
set_option Elab.async false
set_option linter.all false
set_option autoImplicit false
set_option maxRecDepth 100000
set_option maxHeartbeats 4000000
/-! DKFlI: the soonest minutes as a table (bounds, causes), the dict of minutes, floors, in plain Lean. -/
namespace DK.W
open PySem L2 DK
/-! ### names -/
/-! ### the dict of minutes -/
abbrev minsR (rs : List Row) : List (Key × D) := dicS (fun r : Row => r.2.1) (fun r => optI r.2.2) (thereR rs)
end DK.W
end
section
set_option Elab.async false
set_option linter.all false
set_option autoImplicit false
set_option maxRecDepth 100000
set_option maxHeartbeats 4000000
/-! DKLcD: the names of a dict that pass a test; sorted texts, in plain Lean. -/
namespace DK.W
open PySem L2 DK
end DK.W
end
section
set_option Elab.async false
set_option linter.all false
set_option autoImplicit false
set_option maxRecDepth 100000
set_option maxHeartbeats 4000000
/-! DKPlI: the law draws a plan, in plain Lean. -/
namespace DK.W
open PySem L2 DK
/-- the law's lists, the deeds too -/
structure DS (w : Wd) (O0 : Store) (t q r : Nat) (τ : Str → Option Int) (C P : List Deed) (O : Store) : Prop where
  tt : DctT t τ O
  tq : O[q]? = some (.lst (C.map rowL))
  tr : O[r]? = some (.lst (P.map rowP))
  fr : Fr O0 O
  ht : O0.length ≤ t
  hq : O0.length ≤ q
  hr : O0.length ≤ r
  p0 : 0 < O0.length
  qr : q ≠ r
  dm : Dom w τ
  hC : ∀ x ∈ C, x.2.In w
  hl : C.length ≤ 900
  hp : P.length ≤ 900
section
variable {w : Wd} {τ : Str → Option Int} {t q r b : Nat} {O0 O : Store} {C P : List Deed} {sl m : Int} {y7 y8 y9 y10 : Option D} {θ : Th} {B : Int}
theorem DS.ne (S : DS w O0 t q r τ C P O) : q ≠ t ∧ r ≠ t := by
  obtain ⟨kv, h2, _⟩ := S.tt
  refine ⟨fun zz => ?_, fun zz => ?_⟩
  · have h1 := S.tq
    rw [zz, h2] at h1
    cases h1
  · have h1 := S.tr
    rw [zz, h2] at h1
    cases h1
end
end DK.W
end
section
set_option Elab.async false
set_option linter.all false
set_option autoImplicit false
set_option maxRecDepth 100000
set_option maxHeartbeats 4000000
/-! mirrors that many laws share: printed by mirrors.py. -/
namespace DK.W
open PySem L2 DK
end DK.W
end
section
set_option Elab.async false
set_option linter.all false
set_option autoImplicit false
set_option maxRecDepth 100000
set_option maxHeartbeats 4000000
/-! DKFlJ: the plan of the soonest minutes: played, it gives just these; plan, paper and judge, in plain Lean. -/
namespace DK.W
open PySem L2 DK
/-! ### judge -/
end DK.W
end
section
set_option Elab.async false
set_option linter.all false
set_option autoImplicit false
set_option maxRecDepth 100000
set_option maxHeartbeats 4000000
/-! DKBxA: deeds of any form, the first bad one, in plain Lean. -/
namespace DK.W
open PySem L2 DK
/-- a deed of any form -/
inductive De where
  | g (m : Int) (pl : Bool) (nm : Str)
  | b (i : Nat)
def kS (pl : Bool) : Str := if pl = true then "plant" else "line"
def badL : List D := [.tup [.int 5, .str "line"], .lst [.int 5, .str "line", .str "la"], .tup [.int (-1), .str "line", .str "la"], .tup [.int 5, .str "station", .str "ash"], .tup [.bl true, .str "line", .str "la"], .tup [.int 5, .str "plant", .int 7]]
def De.enc : De → D
  | .g m pl nm => .tup [.int m, .str (kS pl), .str nm]
  | .b i => badL.getD i .non
def lkT (w : Wd) (pl : Bool) (nm : Str) : Option Th := (thgs w).find? fun θ => decide (θ.n = nm ∧ θ.kd = kS pl)
def ordB (p : Option Deed) (d : Deed) : Bool := match p with
  | none => true
  | some q => PySem.W.dataLt (encR q) (encR d)
/-- a deed's turn: why it is bad, or the deed -/
noncomputable def stp (w : Wd) (p : Option Deed) (s : PS) : De → Sum D Deed
  | .b _ => .inl (.str "form")
  | .g m pl nm => match lkT w pl nm with
    | none => .inl (.str "unknown")
    | some θ => if ordB p (m, θ) = false then .inl (.str "order") else if canB w (runS s m).1 (runS s m).2 m θ = true then .inr (m, θ) else .inl (barW w (runS s m).1 (runS s m).2 m θ)
end DK.W
end
section
set_option Elab.async false
set_option linter.all false
set_option autoImplicit false
set_option maxRecDepth 100000
set_option maxHeartbeats 4000000
/-! DKHot: own errors made and raised (from None) in an except suite: printed by dkhot.py. -/
namespace DK
open PySem L2 L2H
end DK
end
section
set_option Elab.async false
set_option linter.all false
set_option autoImplicit false
set_option maxRecDepth 100000
set_option maxHeartbeats 4000000
/-! DKHotA: `except x as n:` whose suite raises out of the try. -/
namespace DK
open PySem PySem.Spec PyProof.Rows L2 L2H HotX
end DK
end
section
set_option Elab.async false
set_option linter.all false
set_option autoImplicit false
set_option maxRecDepth 100000
set_option maxHeartbeats 4000000
/-! DKHotB: the rule for `except x as n:` with a suite that may raise out of the try. -/
namespace DK
open PySem PySem.Spec PyProof.Rows L2 L2H HotX
end DK
end
section
set_option Elab.async false
set_option linter.all false
set_option autoImplicit false
set_option maxRecDepth 100000
set_option maxHeartbeats 4000000
/-! DKHotC: `except x as n:` with a suite that may raise, by mirrors. -/
namespace DK
open PySem L2
end DK
end
section
set_option Elab.async false
set_option linter.all false
set_option autoImplicit false
set_option maxRecDepth 100000
set_option maxHeartbeats 4000000
/-! DKBm: the mirror of play whose suite raises: turned from K21Walk. -/
namespace DK.X
open PySem L2 DK DK.W
end DK.X
end
section
set_option Elab.async false
set_option linter.all false
set_option autoImplicit false
set_option maxRecDepth 100000
set_option maxHeartbeats 4000000
/-! DKBxB: play with deeds of any form, in plain Lean. -/
namespace DK.W
open PySem L2 DK
/-- a list of deeds of any form, handed in -/
structure DX (X : List De) (dd : D) (O0 : Store) : Prop where
  len : ∀ O, Fz O0 O → gLen O dd = some (.int X.length, O)
  ix : ∀ (O : Store) (i : Nat) (e : De), Fz O0 O → X[i]? = some e → gIx O dd (.int (i : Int)) = some (e.enc, O)
theorem DX.fz {X : List De} {dd : D} {O0 O : Store} (h : DX X dd O0) (f : Fz O0 O) : DX X dd O := ⟨fun O' g => h.len O' (f.trans g), fun O' i e g => h.ix O' i e (f.trans g)⟩
end DK.W
end
section
set_option Elab.async false
set_option linter.all false
set_option autoImplicit false
set_option maxRecDepth 100000
set_option maxHeartbeats 4000000
/-! DKBxC: play with deeds of any form: the loop and the end, in plain Lean. -/
namespace DK.W
open PySem L2 DK DK.X
end DK.W
end
section
set_option Elab.async false
set_option linter.all false
set_option autoImplicit false
set_option maxRecDepth 100000
set_option maxHeartbeats 4000000
/-! DKBxD: plans that fail, by the law's run and by the judge, in plain Lean. -/
namespace DK.W
open PySem L2 DK DK.X
/-! ### a deed as a deed of any form -/
end DK.W
end
section
set_option Elab.async false
set_option linter.all false
set_option autoImplicit false
set_option maxRecDepth 100000
set_option maxHeartbeats 4000000
/-! DKBxE: the law's run of a plan that fails, and the judge, in plain Lean. -/
namespace DK.W
open PySem L2 DK DK.X
/-! ### judge -/
end DK.W
end
section
set_option Elab.async false
set_option linter.all false
set_option autoImplicit false
set_option maxRecDepth 100000
set_option maxHeartbeats 4000000
/-! DKNdA: plans of more deeds bring no less; deeds begun at a minute or later bring nothing by then (no program in sight). -/
namespace DK.W
open PySem L2 DK
/-- plans in order from a state on -/
structure FromS (w : Wd) (B : Int) (s : PS) (ds : List Deed) : Prop where
  asc : ds.Pairwise fun a b => a.1 ≤ b.1
  inw : ∀ d ∈ ds, s.1 ≤ d.1 ∧ d.1 + 20 ≤ B ∧ d.2.In w
/-! ### fewer deeds -/
theorem PlanOK.from {w : Wd} {B : Int} {ds : List Deed} (p : PlanOK w B ds) : FromS w B s00 ds := ⟨p.asc, fun d hd => p.inw d hd⟩
theorem PlanOK.sub {w : Wd} {B : Int} {A D : List Deed} (p : PlanOK w B D) (h : A.Sublist D) : PlanOK w B A := ⟨p.asc.sublist h, fun d hd => p.inw d (h.subset hd), by have := h.length_le; have := p.len; omega⟩
/-! ### leaving out from the last to the first -/
end DK.W
end
section
set_option Elab.async false
set_option linter.all false
set_option autoImplicit false
set_option maxRecDepth 100000
set_option maxHeartbeats 4000000
/-! DKFeM: mirrors of feeder_of, feeds, far_end and the law's feeds: turned from K38Walk. -/
namespace DK.W
open PySem L2 DK
end DK.W
end
section
set_option Elab.async false
set_option linter.all false
set_option autoImplicit false
set_option maxRecDepth 100000
set_option maxHeartbeats 4000000
/-! DKFeA: from where deeds are fed, by the program, in plain Lean. -/
namespace DK.W
open PySem L2 DK
end DK.W
end
section
set_option Elab.async false
set_option linter.all false
set_option autoImplicit false
set_option maxRecDepth 100000
set_option maxHeartbeats 4000000
/-! DKFeB: the feeds of a plan, by the program, in plain Lean. -/
namespace DK.W
open PySem L2 DK
end DK.W
end
section
set_option Elab.async false
set_option linter.all false
set_option autoImplicit false
set_option maxRecDepth 100000
set_option maxHeartbeats 4000000
/-! DKCaA: by what each station was lit (no program in sight). -/
namespace DK.W
open PySem L2 DK
end DK.W
end
section
set_option Elab.async false
set_option linter.all false
set_option autoImplicit false
set_option maxRecDepth 100000
set_option maxHeartbeats 4000000
/-! DKFeC: from where deeds are fed, by the law, in plain Lean. -/
namespace DK.W
open PySem L2 DK
/-- the law's lists, and what it has found -/
structure LSF (w : Wd) (O0 : Store) (t q fo : Nat) (τ : Str → Option Int) (C : List Deed) (fs : List Str) (O : Store) : Prop where
  ls : LS w O0 t q τ C O
  ef : O[fo]? = some (.lst (fs.map .str))
  n1 : fo ≠ t
  n2 : fo ≠ q
  ge : O0.length ≤ fo
section
variable {w : Wd} {τ : Str → Option Int} {t q fo : Nat} {O0 O : Store} {C : List Deed} {ds : List Deed} {dd : D} {y5 y6 y7 y8 y9 y10 y11 : Option D} {θ : Th} {B : Int} {fs : List Str}
theorem LSF.arr (k : WOK w) (S : LSF w O0 t q fo τ C fs O) (x : Int) : ∃ O', f_law_arrive [encW w, .hdl t, .hdl q, .int x] O = .ok (.hdl O.length) O' ∧ LSF w O0 t O.length fo (advT τ C x) (advC C x) fs O' := by
  have hl := S.ls.hl
  obtain ⟨kv, e, dk⟩ := larrive_ok (y0 := encW w) (m := x) S.ls.tt k S.ls.dm S.ls.hC S.ls.tq (by omega) S.ls.ne
  obtain ⟨O', e2, S2⟩ := S.ls.arr k x
  rw [e] at e2
  have eO : O.set t (.dct kv) ++ [.lst ((advC C x).map rowL)] = O' := by injection e2
  have lf := (List.getElem?_eq_some_iff.mp S.ef).1
  refine ⟨O', by rw [e, eO], S2, ?_, S.n1, by omega, S.ge⟩
  rw [← eO, List.getElem?_append_left (by rw [List.length_set]; exact lf), List.getElem?_set_ne (Ne.symm S.n1)]
  exact S.ef
end
end DK.W
end
section
set_option Elab.async false
set_option linter.all false
set_option autoImplicit false
set_option maxRecDepth 100000
set_option maxHeartbeats 4000000
/-! DKFeD: the far end of a line, in plain Lean. -/
namespace DK.W
open PySem L2 DK
end DK.W
end
section
set_option Elab.async false
set_option linter.all false
set_option autoImplicit false
set_option maxRecDepth 100000
set_option maxHeartbeats 4000000
/-! DKAsk: the plan that a law asks about; small facts of stores, in plain Lean. -/
namespace DK.W
open PySem L2 DK
theorem glist_l {O : Store} {xs : List D} (hl : xs.length ≤ 1000) : gList false O (.lst xs) = some (.lst xs, O) := by
  have : xs.length ≤ 1000000 := by omega
  simp [gList, seqOf, lsqOf, lstOf, newLO, this]
end DK.W
end
section
set_option Elab.async false
set_option linter.all false
set_option autoImplicit false
set_option maxRecDepth 100000
set_option maxHeartbeats 4000000
/-! DKKv: dicts of names, small facts of stores and of lists, in plain Lean. -/
namespace DK.W
open PySem L2 DK
theorem lsq_h {O : Store} {n : Nat} {xs : List D} (e : O[n]? = some (.lst xs)) : lsqOf O (.hdl n) = some xs := by
  simp [lsqOf, lstOf, e]
theorem len_lst {O : Store} {xs : List D} : gLen O (.lst xs) = some (.int (xs.length : Int), O) := by
  simp [gLen, seqOf, lsqOf, lstOf]
theorem strs_ne {O : Store} {xs ys : List Str} (h : ∀ x ∈ xs, PyData.strOk x = true) (e : xs = ys) : gNe O (.lst (xs.map .str)) (.lst (ys.map .str)) = some (.bl false, O) := by
  subst e
  have ok : okV (.lst (xs.map .str)) 29 = true := okV_strs h
  exact gNe_of (b := true) (by rw [eqD_pd ok ok (.inl rfl), eqv_self ok])
theorem ne_hdls {O : Store} {m n : Nat} {xs : List D} (hm : O[m]? = some (.lst xs)) (hn : O[n]? = some (.lst xs)) (h : okV (.lst xs) 29 = true) : gNe O (.hdl m) (.hdl n) = some (.bl false, O) := gNe_of (b := true) (by rw [eqD_hl hm, eqD_hr hn, eqD_pd h h (.inl rfl), eqv_self h])
theorem asg_v {L : Loc} {O O1 : Store} {m : EM} {x : D} {i : Nat} (h : m L O = .ok x O1) : (sAsg m (bName i)) L O = .next (L.set i (some x)) O1 := by
  unfold sAsg
  rw [h]
  rfl
section
variable {α : Type} (K : RowK α)
theorem RowK.min_fold : ∀ (xs : List α) (x : α), ∃ r ∈ x :: xs, PySem.W.minD (K.enc x) (xs.map K.enc) = K.enc r ∧ ∀ y ∈ x :: xs, K.le r y = true
  | [], x => ⟨x, by simp, rfl, fun y hy => by rw [List.mem_singleton.mp hy]; exact K.le_self x⟩
  | z :: zs, x => by
    have e : PySem.W.minD (K.enc x) ((z :: zs).map K.enc) = PySem.W.minD (if PySem.W.dataLt (K.enc z) (K.enc x) = true then K.enc z else K.enc x) (zs.map K.enc) := rfl
    cases c : PySem.W.dataLt (K.enc z) (K.enc x) with
    | true =>
      obtain ⟨r, hr, e2, h⟩ := RowK.min_fold zs z
      rw [e, c, if_pos rfl]
      have hzx : K.le z x = true := by
        have := K.le_total z x
        rwa [show K.le x z = false by rw [K.le_lt, c]; rfl, Bool.or_false] at this
      refine ⟨r, List.mem_cons_of_mem _ hr, e2, fun y hy => ?_⟩
      rcases List.mem_cons.mp hy with rfl | hy
      · exact K.le_trans _ _ _ (h z (by simp)) hzx
      · exact h y hy
    | false =>
      obtain ⟨r, hr, e2, h⟩ := RowK.min_fold zs x
      rw [e, c, if_neg Bool.false_ne_true]
      refine ⟨r, ?_, e2, fun y hy => ?_⟩
      · rcases List.mem_cons.mp hr with rfl | hr
        · simp
        · simp [hr]
      · rcases List.mem_cons.mp hy with rfl | hy
        · exact h y (by simp)
        · rcases List.mem_cons.mp hy with rfl | hy
          · exact K.le_trans _ _ _ (h x (by simp)) (by rw [K.le_lt, c]; rfl)
          · exact h y (by simp [hy])
theorem RowK.depthAll : ∀ C : List α, PyData.depthAll (C.map K.enc) ≤ 40
  | [] => by
    show PyData.depthAll [] ≤ 40
    decide
  | r :: C => by
    have ih := RowK.depthAll C
    show max (PyData.depth (K.enc r)) (PyData.depthAll (C.map K.enc)) ≤ 40
    have := K.de r
    omega
theorem RowK.minD (hf : ∀ r, flatT (K.d r) = true) (hdec : ∀ r, decD (K.enc r) = some (K.d r)) {O : Store} {d : D} {C : List α} (hd : lsqOf O d = some (C.map K.d)) (hc : C ≠ []) : ∃ r ∈ C, gMinD O d = some (K.d r, O) ∧ ∀ y ∈ C, K.le r y = true := by
  cases C with
  | nil => exact absurd rfl hc
  | cons x xs =>
    obtain ⟨r, hr, e, h⟩ := K.min_fold xs x
    refine ⟨r, hr, ?_, h⟩
    unfold gMinD
    rw [hd]
    have ft : ((x :: xs).map K.d).all flatT = true := by
      rw [List.all_eq_true]
      intro y hy
      obtain ⟨r, _, rfl⟩ := List.mem_map.mp hy
      exact hf r
    have me := K.map_enc (O := O) (x :: xs)
    have mo : minOk O ((x :: xs).map K.d) = true := by
      unfold minOk
      rw [ft, me, K.alikes, K.sortB, decide_eq_true (K.depthAll _)]
      rfl
    show (if minOk O ((x :: xs).map K.d) = true then (decD (PySem.W.minD (DK.encD O (K.d x)) ((xs.map K.d).map (DK.encD O)))).map fun b => (b, O) else none) = _
    rw [if_pos mo, K.encD, K.map_enc, e, hdec]
    rfl
end
end DK.W
end
section
set_option Elab.async false
set_option linter.all false
set_option autoImplicit false
set_option maxRecDepth 100000
set_option maxHeartbeats 4000000
/-! mirrors that many laws share: printed by mirrors.py. -/
namespace DK.W
open PySem L2 DK
def b_land_rows : SM := (sSeq (sAsg (mLcL false (mFld "Land" "_stations" (mVar 0)) [2] (bName 2) mYes (mTup (mCons (mC (.str "station")) (mCons (mVar 2) (mCons (mTup mNil) mNil))))) (bName 1))
    (sSeq (sAsg (mOp (gAdd true) (mVar 1) (mLcL false (mMeth "Land" "lines" (arity 1 f_land_lines) [] (mVar 0) mNil) [2] (bName 2) mYes (mTup (mCons (mC (.str "line")) (mCons (mVar 2) (mCons (mDGet (mFld "Land" "_lines" (mVar 0)) (mVar 2)) mNil)))))) (bName 1))
    (sSeq (sForL (mMeth "Land" "plants" (arity 1 f_land_plants) [] (mVar 0) mNil) (bName 2) (sSeq (sAsg (mC (.str "plant")) (bName 3))
    (sSeq (sAsg (mDGet (mFld "Land" "_plants" (mVar 0)) (mVar 2)) (bName 4))
    (sSeq (sIf (mTest (mOp gIn (mVar 2) (mFld "Land" "_selves" (mVar 0)))) (sSeq (sAsg (mC (.str "self")) (bName 3))
    (sAsg (mTup (mCons (mOp gIx (mVar 4) (mC (.int 0))) (mCons (mOp gIx (mVar 4) (mC (.int 2))) (mCons (mOp gIx (mVar 4) (mC (.int 3))) mNil)))) (bName 4))) sNext)
    (sDrop (mApp (mVar 1) (mTup (mCons (mVar 3) (mCons (mVar 2) (mCons (mVar 4) mNil))))))))))
    (sRet (mVar 1)))))
def f_land_rows : FM := runF 5 b_land_rows
end DK.W
end
section
set_option Elab.async false
set_option linter.all false
set_option autoImplicit false
set_option maxRecDepth 100000
set_option maxHeartbeats 4000000
/-! DKLr: the rows of a land, in plain Lean. -/
namespace DK.LR
open PySem L2 DK DK.W
section
variable {s l p v : D}
theorem lk_stations : List.lookup ("stations" : Str) [(("_stations" : Str), s), (("_lines" : Str), l), (("_plants" : Str), p), (("_selves" : Str), v)] = none := rfl
theorem lk_lines : List.lookup ("lines" : Str) [(("_stations" : Str), s), (("_lines" : Str), l), (("_plants" : Str), p), (("_selves" : Str), v)] = none := rfl
theorem lk_plants : List.lookup ("plants" : Str) [(("_stations" : Str), s), (("_lines" : Str), l), (("_plants" : Str), p), (("_selves" : Str), v)] = none := rfl
theorem lk_names : List.lookup ("names" : Str) [(("_stations" : Str), s), (("_lines" : Str), l), (("_plants" : Str), p), (("_selves" : Str), v)] = none := rfl
theorem lk_line : List.lookup ("line" : Str) [(("_stations" : Str), s), (("_lines" : Str), l), (("_plants" : Str), p), (("_selves" : Str), v)] = none := rfl
theorem lk_plant : List.lookup ("plant" : Str) [(("_stations" : Str), s), (("_lines" : Str), l), (("_plants" : Str), p), (("_selves" : Str), v)] = none := rfl
theorem lk_is_self : List.lookup ("is_self" : Str) [(("_stations" : Str), s), (("_lines" : Str), l), (("_plants" : Str), p), (("_selves" : Str), v)] = none := rfl
theorem lk_lines_at : List.lookup ("lines_at" : Str) [(("_stations" : Str), s), (("_lines" : Str), l), (("_plants" : Str), p), (("_selves" : Str), v)] = none := rfl
theorem lk_plants_at : List.lookup ("plants_at" : Str) [(("_stations" : Str), s), (("_lines" : Str), l), (("_plants" : Str), p), (("_selves" : Str), v)] = none := rfl
theorem lk_far_end : List.lookup ("far_end" : Str) [(("_stations" : Str), s), (("_lines" : Str), l), (("_plants" : Str), p), (("_selves" : Str), v)] = none := rfl
theorem lk_rows : List.lookup ("rows" : Str) [(("_stations" : Str), s), (("_lines" : Str), l), (("_plants" : Str), p), (("_selves" : Str), v)] = none := rfl
theorem lk_there : List.lookup ("_there" : Str) [(("_stations" : Str), s), (("_lines" : Str), l), (("_plants" : Str), p), (("_selves" : Str), v)] = none := rfl
theorem lk_copy : List.lookup ("copy" : Str) [(("_stations" : Str), s), (("_lines" : Str), l), (("_plants" : Str), p), (("_selves" : Str), v)] = none := rfl
theorem lk_remove_station : List.lookup ("remove_station" : Str) [(("_stations" : Str), s), (("_lines" : Str), l), (("_plants" : Str), p), (("_selves" : Str), v)] = none := rfl
theorem lk_remove_line : List.lookup ("remove_line" : Str) [(("_stations" : Str), s), (("_lines" : Str), l), (("_plants" : Str), p), (("_selves" : Str), v)] = none := rfl
theorem lk_remove_plant : List.lookup ("remove_plant" : Str) [(("_stations" : Str), s), (("_lines" : Str), l), (("_plants" : Str), p), (("_selves" : Str), v)] = none := rfl
theorem lk_add_station : List.lookup ("add_station" : Str) [(("_stations" : Str), s), (("_lines" : Str), l), (("_plants" : Str), p), (("_selves" : Str), v)] = none := rfl
theorem lk_add_line : List.lookup ("add_line" : Str) [(("_stations" : Str), s), (("_lines" : Str), l), (("_plants" : Str), p), (("_selves" : Str), v)] = none := rfl
theorem lk_add_self : List.lookup ("add_self" : Str) [(("_stations" : Str), s), (("_lines" : Str), l), (("_plants" : Str), p), (("_selves" : Str), v)] = none := rfl
theorem lk_add_plant : List.lookup ("add_plant" : Str) [(("_stations" : Str), s), (("_lines" : Str), l), (("_plants" : Str), p), (("_selves" : Str), v)] = none := rfl
theorem lk_free : List.lookup ("_free" : Str) [(("_stations" : Str), s), (("_lines" : Str), l), (("_plants" : Str), p), (("_selves" : Str), v)] = none := rfl
theorem lk_room : List.lookup ("_room" : Str) [(("_stations" : Str), s), (("_lines" : Str), l), (("_plants" : Str), p), (("_selves" : Str), v)] = none := rfl
theorem lk_kind : List.lookup ("kind" : Str) [(("_stations" : Str), s), (("_lines" : Str), l), (("_plants" : Str), p), (("_selves" : Str), v)] = none := rfl
end
structure OK13 (w : Wd) : Prop where
  k : Srt w
  st : sortS w.st = w.st
  sn : ∀ x ∈ w.st, x ∈ NAMES
  ln : ∀ x ∈ w.ls, x.n ∈ NAMES
  pn : ∀ x ∈ w.ps, x.n ∈ NAMES
theorem ok13 {w : Wd} (k : WOK w) : OK13 w := by
  refine ⟨k.srt, ?_, fun x => k.snm, fun x => k.lnm, fun x => k.pnm⟩
  exact k.st_srt
section
variable {h s l p v : Nat} {w : Wd} {O : Store} {nm : Str}
/-- the same land, its plants added in another order -/
structure Like (w w2 : Wd) : Prop where
  st : w2.st = w.st
  ls : w2.ls = w.ls
  p8 : w2.ps.length < 60
  pn : sortS (w2.ps.map (·.n)) = w.ps.map (·.n)
  pv : ∀ x ∈ w.ps, valD (dicS (·.n) plantD w2.ps) (.inr x.n) = some (plantD x)
  al : ∀ x ∈ w.ps, decide (x.n ∈ (w2.ps.filter (·.alone)).map (·.n)) = x.alone
theorem like_self (k : Srt w) : Like w w := by
  refine ⟨rfl, rfl, k.p8, k.pn, fun x hx => val_nm (n := Pl.n) (g := plantD) k.pnd hx, fun x hx => ?_⟩
  rw [Bool.eq_iff_iff, decide_eq_true_iff]
  exact mem_alone k.pnd hx
theorem plants_like {w2 : Wd} (a : LandAt h s l p v w2 O) (k : Like w w2) : f_land_plants [.hdl h] O = .ok (.lst ((w.ps.map (·.n)).map .str)) O := by
  have hl : w.ps.length < 60 := by
    have := congrArg List.length k.pn
    rw [List.length_map, show (sortS (w2.ps.map (·.n))).length = (w2.ps.map (·.n)).length from (List.mergeSort_perm _ _).length_eq, List.length_map] at this
    have := k.p8
    omega
  have e : gSorted false O (.hdl p) = some (.lst ((w.ps.map (·.n)).map .str), O) := by
    unfold gSorted
    simp only [dctOf, a.ep, inrs_dic]
    rw [if_pos (by rw [List.length_map]; have := k.p8; omega), k.pn]
    simp [newLO]
    omega
  generalize (w.ps.map (·.n)).map D.str = z at *
  simp [f_land_plants, b_land_plants, runF, sSeq, sIf, sNext, sDrop, sRet, sRetN, sAsg, ofRes, ofB, bName, bNil, bCons, bTup, bLst, bSubL, mTest, mOp, mVar, mC, mChain, mAnd, mOr, mNot, mIf, mAndV, mOrV, mNotV, mNeg, mCons, mNil, mTup, mLst, newL, mCall, mFn, arity, g1, g2, gLen, gInt, gAbs, gMax2, gMin2, gIx, seqOf, lsqOf, lstOf, Res.bind, ofO, gAdd_ok, gSub_ok, gEq_int, gNe_int, gLt_int, gLe_int, gGt_int, gGe_int, gEq_bl, gNe_bl, gEq_str, gNe_str, mIsi, mIsiT, tyD, kitL, kitTab, atI_c0, atI_c1, atI_c2, atI_c3, atI_c4, sForR1, int1, int2, mMeth, mMake, mFld, sFldM, gIs, gIsNot, isNon_t, sRaise, gList, newLO, a.eo, lkp, e]
def rowP (x : Pl) : D := if x.alone = true then .tup [.str "self", .str x.n, .tup [.str x.s, .int x.gives, .int x.quick]] else .tup [.str "plant", .str x.n, plantD x]
def rowsD (w : Wd) : List D := w.st.map (fun x => .tup [.str "station", .str x, .tup []]) ++ (w.ls.map (fun l => .tup [.str "line", .str l.n, lineD l]) ++ w.ps.map rowP)
theorem fm_map {α : Type} {f : D → Option D} {g : α → D} {e : α → D} {xs : List α} (h : ∀ x ∈ xs, f (e x) = some (g x)) : (xs.map e).filterMap f = xs.map g := by
  induction xs with
  | nil => rfl
  | cons x xs ih =>
    rw [List.map_cons, List.filterMap_cons, h x (by simp)]
    rw [ih fun y hy => h y (by simp [hy])]
    rfl
theorem rows_ok {w2 : Wd} (a : LandAt h s l p v w2 O) (k : Srt w) (K : Like w w2) : ∃ (n : Nat) (O' : Store), f_land_rows [.hdl h] O = .ok (.hdl n) O' ∧ O'[n]? = some (.lst (rowsD w)) ∧ Fz O O' ∧ O.length ≤ n := by
  have s8 := k.s8
  have l8 := k.l8
  have p8 := k.p8
  -- the stations
  obtain ⟨R1, hR1⟩ : ∃ R1 : List D, w.st.map (fun x => D.tup [.str "station", .str x, .tup []]) = R1 := ⟨_, rfl⟩
  have rl1 : R1.length < 60 := by rw [← hR1, List.length_map]; exact s8
  have c1 : mLcL false (mFld "Land" "_stations" (mVar 0)) [2] (bName 2) mYes (mTup (mCons (mC (.str "station")) (mCons (mVar 2) (mCons (mTup mNil) mNil)))) [some (.hdl h), none, none, none, none] O = .ok (.lst R1) O := by
    rw [lcL_pure (ds := w2.st.map .str) (O1 := O) (d := .hdl s) (fun d => match d with | .str x => some (.tup [.str "station", .str x, .tup []]) | _ => none) (by simp [runF, sSeq, sIf, sNext, sDrop, sRet, sRetN, sAsg, ofRes, ofB, bName, bNil, bCons, bTup, bLst, bSubL, mTest, mOp, mVar, mC, mChain, mAnd, mOr, mNot, mIf, mAndV, mOrV, mNotV, mNeg, mCons, mNil, mTup, mLst, newL, mCall, mFn, arity, g1, g2, gLen, gInt, gAbs, gMax2, gMin2, gIx, seqOf, lsqOf, lstOf, Res.bind, ofO, gAdd_ok, gSub_ok, gEq_int, gNe_int, gLt_int, gLe_int, gGt_int, gGe_int, gEq_bl, gNe_bl, gEq_str, gNe_str, mIsi, mIsiT, tyD, kitL, kitTab, atI_c0, atI_c1, atI_c2, atI_c3, atI_c4, sForR1, int1, int2, mMeth, mMake, mFld, sFldM, gIs, gIsNot, isNon_t, sRaise, gList, newLO, a.eo, lks]) (by simp [lsqOf, lstOf, a.es]) (by rw [List.length_map, K.st]; omega) (fun d hd => by
      obtain ⟨x, hx, rfl⟩ := List.mem_map.mp hd
      exact ⟨_, rfl, .inl ⟨_, rfl, by simp [wipeL, runF, sSeq, sIf, sNext, sDrop, sRet, sRetN, sAsg, ofRes, ofB, bName, bNil, bCons, bTup, bLst, bSubL, mTest, mOp, mVar, mC, mChain, mAnd, mOr, mNot, mIf, mAndV, mOrV, mNotV, mNeg, mCons, mNil, mTup, mLst, newL, mCall, mFn, arity, g1, g2, gLen, gInt, gAbs, gMax2, gMin2, gIx, seqOf, lsqOf, lstOf, Res.bind, ofO, gAdd_ok, gSub_ok, gEq_int, gNe_int, gLt_int, gLe_int, gGt_int, gGe_int, gEq_bl, gNe_bl, gEq_str, gNe_str, mIsi, mIsiT, tyD, kitL, kitTab, atI_c0, atI_c1, atI_c2, atI_c3, atI_c4, sForR1, int1, int2, mMeth, mMake, mFld, sFldM, gIs, gIsNot, isNon_t, sRaise, gList, newLO], rfl⟩⟩), K.st, fm_map (e := D.str) (g := fun x => D.tup [.str "station", .str x, .tup []]) (fun x hx => rfl), hR1]
  -- the lines
  obtain ⟨R2, hR2⟩ : ∃ R2 : List D, w.ls.map (fun l => D.tup [.str "line", .str l.n, lineD l]) = R2 := ⟨_, rfl⟩
  have rl2 : R2.length < 60 := by rw [← hR2, List.length_map]; exact l8
  obtain ⟨O1, hO1⟩ : ∃ O1, O = O1 := ⟨_, rfl⟩
  have f1 : Fz O O1 := hO1 ▸ Fz.refl _
  have l1 : O1.length = O.length := by rw [← hO1]
  have lo : f_land_lines [.hdl h] O = .ok (.lst ((w.ls.map (·.n)).map .str)) O1 := by
    have aw : LandAt h s l p v ⟨w.st, w.ls, w2.ps⟩ O := ⟨a.eo, by rw [a.es, K.st], by rw [a.el, K.ls], a.ep, a.ev, a.lp, a.sv, a.pos⟩
    have e : gSorted false O (.hdl l) = some (.lst ((w.ls.map (·.n)).map .str), O1) := by
      unfold gSorted
      simp only [dctOf, aw.el, inrs_dic]
      rw [if_pos (by rw [List.length_map]; omega), k.ln, ← hO1]
      simp [newLO]
      omega
    generalize (w.ls.map (·.n)).map D.str = zz at *
    simp [f_land_lines, b_land_lines, runF, sSeq, sIf, sNext, sDrop, sRet, sRetN, sAsg, ofRes, ofB, bName, bNil, bCons, bTup, bLst, bSubL, mTest, mOp, mVar, mC, mChain, mAnd, mOr, mNot, mIf, mAndV, mOrV, mNotV, mNeg, mCons, mNil, mTup, mLst, newL, mCall, mFn, arity, g1, g2, gLen, gInt, gAbs, gMax2, gMin2, gIx, seqOf, lsqOf, lstOf, Res.bind, ofO, gAdd_ok, gSub_ok, gEq_int, gNe_int, gLt_int, gLe_int, gGt_int, gGe_int, gEq_bl, gNe_bl, gEq_str, gNe_str, mIsi, mIsiT, tyD, kitL, kitTab, atI_c0, atI_c1, atI_c2, atI_c3, atI_c4, sForR1, int1, int2, mMeth, mMake, mFld, sFldM, gIs, gIsNot, isNon_t, sRaise, gList, newLO, a.eo, lkl, e]
  have c2 : mLcL false (mMeth "Land" "lines" (arity 1 f_land_lines) [] (mVar 0) mNil) [2] (bName 2) mYes (mTup (mCons (mC (.str "line")) (mCons (mVar 2) (mCons (mDGet (mFld "Land" "_lines" (mVar 0)) (mVar 2)) mNil)))) [some (.hdl h), some (.lst R1), none, none, none] O = .ok (.lst R2) O1 := by
    have eo1 := f1.at a.eo
    have el1 := f1.at a.el
    rw [K.ls] at el1
    rw [lcL_pure (ds := (w.ls.map (·.n)).map .str) (O1 := O1) (d := .lst ((w.ls.map (·.n)).map .str)) (fun d => match d with | .str x => (valD (dicS (·.n) lineD w.ls) (.inr x)).map fun y => D.tup [.str "line", .str x, y] | _ => none) (by generalize (w.ls.map (·.n)).map D.str = zz at *; simp [runF, sSeq, sIf, sNext, sDrop, sRet, sRetN, sAsg, ofRes, ofB, bName, bNil, bCons, bTup, bLst, bSubL, mTest, mOp, mVar, mC, mChain, mAnd, mOr, mNot, mIf, mAndV, mOrV, mNotV, mNeg, mCons, mNil, mTup, mLst, newL, mCall, mFn, arity, g1, g2, gLen, gInt, gAbs, gMax2, gMin2, gIx, seqOf, lsqOf, lstOf, Res.bind, ofO, gAdd_ok, gSub_ok, gEq_int, gNe_int, gLt_int, gLe_int, gGt_int, gGe_int, gEq_bl, gNe_bl, gEq_str, gNe_str, mIsi, mIsiT, tyD, kitL, kitTab, atI_c0, atI_c1, atI_c2, atI_c3, atI_c4, sForR1, int1, int2, mMeth, mMake, mFld, sFldM, gIs, gIsNot, isNon_t, sRaise, gList, newLO, a.eo, lk_stations, lk_lines, lk_plants, lk_names, lk_line, lk_plant, lk_is_self, lk_lines_at, lk_plants_at, lk_far_end, lk_rows, lk_there, lk_copy, lk_remove_station, lk_remove_line, lk_remove_plant, lk_add_station, lk_add_line, lk_add_self, lk_add_plant, lk_free, lk_room, lk_kind, lo]) rfl (by rw [List.length_map, List.length_map]; omega) (fun d hd => by
      rw [List.map_map] at hd
      obtain ⟨x, hx, rfl⟩ := List.mem_map.mp hd
      have e := val_nm (n := Ln.n) (g := lineD) k.lnd hx
      refine ⟨[some (.hdl h), some (.lst R1), some (.str x.n), none, none], rfl, .inl ⟨.tup [.str "line", .str x.n, lineD x], rfl, ?_, ?_⟩⟩
      · generalize dicS Ln.n lineD w.ls = z at *
        simp [mDGet, dctOf, keyD, runF, sSeq, sIf, sNext, sDrop, sRet, sRetN, sAsg, ofRes, ofB, bName, bNil, bCons, bTup, bLst, bSubL, mTest, mOp, mVar, mC, mChain, mAnd, mOr, mNot, mIf, mAndV, mOrV, mNotV, mNeg, mCons, mNil, mTup, mLst, newL, mCall, mFn, arity, g1, g2, gLen, gInt, gAbs, gMax2, gMin2, gIx, seqOf, lsqOf, lstOf, Res.bind, ofO, gAdd_ok, gSub_ok, gEq_int, gNe_int, gLt_int, gLe_int, gGt_int, gGe_int, gEq_bl, gNe_bl, gEq_str, gNe_str, mIsi, mIsiT, tyD, kitL, kitTab, atI_c0, atI_c1, atI_c2, atI_c3, atI_c4, sForR1, int1, int2, mMeth, mMake, mFld, sFldM, gIs, gIsNot, isNon_t, sRaise, gList, newLO, eo1, el1, lkl, e]
      · show (valD (dicS (·.n) lineD w.ls) (.inr x.n)).map _ = _
        rw [e]
        rfl), List.map_map, fm_map (g := fun l => D.tup [.str "line", .str l.n, lineD l]) (fun x hx => by
          show (valD (dicS (·.n) lineD w.ls) (.inr x.n)).map _ = _
          rw [val_nm (n := Ln.n) (g := lineD) k.lnd hx]
          rfl), hR2]
  -- the plants
  obtain ⟨O2, hO2⟩ : ∃ O2, O1 ++ [Ob.lst (R1 ++ R2)] = O2 := ⟨_, rfl⟩
  have f2 : Fz O1 O2 := hO2 ▸ fz_app
  have g2' : O2[O1.length]? = some (.lst (R1 ++ R2)) := by rw [← hO2, List.getElem?_append_right (Nat.le_refl _)]; simp
  obtain ⟨n, hn⟩ : ∃ n, O1.length = n := ⟨_, rfl⟩
  rw [hn] at g2'
  have a2 : LandAt h s l p v w2 O2 := a.fr (f1.trans f2).fr
  obtain ⟨L3, O3, e3, y2, y3, y4, hL3, g3, f3⟩ := forL_keeps (m := mMeth "Land" "plants" (arity 1 f_land_plants) [] (mVar 0) mNil) (b := bName 2) (body := (sSeq (sAsg (mC (.str "plant")) (bName 3))
    (sSeq (sAsg (mDGet (mFld "Land" "_plants" (mVar 0)) (mVar 2)) (bName 4))
    (sSeq (sIf (mTest (mOp gIn (mVar 2) (mFld "Land" "_selves" (mVar 0)))) (sSeq (sAsg (mC (.str "self")) (bName 3))
    (sAsg (mTup (mCons (mOp gIx (mVar 4) (mC (.int 0))) (mCons (mOp gIx (mVar 4) (mC (.int 2))) (mCons (mOp gIx (mVar 4) (mC (.int 3))) mNil)))) (bName 4))) sNext)
    (sDrop (mApp (mVar 1) (mTup (mCons (mVar 3) (mCons (mVar 2) (mCons (mVar 4) mNil)))))))))) (L := [some (.hdl h), some (.hdl n), none, none, none]) (O := O2) (O1 := O2) (ds := (w.ps.map (·.n)).map .str)
    (I := fun i L O' => ∃ y2 y3 y4 : Option D, L = [some (.hdl h), some (.hdl n), y2, y3, y4] ∧ O'[n]? = some (.lst (R1 ++ R2 ++ (w.ps.take i).map rowP)) ∧ Fz O O')
    (by simp [runF, sSeq, sIf, sNext, sDrop, sRet, sRetN, sAsg, ofRes, ofB, bName, bNil, bCons, bTup, bLst, bSubL, mTest, mOp, mVar, mC, mChain, mAnd, mOr, mNot, mIf, mAndV, mOrV, mNotV, mNeg, mCons, mNil, mTup, mLst, newL, mCall, mFn, arity, g1, g2, gLen, gInt, gAbs, gMax2, gMin2, gIx, seqOf, lsqOf, lstOf, Res.bind, ofO, gAdd_ok, gSub_ok, gEq_int, gNe_int, gLt_int, gLe_int, gGt_int, gGe_int, gEq_bl, gNe_bl, gEq_str, gNe_str, mIsi, mIsiT, tyD, kitL, kitTab, atI_c0, atI_c1, atI_c2, atI_c3, atI_c4, sForR1, int1, int2, mMeth, mMake, mFld, sFldM, gIs, gIsNot, isNon_t, sRaise, gList, newLO, a2.eo, lk_stations, lk_lines, lk_plants, lk_names, lk_line, lk_plant, lk_is_self, lk_lines_at, lk_plants_at, lk_far_end, lk_rows, lk_there, lk_copy, lk_remove_station, lk_remove_line, lk_remove_plant, lk_add_station, lk_add_line, lk_add_self, lk_add_plant, lk_free, lk_room, lk_kind, plants_like a2 K]) ⟨none, none, none, rfl, by simpa using g2', f1.trans f2⟩ fun i d L O' hd ⟨y2, y3, y4, hL, g, f⟩ => by
      subst hL
      rw [List.map_map, List.getElem?_map] at hd
      obtain ⟨x, hx, rfl⟩ := Option.map_eq_some_iff.mp hd
      have hi := (List.getElem?_eq_some_iff.mp hx).1
      have hxm := List.mem_of_getElem? hx
      have e := K.pv x hxm
      have a' : LandAt h s l p v w2 O' := a.fr f.fr
      have i1 : gIn O' (.str x.n) (.hdl v) = some (.bl (decide (x.n ∈ (w2.ps.filter (·.alone)).map (·.n))), O') := in_strs (by simp [seqOf, a'.ev])
      rw [K.al x hxm] at i1
      have eo := a'.eo
      have ap := a'.ep
      have hln : (R1 ++ R2 ++ (w.ps.take i).map rowP).length ≤ 1000000 := by rw [List.length_append, List.length_append, List.length_map, List.length_take]; omega
      refine ⟨[some (.hdl h), some (.hdl n), some (.str x.n), some (.str (if x.alone = true then "self" else "plant")), some (if x.alone = true then .tup [.str x.s, .int x.gives, .int x.quick] else plantD x)], O'.set n (.lst (R1 ++ R2 ++ (w.ps.take i).map rowP ++ [rowP x])), ?_, _, _, _, rfl, ?_, fz_setNew f (by omega)⟩
      · generalize R1 ++ R2 ++ (w.ps.take i).map rowP = Z at g hln ⊢
        generalize dicS Pl.n plantD w2.ps = z at *
        cases ha : x.alone <;> simp only [ha] at i1 <;> simp [turnOf, mDGet, dctOf, keyD, mApp, rowP, ha, runF, sSeq, sIf, sNext, sDrop, sRet, sRetN, sAsg, ofRes, ofB, bName, bNil, bCons, bTup, bLst, bSubL, mTest, mOp, mVar, mC, mChain, mAnd, mOr, mNot, mIf, mAndV, mOrV, mNotV, mNeg, mCons, mNil, mTup, mLst, newL, mCall, mFn, arity, g1, g2, gLen, gInt, gAbs, gMax2, gMin2, gIx, seqOf, lsqOf, lstOf, Res.bind, ofO, gAdd_ok, gSub_ok, gEq_int, gNe_int, gLt_int, gLe_int, gGt_int, gGe_int, gEq_bl, gNe_bl, gEq_str, gNe_str, mIsi, mIsiT, tyD, kitL, kitTab, atI_c0, atI_c1, atI_c2, atI_c3, atI_c4, sForR1, int1, int2, mMeth, mMake, mFld, sFldM, gIs, gIsNot, isNon_t, sRaise, gList, newLO, eo, ap, lkp, lkv, e, i1, g, hln]
      · rw [List.getElem?_set_self (List.getElem?_eq_some_iff.mp g).1, take_get hx, List.map_append, List.append_assoc]
        rfl
  rw [List.length_map, List.length_map, List.take_length] at g3
  subst hL3
  refine ⟨n, O3, ?_, by rw [g3, rowsD, ← hR1, ← hR2, List.append_assoc], f3, by omega⟩
  have ad : gAdd true O1 (.lst R1) (.lst R2) = some (.hdl n, O2) := by
    have : R1.length + R2.length ≤ 1000000 := by omega
    simp [gAdd, lsqOf, lstOf, newLO, this, hn, hO2]
  simp only [f_land_rows, b_land_rows]
  generalize mLcL false (mFld "Land" "_stations" (mVar 0)) [2] (bName 2) mYes (mTup (mCons (mC (.str "station")) (mCons (mVar 2) (mCons (mTup mNil) mNil)))) = sA at c1 ⊢
  generalize mLcL false (mMeth "Land" "lines" (arity 1 f_land_lines) [] (mVar 0) mNil) [2] (bName 2) mYes (mTup (mCons (mC (.str "line")) (mCons (mVar 2) (mCons (mDGet (mFld "Land" "_lines" (mVar 0)) (mVar 2)) mNil)))) = sB at c2 ⊢
  generalize sForL (mMeth "Land" "plants" (arity 1 f_land_plants) [] (mVar 0) mNil) (bName 2) _ = sC at e3 ⊢
  simp [runF, sSeq, sIf, sNext, sDrop, sRet, sRetN, sAsg, ofRes, ofB, bName, bNil, bCons, bTup, bLst, bSubL, mTest, mOp, mVar, mC, mChain, mAnd, mOr, mNot, mIf, mAndV, mOrV, mNotV, mNeg, mCons, mNil, mTup, mLst, newL, mCall, mFn, arity, g1, g2, gLen, gInt, gAbs, gMax2, gMin2, gIx, seqOf, lsqOf, lstOf, Res.bind, ofO, gAdd_ok, gSub_ok, gEq_int, gNe_int, gLt_int, gLe_int, gGt_int, gGe_int, gEq_bl, gNe_bl, gEq_str, gNe_str, mIsi, mIsiT, tyD, kitL, kitTab, atI_c0, atI_c1, atI_c2, atI_c3, atI_c4, sForR1, int1, int2, mMeth, mMake, mFld, sFldM, gIs, gIsNot, isNon_t, sRaise, gList, newLO, c1, c2, ad, e3]
end
theorem nmOk : ∀ x ∈ NAMES, PyData.strOk x = true := by decide +kernel
theorem okw : PyData.strOk ("station" : Str) = true ∧ PyData.strOk ("line" : Str) = true ∧ PyData.strOk ("plant" : Str) = true ∧ PyData.strOk ("self" : Str) = true := by decide +kernel
theorem okRows {w : Wd} (k : OK13 w) : okV (.lst (rowsD w)) 29 = true := okV_lst fun d hd => by
  obtain ⟨w1, w2, w3, w4⟩ := okw
  unfold rowsD at hd
  rcases List.mem_append.mp hd with hd | hd
  · obtain ⟨x, hx, rfl⟩ := List.mem_map.mp hd
    simp [okV, okAll, nmOk x (k.sn x hx), w1]
  rcases List.mem_append.mp hd with hd | hd
  · obtain ⟨x, hx, rfl⟩ := List.mem_map.mp hd
    have q := k.k.lok x hx
    simp [okV, okAll, nmOk _ (k.ln x hx), nmOk _ (k.sn _ q.a), nmOk _ (k.sn _ q.b), w2]
  · obtain ⟨x, hx, rfl⟩ := List.mem_map.mp hd
    have q := k.k.pok x hx
    unfold rowP
    split <;> simp [okV, okAll, nmOk _ (k.pn x hx), nmOk _ (k.sn _ q.s), w3, w4]
end DK.LR
end
section
set_option Elab.async false
set_option linter.all false
set_option autoImplicit false
set_option maxRecDepth 100000
set_option maxHeartbeats 4000000
/-! mirrors that many laws share: printed by mirrors.py. -/
namespace DK.W
open PySem L2 DK
end DK.W
end
section
set_option Elab.async false
set_option linter.all false
set_option autoImplicit false
set_option maxRecDepth 100000
set_option maxHeartbeats 4000000
/-! mirrors that many laws share: printed by mirrors.py. -/
namespace DK.W
open PySem L2 DK
end DK.W
end
section
set_option Elab.async false
set_option linter.all false
set_option autoImplicit false
set_option maxRecDepth 100000
set_option maxHeartbeats 4000000
/-! mirrors that many laws share: printed by mirrors.py. -/
namespace DK.W
open PySem L2 DK
end DK.W
end
section
set_option Elab.async false
set_option linter.all false
set_option autoImplicit false
set_option maxRecDepth 100000
set_option maxHeartbeats 4000000
/-! DKSoA: all runs that begin what can be begun, whatever minutes they pass over, come to one end (in plain Lean). -/
namespace DK.W
open PySem L2 DK
/-! ### the law's run -/
end DK.W
end
section
set_option Elab.async false
set_option linter.all false
set_option autoImplicit false
set_option maxRecDepth 100000
set_option maxHeartbeats 4000000
/-! DKSoB: the law's plain run gives the soonest minutes, in plain Lean. -/
namespace DK.W
open PySem L2 DK
end DK.W
end
section
set_option Elab.async false
set_option linter.all false
set_option autoImplicit false
set_option maxRecDepth 100000
set_option maxHeartbeats 4000000
/-! DKSoC: _law_soonest to its end, in plain Lean. -/
namespace DK.W
open PySem L2 DK
end DK.W
end
section
set_option Elab.async false
set_option linter.all false
set_option autoImplicit false
set_option maxRecDepth 100000
set_option maxHeartbeats 4000000
/-! DKSoD: a land without some lines and plants, and the run that never begins them (in plain Lean). -/
namespace DK.W
open PySem L2 DK
end DK.W
end
section
set_option Elab.async false
set_option linter.all false
set_option autoImplicit false
set_option maxRecDepth 100000
set_option maxHeartbeats 4000000
/-! DKSoE: the soonest minutes under holds, as the program works them out, in plain Lean. -/
namespace DK.W
open PySem L2 DK
end DK.W
end
section
set_option Elab.async false
set_option linter.all false
set_option autoImplicit false
set_option maxRecDepth 100000
set_option maxHeartbeats 4000000
/-! DKNe: what a goal hangs on: held runs are never sooner; goal, bearers, cost_of, in plain Lean. -/
namespace DK.W
open PySem L2 DK
/-! ### a comprehension whose tests make things -/
end DK.W
end
section
set_option Elab.async false
set_option linter.all false
set_option autoImplicit false
set_option maxRecDepth 100000
set_option maxHeartbeats 4000000
/-! mirrors that many laws share: printed by mirrors.py. -/
namespace DK.W
open PySem L2 DK
end DK.W
end
section
set_option Elab.async false
set_option linter.all false
set_option autoImplicit false
set_option maxRecDepth 100000
set_option maxHeartbeats 4000000
/-! mirrors that many laws share: printed by mirrors.py. -/
namespace DK.W
open PySem L2 DK
end DK.W
end
section
set_option Elab.async false
set_option linter.all false
set_option autoImplicit false
set_option maxRecDepth 100000
set_option maxHeartbeats 4000000
/-! DKSoG: the law's plain run of a land, and of a land without some, in plain Lean. -/
namespace DK.W
open PySem L2 DK
end DK.W
end
section
set_option Elab.async false
set_option linter.all false
set_option autoImplicit false
set_option maxRecDepth 100000
set_option maxHeartbeats 4000000
/-! DKGa: gates of a land, in plain Lean. -/
namespace DK.W
open PySem L2 DK
/-- what comes, by names -/
noncomputable def comeS (w : Wd) : List Str := sortS ((thereR (rowsW w (soonT w))).map (·.2.1))
abbrev gaO (h md gd : Nat) : Ob := .ins "Gates" [("_land", .hdl h), ("_minutes", .hdl md), ("_gates", .hdl gd)]
structure GA (n h s l p v md gd : Nat) (hs : Str → Nat) (w : Wd) (gat : Str → List Str) (O : Store) : Prop where
  eo : O[n]? = some (gaO h md gd)
  la : LandAt h s l p v w O
  bl : Below h s l p v gd
  em : O[md]? = some (.dct (minsR (rowsW w (soonT w))))
  ml : md < gd
  nl : n < gd
  nr : NearAt gd gd (comeS w) hs gat O
section
variable {n h s l p v md gd : Nat} {hs : Str → Nat} {w : Wd} {gat : Str → List Str} {O : Store} {x y : Str}
theorem GA.fz {O' : Store} (G : GA n h s l p v md gd hs w gat O) (f : Fz O O') : GA n h s l p v md gd hs w gat O' := ⟨f.at G.eo, G.la.fr f.fr, G.bl, f.at G.em, G.ml, G.nl, G.nr.fz (fun i z e _ => f.at e) (Nat.le_refl _)⟩
theorem GA.put (G : GA n h s l p v md gd hs w gat O) (hx : x ∈ comeS w) {zs : List Str} : GA n h s l p v md gd hs w (fun z => if z = x then zs else gat z) (O.set (hs x) (.lst (zs.map .str))) := by
  obtain ⟨h1, h2⟩ := G.nr.lo x hx
  have b := G.bl
  have b1 := b.h
  have b2 := b.s
  have b3 := b.l
  have b4 := b.p
  have b5 := b.v
  have m1 := G.ml
  have n1 := G.nl
  exact ⟨by rw [List.getElem?_set_ne (by omega)]; exact G.eo, G.la.fx fx_set ⟨by omega, by omega, by omega, by omega, by omega⟩, b, by rw [List.getElem?_set_ne (by omega)]; exact G.em, m1, n1, near_set G.nr hx⟩
/-! ### filling -/
end
end DK.W
end
section
set_option Elab.async false
set_option linter.all false
set_option autoImplicit false
set_option maxRecDepth 100000
set_option maxHeartbeats 4000000
/-! DKWa: what a deed waited for: a moment without one thing, in plain Lean. -/
namespace DK.W
open PySem L2 DK
def dropT (τ : Str → Option Int) (y : Str) : Str → Option Int := fun x => if x = y then none else τ x
end DK.W
end
section
set_option Elab.async false
set_option linter.all false
set_option autoImplicit false
set_option maxRecDepth 100000
set_option maxHeartbeats 4000000
/-! DKWb: what a deed waited for, by the program and by the law, in plain Lean. -/
namespace DK.W
open PySem L2 DK
theorem DKv.drop {τ : Str → Option Int} {kv : List (Key × D)} {y : Str} (h : DKv τ kv) : DKv (dropT τ y) (dropKD kv (.inr y)) := by
  obtain ⟨ks, hk, nd⟩ := h.k
  refine ⟨fun x => ?_, ks.filter (fun x => decide (x ≠ y)), ?_, nd.sublist List.filter_sublist⟩
  · unfold dropT
    by_cases c : x = y
    · rw [if_pos c]
      unfold dropKD valD
      rw [List.find?_eq_none.mpr fun p hp => ?_]
      · rfl
      · have := of_decide_eq_true (List.mem_filter.mp hp).2
        intro z
        exact this ((of_decide_eq_true z).trans (congrArg Sum.inr c))
    · rw [if_neg c, ← h.v x]
      unfold dropKD valD
      rw [List.find?_filter]
      congr 2
      funext p
      by_cases e : p.1 = Sum.inr x
      · have : p.1 ≠ Sum.inr y := fun z => c (Sum.inr.inj (e.symm.trans z))
        rw [decide_eq_true e, decide_eq_true this]
        rfl
      · simp [e]
  · unfold dropKD
    have : ∀ {kv : List (Key × D)} {ks : List Str}, kv.map (·.1) = ks.map Sum.inr → (kv.filter fun p => decide (p.1 ≠ Sum.inr y)).map (·.1) = (ks.filter fun x => decide (x ≠ y)).map Sum.inr := fun {kv} => by
      induction kv with
      | nil =>
        intro ks hk
        cases ks with
        | nil => rfl
        | cons k ks => cases hk
      | cons p kv ih =>
        intro ks hk
        cases ks with
        | nil => cases hk
        | cons z ks =>
          rw [List.map_cons, List.map_cons, List.cons.injEq] at hk
          have := ih hk.2
          have e1 := hk.1
          by_cases c : z = y
          · rw [List.filter_cons_of_neg (by rw [e1, c]; simp), List.filter_cons_of_neg (by rw [c]; simp)]
            exact this
          · rw [List.filter_cons_of_pos (by rw [e1]; exact decide_eq_true fun w => c (Sum.inr.inj w)), List.filter_cons_of_pos (by simp [c]), List.map_cons, List.map_cons, this, e1]
    exact this hk
theorem DctT.drop {τ : Str → Option Int} {O : Store} {d : Nat} {y : Str} {kv : List (Key × D)} (e : O[d]? = some (.dct kv)) (h : DKv τ kv) : DctT d (dropT τ y) (O.set d (.dct (dropKD kv (.inr y)))) := ⟨_, List.getElem?_set_self (List.getElem?_eq_some_iff.mp e).1, h.drop⟩
section
variable {h s l p v n md g : Nat} {w : Wd} {O : Store} {M τ : Str → Option Int} {t c : Int} {θ : Th} {x y : Str}
abbrev LA (h n : Nat) (nm : Str) (y3 y4 y5 y6 : Option D) : Loc := [some (.hdl h), some (.hdl n), some (.str nm), y3, y4, y5, y6]
end
end DK.W
end
section
set_option Elab.async false
set_option linter.all false
set_option autoImplicit false
set_option maxRecDepth 100000
set_option maxHeartbeats 4000000
/-! DKWc: what a deed waited for, by the law, in plain Lean. -/
namespace DK.W
open PySem L2 DK
end DK.W
end
section
set_option Elab.async false
set_option linter.all false
set_option autoImplicit false
set_option maxRecDepth 100000
set_option maxHeartbeats 4000000
/-! DKGpA: sets that are shut, in plain Lean. -/
namespace DK.W
open PySem L2 DK
/-! ### len of a set of texts -/
theorem lcG_st {nx : Nat → Store → Option (Option D)} {L : Loc} {O : Store} {X : List Str} {i0 : Nat} (hi0 : i0 < L.length) (hn : ∀ i, nx i O = some (X.map D.str)[i]?) : ∀ (k i : Nat), X.length = i + k → X.length < 4000 → lcG nx (stTurn [i0] (bName i0) mYes (mVar i0) L) k i O ((X.take i).map D.str) = some (O, X.map D.str)
  | 0, i, h, _ => by
    unfold lcG
    rw [hn, List.getElem?_eq_none (by rw [List.length_map]; omega), List.take_of_length_le (by omega)]
  | k + 1, i, h, hl => by
    have hi : i < X.length := by omega
    unfold lcG
    rw [hn, List.getElem?_map, List.getElem?_eq_getElem hi]
    have e : stTurn [i0] (bName i0) mYes (mVar i0) L (.str X[i]) O ((X.take i).map D.str) = some (O, (X.take (i + 1)).map D.str) := by
      have hb : bName i0 (.str X[i]) (wipeL L [i0]) O = some (L.set i0 (some (.str X[i])), O) := by simp [bName, wipeL]
      have g1 : (L.set i0 (some (D.str X[i])))[i0]? = some (some (.str X[i])) := List.getElem?_set_self hi0
      rw [take_get (List.getElem?_eq_getElem hi), List.map_append]
      have la : ((X.take i).map D.str).length < 4000 := by rw [List.length_map, List.length_take]; omega
      generalize (X.take i).map D.str = acc at *
      simp only [stTurn, hb, mYes, mVar, g1, if_pos la]
      rfl
    show (match stTurn [i0] (bName i0) mYes (mVar i0) L (.str X[i]) O ((X.take i).map D.str) with | some p => lcG nx _ k (i + 1) p.1 p.2 | none => none) = _
    rw [e]
    exact lcG_st hi0 hn k (i + 1) (by omega) hl
theorem lenSet_ok {src : EM} {i0 : Nat} {L : Loc} {O : Store} {X : List Str} (hs : src L O = .ok (.lst (X.map .str)) O) (hi : i0 < L.length) (hl : X.length < 4000) : mLenSet src [i0] (bName i0) mYes (mVar i0) L O = .ok (.int (distT X).length) O := by
  have e := lcG_st (nx := fun i O => (lsqOf O (.lst (X.map .str))).map (·[i]?)) (L := L) (O := O) (X := X) hi (fun i => rfl) X.length 0 (by omega) hl
  show ((src L O).bind fun d O1 => match lsqOf O1 d with
    | some xs => stEnd (lcG (fun i O => (lsqOf O d).map (·[i]?)) (stTurn [i0] (bName i0) mYes (mVar i0) L) xs.length 0 O1 [])
    | none => .bad) = _
  rw [hs]
  show stEnd (lcG (fun i O => (lsqOf O (.lst (X.map .str))).map (·[i]?)) (stTurn [i0] (bName i0) mYes (mVar i0) L) (X.map D.str).length 0 O []) = _
  rw [List.length_map]
  rw [show ([] : List D) = (X.take 0).map D.str from rfl, e]
  show (match strsD (X.map D.str) with | some ns => Res.ok (D.int (distT ns).length) O | none => .bad) = _
  rw [strsD_ns]
end DK.W
end
section
set_option Elab.async false
set_option linter.all false
set_option autoImplicit false
set_option maxRecDepth 100000
set_option maxHeartbeats 4000000
/-! K41A: the land of a sector, in plain Lean. -/
namespace DK.k41
open PySem L2 DK DK.W
theorem y_kind : f_land_kind = W.f_land_kind := rfl
theorem y_init : f_land_init = W.f_land_init := rfl
theorem y_ast : f_land_add_station = W.f_land_add_station := rfl
theorem y_aln : f_land_add_line = W.f_land_add_line := rfl
theorem y_asf : f_land_add_self = W.f_land_add_self := rfl
theorem y_apl : f_land_add_plant = W.f_land_add_plant := rfl
theorem y_rows : f_land_rows = W.f_land_rows := rfl
theorem y_lines : f_land_lines = W.f_land_lines := rfl
theorem y_build : f_law_build = W.f_law_build := rfl
def lessN (w : Wd) (N : List Str) : Wd := ⟨w.st.filter fun x => decide (x ∈ N), w.ls.filter fun l => decide (l.a ∈ N) && decide (l.b ∈ N), w.ps.filter fun p => decide (p.s ∈ N)⟩
theorem lessN_ok {w : Wd} (k : WOK w) (N : List Str) : WOK (lessN w N) where
  st := List.filter_sublist.trans k.st
  ll := Nat.le_trans (List.length_filter_le _ _) k.ll
  ln := (List.filter_sublist.map _).trans k.ln
  pl := Nat.le_trans (List.length_filter_le _ _) k.pl
  pn := (List.filter_sublist.map _).trans k.pn
  lok := fun l hl => by
    obtain ⟨h1, h2⟩ := List.mem_filter.mp hl
    obtain ⟨h2, h3⟩ := Bool.and_eq_true_iff.mp h2
    have o := k.lok l h1
    exact ⟨List.mem_filter.mpr ⟨o.a, h2⟩, List.mem_filter.mpr ⟨o.b, h3⟩, o.ab, o.need, o.min⟩
  pok := fun p hp => by
    obtain ⟨h1, h2⟩ := List.mem_filter.mp hp
    have o := k.pok p h1
    exact ⟨List.mem_filter.mpr ⟨o.s, h2⟩, o.need, o.gives, o.quick, o.slow, o.hot, o.cool, o.alone⟩
  tot := Nat.le_trans (Nat.add_le_add (List.length_filter_le _ _) (List.length_filter_le _ _)) k.tot
section
variable {h s l p v : Nat} {w : Wd} {O : Store} {N : List Str}
theorem distT_ndK : ∀ {X : List Str}, X.Nodup → distT X = X := by
  intro X
  induction h : X.length generalizing X with
  | zero => rw [List.length_eq_zero_iff.mp h]; intro _; rfl
  | succ n ih =>
    rcases List.eq_nil_or_concat X with e | ⟨Q, x, e⟩
    · rw [e] at h; cases h
    · rw [List.concat_eq_append] at e
      subst e
      rw [List.length_append] at h
      intro nd
      obtain ⟨n1, _, n3⟩ := List.nodup_append.mp nd
      have i := ih (X := Q) (by simpa using h) n1
      unfold distT at i ⊢
      rw [List.foldl_append, i]
      show (if x ∈ Q then Q else Q ++ [x]) = _
      rw [if_neg fun hx => n3 x hx x (List.mem_singleton_self _) rfl]
def ckB : SM := (sIf (mTest (mOp gNe (mMeth "Land" "kind" (arity 2 f_land_kind) [] (mVar 0) (mCons (mVar 2) mNil)) (mC (.str "station")))) (sRaise "UnknownName" (mCons (mC (.str "station")) mNil)) sNext)
def ckI : SM := (sIf (mTest (mOp gNe (mCall (g1 gLen) (mCons (mVar 1) mNil)) (mLenSet (mVar 1) [2] (bName 2) mYes (mVar 2)))) (sRaise "InvalidName" (mCons (mC (.str "a station twice")) mNil)) sNext)
theorem checked_is : b_checked = sSeq ckI (sForL (mVar 1) (bName 2) ckB) := rfl
theorem ck_turn (la : LandAt h s l p v w O) {y2 : Option D} {x : Str} {nd : D} (hx : x ∈ w.st) : turnOf (bName 2) ckB (.str x) [some (.hdl h), some nd, y2] O = .next [some (.hdl h), some nd, some (.str x)] O := by
  have eo := la.eo
  have e0 := kind_ok (nm := x) la
  rw [← y_kind, show kindD w x = .str "station" by unfold kindD; rw [if_pos hx]] at e0
  show ckB [some (.hdl h), some nd, some (.str x)] O = _
  simp [ckB, runF, sSeq, sIf, sNext, sDrop, sRet, sRetN, sAsg, ofRes, ofB, bName, bNil, bCons, bTup, bLst, bSubL, mTest, mOp, mVar, mC, mChain, mAnd, mOr, mNot, mIf, mAndV, mOrV, mNotV, mNeg, mCons, mNil, mTup, mLst, newL, mCall, mFn, arity, g1, g2, gLen, gInt, gAbs, gMax2, gMin2, gIx, seqOf, lsqOf, lstOf, Res.bind, ofO, gAdd_ok, gSub_ok, gEq_int, gNe_int, gLt_int, gLe_int, gGt_int, gGe_int, gEq_bl, gNe_bl, gEq_str, gNe_str, mIsi, mIsiT, tyD, kitL, kitTab, atI_c0, atI_c1, atI_c2, atI_c3, atI_c4, sForR1, int1, int2, mMeth, mMake, mFld, sFldM, gIs, gIsNot, isNon_t, sRaise, gList, newLO, eo, lk_stations, lk_lines, lk_plants, lk_names, lk_line, lk_plant, lk_is_self, lk_lines_at, lk_plants_at, lk_far_end, lk_rows, lk_there, lk_copy, lk_remove_station, lk_remove_line, lk_remove_plant, lk_add_station, lk_add_line, lk_add_self, lk_add_plant, lk_free, lk_room, lk_kind, e0]
theorem ckI_ok (hN : N.Nodup) (hl : N.length ≤ 100) : ckI [some (.hdl h), some (.lst (N.map .str)), none] O = .next [some (.hdl h), some (.lst (N.map .str)), none] O := by
  have e := lenSet_ok (src := mVar 1) (i0 := 2) (L := [some (.hdl h), some (.lst (N.map .str)), none]) (O := O) (X := N) rfl (by simp) (by omega)
  rw [distT_ndK hN] at e
  have gl := len_lst (O := O) (xs := N.map D.str)
  rw [List.length_map] at gl
  unfold ckI
  generalize mLenSet _ _ _ _ _ = ms at *
  generalize N.map D.str = zn at *
  simp [sIf, sNext, mTest, mOp, mCall, g1, mCons, mNil, mVar, ofRes, Res.bind, ofO, gl, e, gNe_int]
theorem checked_ok (la : LandAt h s l p v w O) (hN : N.Nodup) (hs : ∀ x ∈ N, x ∈ w.st) (hl : N.length ≤ 100) : f_checked [.hdl h, .lst (N.map .str)] O = .ok .non O := by
  obtain ⟨L', O', e, y2, rfl, rfl⟩ := forL_keeps (m := mVar 1) (b := bName 2) (body := ckB) (L := [some (.hdl h), some (.lst (N.map .str)), none]) (O := O) (O1 := O) (ds := N.map .str)
    (I := fun i L O' => ∃ (y2 : Option D), L = [some (.hdl h), some (.lst (N.map .str)), y2] ∧ O' = O)
    rfl ⟨_, rfl, rfl⟩ fun i x L O' hx ⟨y2, hL, hO⟩ => by
      subst hL hO
      rw [List.getElem?_map] at hx
      obtain ⟨z, hz, rfl⟩ := Option.map_eq_some_iff.mp hx
      exact ⟨_, O', ck_turn la (hs z (List.mem_of_getElem? hz)), _, rfl, rfl⟩
  show runF 3 b_checked [.hdl h, .lst (N.map .str)] O' = _
  unfold runF
  rw [show ([D.hdl h, .lst (N.map .str)].map some ++ List.replicate (3 - [D.hdl h, .lst (N.map .str)].length) none : Loc) = [some (.hdl h), some (.lst (N.map .str)), none] from rfl, checked_is, seq_nx (ckI_ok hN hl), e]
/-- a name that is no station, at the end -/
theorem checked_zed (la : LandAt h s l p v w O) (hN : (N ++ [("zed" : Str)]).Nodup) (hs : ∀ x ∈ N, x ∈ w.st) (hz : kindD w "zed" = .non) (hl : N.length ≤ 60) : f_checked [.hdl h, .lst ((N ++ [("zed" : Str)]).map .str)] O = .exc ⟨"UnknownName", none⟩ O := by
  have eo := la.eo
  have e0 := kind_ok (nm := "zed") la
  rw [← y_kind, hz] at e0
  have lp : ∀ (X : List Str) (nd : D) (y2 : Option D), (∀ x ∈ X, x ∈ w.st) → ∃ y2', loopD (turnOf (bName 2) ckB) ((X ++ [("zed" : Str)]).map .str) [some (.hdl h), some nd, y2] O = .exc ⟨"UnknownName", none⟩ [some (.hdl h), some nd, y2'] O := by
    intro X
    induction X with
    | nil =>
      intro nd y2 _
      refine ⟨some (.str "zed"), ?_⟩
      show loopD (turnOf (bName 2) ckB) [.str "zed"] [some (.hdl h), some nd, y2] O = _
      have gn : gNe O .non (.str "station") = some (.bl true, O) := rfl
      have t0 : turnOf (bName 2) ckB (.str "zed") [some (.hdl h), some nd, y2] O = .exc ⟨"UnknownName", none⟩ [some (.hdl h), some nd, some (.str "zed")] O := by
        show ckB [some (.hdl h), some nd, some (.str "zed")] O = _
        simp [ckB, runF, sSeq, sIf, sNext, sDrop, sRet, sRetN, sAsg, ofRes, ofB, bName, bNil, bCons, bTup, bLst, bSubL, mTest, mOp, mVar, mC, mChain, mAnd, mOr, mNot, mIf, mAndV, mOrV, mNotV, mNeg, mCons, mNil, mTup, mLst, newL, mCall, mFn, arity, g1, g2, gLen, gInt, gAbs, gMax2, gMin2, gIx, seqOf, lsqOf, lstOf, Res.bind, ofO, gAdd_ok, gSub_ok, gEq_int, gNe_int, gLt_int, gLe_int, gGt_int, gGe_int, gEq_bl, gNe_bl, gEq_str, gNe_str, mIsi, mIsiT, tyD, kitL, kitTab, atI_c0, atI_c1, atI_c2, atI_c3, atI_c4, sForR1, int1, int2, mMeth, mMake, mFld, sFldM, gIs, gIsNot, isNon_t, sRaise, gList, newLO, eo, lk_stations, lk_lines, lk_plants, lk_names, lk_line, lk_plant, lk_is_self, lk_lines_at, lk_plants_at, lk_far_end, lk_rows, lk_there, lk_copy, lk_remove_station, lk_remove_line, lk_remove_plant, lk_add_station, lk_add_line, lk_add_self, lk_add_plant, lk_free, lk_room, lk_kind, e0, gn]
      rw [loopD_cons, t0]
      rfl
    | cons x X ih =>
      intro nd y2 hX
      obtain ⟨y2', e⟩ := ih nd (some (.str x)) fun q hq => hX q (List.mem_cons_of_mem _ hq)
      refine ⟨y2', ?_⟩
      rw [List.cons_append, List.map_cons, loopD_cons, ck_turn la (hX x List.mem_cons_self)]
      exact e
  obtain ⟨y2', e⟩ := lp N (.lst ((N ++ [("zed" : Str)]).map .str)) none hs
  show runF 3 b_checked [.hdl h, .lst ((N ++ [("zed" : Str)]).map .str)] O = _
  unfold runF
  rw [show ([D.hdl h, .lst ((N ++ [("zed" : Str)]).map .str)].map some ++ List.replicate (3 - [D.hdl h, .lst ((N ++ [("zed" : Str)]).map .str)].length) none : Loc) = [some (.hdl h), some (.lst ((N ++ [("zed" : Str)]).map .str)), none] from rfl, checked_is, seq_nx (ckI_ok hN (by rw [List.length_append]; simp; omega))]
  rw [show sForL (mVar 1) (bName 2) ckB [some (.hdl h), some (.lst ((N ++ [("zed" : Str)]).map .str)), none] O = loopD (turnOf (bName 2) ckB) ((N ++ [("zed" : Str)]).map .str) [some (.hdl h), some (.lst ((N ++ [("zed" : Str)]).map .str)), none] O from rfl, e]
/-- a name twice -/
theorem checked_two {X : List Str} (hX : (distT X).length < X.length) (hl : X.length ≤ 100) : f_checked [.hdl h, .lst (X.map .str)] O = .exc ⟨"InvalidName", none⟩ O := by
  have e := lenSet_ok (src := mVar 1) (i0 := 2) (L := [some (.hdl h), some (.lst (X.map .str)), none]) (O := O) (X := X) rfl (by simp) (by omega)
  have gl := len_lst (O := O) (xs := X.map D.str)
  rw [List.length_map] at gl
  have ne : ¬ ((X.length : Int) = ((distT X).length : Int)) := by omega
  show runF 3 b_checked [.hdl h, .lst (X.map .str)] O = _
  unfold runF
  rw [show ([D.hdl h, .lst (X.map .str)].map some ++ List.replicate (3 - [D.hdl h, .lst (X.map .str)].length) none : Loc) = [some (.hdl h), some (.lst (X.map .str)), none] from rfl, checked_is]
  unfold sSeq ckI
  generalize mLenSet _ _ _ _ _ = ms at *
  generalize X.map D.str = zn at *
  simp [sIf, sRaise, mTest, mOp, mCall, g1, mC, mCons, mNil, mVar, ofRes, Res.bind, ofO, gl, e, gNe_int, ne]
end
end DK.k41
end
section
set_option Elab.async false
set_option linter.all false
set_option autoImplicit false
set_option maxRecDepth 100000
set_option maxHeartbeats 4000000
/-! K41B: a sector is built, in plain Lean. -/
namespace DK.k41
open PySem L2 DK DK.W
abbrev seB : SM := (sIf (mAnd (mTest (mOp gEq (mVar 3) (mC (.str "station")))) (mTest (mOp gIn (mVar 4) (mVar 1)))) (sDrop (mMeth "Land" "add_station" (arity 2 f_land_add_station) [] (mVar 2) (mCons (mVar 4) mNil))) (sIf (mAnd (mTest (mOp gEq (mVar 3) (mC (.str "line")))) (mAnd (mTest (mOp gIn (mOp gIx (mVar 5) (mC (.int 0))) (mVar 1))) (mTest (mOp gIn (mOp gIx (mVar 5) (mC (.int 1))) (mVar 1))))) (sDrop (mMeth "Land" "add_line" (arity 6 f_land_add_line) [] (mVar 2) (mCons (mVar 4) (mCons (mOp gIx (mVar 5) (mC (.int 0))) (mCons (mOp gIx (mVar 5) (mC (.int 1))) (mCons (mOp gIx (mVar 5) (mC (.int 2))) (mCons (mOp gIx (mVar 5) (mC (.int 3))) mNil))))))) (sIf (mAnd (mTest (mOp gEq (mVar 3) (mC (.str "self")))) (mTest (mOp gIn (mOp gIx (mVar 5) (mC (.int 0))) (mVar 1)))) (sDrop (mMeth "Land" "add_self" (arity 5 f_land_add_self) [] (mVar 2) (mCons (mVar 4) (mCons (mOp gIx (mVar 5) (mC (.int 0))) (mCons (mOp gIx (mVar 5) (mC (.int 1))) (mCons (mOp gIx (mVar 5) (mC (.int 2))) mNil)))))) (sIf (mAnd (mTest (mOp gEq (mVar 3) (mC (.str "plant")))) (mTest (mOp gIn (mOp gIx (mVar 5) (mC (.int 0))) (mVar 1)))) (sDrop (mMeth "Land" "add_plant" (arity 9 f_land_add_plant) [] (mVar 2) (mCons (mVar 4) (mCons (mOp gIx (mVar 5) (mC (.int 0))) (mCons (mOp gIx (mVar 5) (mC (.int 1))) (mCons (mOp gIx (mVar 5) (mC (.int 2))) (mCons (mOp gIx (mVar 5) (mC (.int 3))) (mCons (mOp gIx (mVar 5) (mC (.int 4))) (mCons (mOp gIx (mVar 5) (mC (.int 5))) (mCons (mOp gIx (mVar 5) (mC (.int 6))) mNil)))))))))) sNext))))
abbrev seG : BM := (bTup 3 (bCons (bName 3) (bCons (bName 4) (bCons (bName 5) bNil))))
theorem sector_is : b_sector = sSeq (sDrop (mFn (arity 2 f_checked) [] (mCons (mVar 0) (mCons (mVar 1) mNil)))) (sSeq (sAsg (mMake "Land" (arity 1 f_land_init) [] mNil) (bName 2)) (sSeq (sForL (mMeth "Land" "rows" (arity 1 f_land_rows) [] (mVar 0) mNil) seG seB) (sRet (mVar 2)))) := rfl
abbrev LSe (h : Nat) (nd : D) (n : Nat) (y3 y4 y5 : Option D) : Loc := [some (.hdl h), some nd, some (.hdl n), y3, y4, y5]
def pw (w : Wd) (N : List Str) (i j q : Nat) : Wd := ⟨(w.st.take i).filter fun x => decide (x ∈ N), (w.ls.take j).filter fun l => decide (l.a ∈ N) && decide (l.b ∈ N), (w.ps.take q).filter fun p => decide (p.s ∈ N)⟩
section
variable {h s l p v n s1 : Nat} {w : Wd} {O : Store} {N : List Str} {nd : D} {y3 y4 y5 : Option D}
theorem sl_ne : (("station" : Str) = "line") = False := eq_false (by decide +kernel)
theorem ss_ne : (("station" : Str) = "self") = False := eq_false (by decide +kernel)
theorem sp_ne : (("station" : Str) = "plant") = False := eq_false (by decide +kernel)
theorem ls_ne : (("line" : Str) = "station") = False := eq_false (by decide +kernel)
theorem lf_ne : (("line" : Str) = "self") = False := eq_false (by decide +kernel)
theorem lp_ne : (("line" : Str) = "plant") = False := eq_false (by decide +kernel)
theorem fs_ne : (("self" : Str) = "station") = False := eq_false (by decide +kernel)
theorem fl_ne : (("self" : Str) = "line") = False := eq_false (by decide +kernel)
theorem ps_ne : (("plant" : Str) = "station") = False := eq_false (by decide +kernel)
theorem pl_ne : (("plant" : Str) = "line") = False := eq_false (by decide +kernel)
theorem pf_ne : (("plant" : Str) = "self") = False := eq_false (by decide +kernel)
theorem fp_ne : (("self" : Str) = "plant") = False := eq_false (by decide +kernel)
/-- a station's row -/
theorem se_st (k : WOK w) (hnd : nd = .lst (N.map .str)) {i : Nat} {x : Str} (hx : w.st[i]? = some x) (a : LandAt n s1 (n + 2) (n + 3) (n + 4) (pw w N i 0 0) O) :
    ∃ s2 y3' y4' y5' O', turnOf seG seB (.tup [.str "station", .str x, .tup []]) (LSe h nd n y3 y4 y5) O = .next (LSe h nd n y3' y4' y5') O' ∧ LandAt n s2 (n + 2) (n + 3) (n + 4) (pw w N (i + 1) 0 0) O' ∧ O.length ≤ O'.length ∧ ∀ j, j < O.length → j ≠ n → O'[j]? = O[j]? := by
  have gi := in_strs (O := O) (d := .lst (N.map .str)) (xs := N) (nm := x) rfl
  rw [← hnd] at gi
  have hi := (List.getElem?_eq_some_iff.mp hx).1
  have hxm := List.mem_of_getElem? hx
  have eo := a.eo
  by_cases c : x ∈ N
  · rw [decide_eq_true c] at gi
    have hni : x ∉ w.st.take i := nodup_mid (B := w.st.drop (i + 1) ++ (w.ls.map (·.n) ++ w.ps.map (·.n))) (by
      rw [← List.cons_append, ← List.append_assoc, ← drop_get hx, List.take_append_drop]; exact k.nd)
    have ep : (pw w N (i + 1) 0 0).st = (pw w N i 0 0).st ++ [x] := by
      show (w.st.take (i + 1)).filter _ = (w.st.take i).filter _ ++ [x]
      rw [take_get hx, List.filter_append, List.filter_cons, if_pos (decide_eq_true c)]
      rfl
    have pwp : (pw w N (i + 1) 0 0).st.Pairwise fun a b => leS a b = true := k.stp.sublist (List.filter_sublist.trans (List.take_sublist _ _))
    have sl6 := k.st6
    have pl : (pw w N (i + 1) 0 0).st.length ≤ 6 := Nat.le_trans (List.length_filter_le _ _) (by rw [List.length_take]; omega)
    obtain ⟨q1, q2⟩ := add_station_ok (st' := (pw w N (i + 1) 0 0).st) a (k.snm hxm) (kind_non (fun hm => hni (List.mem_filter.mp hm).1) (by simp [pw]) (by simp [pw])) (by rw [ep, List.length_append] at pl; simp at pl; omega) (by
      rw [← ep]
      exact pw_sortS pwp) (by omega)
    rw [← y_ast] at q1
    have lk : List.lookup ("add_station" : Str) [(("_stations" : Str), D.hdl s1), (("_lines" : Str), .hdl (n + 2)), (("_plants" : Str), .hdl (n + 3)), (("_selves" : Str), .hdl (n + 4))] = none := rfl
    refine ⟨O.length, some (.str "station"), some (.str x), some (.tup []), _, ?_, q2, by rw [List.length_set, List.length_append]; omega, fun j hj hne => by rw [List.getElem?_set_ne (Ne.symm hne)]; exact List.getElem?_append_left hj⟩
    show seB (LSe h nd n (some (.str "station")) (some (.str x)) (some (.tup []))) O = _
    generalize ((O ++ [Ob.lst ((pw w N (i + 1) 0 0).st.map .str)]).set n (landO O.length (n + 2) (n + 3) (n + 4))) = O2 at *
    simp [seB, runF, sSeq, sIf, sNext, sDrop, sRet, sRetN, sAsg, ofRes, ofB, bName, bNil, bCons, bTup, bLst, bSubL, mTest, mOp, mVar, mC, mChain, mAnd, mOr, mNot, mIf, mOrV, mNotV, mNeg, mCons, mNil, mTup, mLst, newL, mCall, mFn, arity, g1, g2, gLen, gInt, gAbs, gMax2, gMin2, gIx, seqOf, lsqOf, lstOf, Res.bind, ofO, gAdd_ok, gSub_ok, gEq_int, gNe_int, gLt_int, gLe_int, gGt_int, gGe_int, gEq_bl, gNe_bl, gEq_str, gNe_str, mIsi, mIsiT, kitL, kitTab, atI_c0, atI_c1, atI_c2, atI_c3, atI_c4, sForR1, int1, int2, mMeth, mMake, mFld, sFldM, gIs, gIsNot, isNon_t, sRaise, gList, newLO, gi, eo, lk, q1]
  · rw [decide_eq_false c] at gi
    have ep : pw w N (i + 1) 0 0 = pw w N i 0 0 := by
      unfold pw
      rw [take_get hx, List.filter_append, List.filter_cons, if_neg (by rw [decide_eq_false c]; exact Bool.false_ne_true)]
      simp
    refine ⟨s1, some (.str "station"), some (.str x), some (.tup []), O, ?_, by rw [ep]; exact a, Nat.le_refl _, fun _ _ _ => rfl⟩
    show seB (LSe h nd n (some (.str "station")) (some (.str x)) (some (.tup []))) O = _
    simp [seB, runF, sSeq, sIf, sNext, sDrop, sRet, sRetN, sAsg, ofRes, ofB, bName, bNil, bCons, bTup, bLst, bSubL, mTest, mOp, mVar, mC, mChain, mAnd, mOr, mNot, mIf, mOrV, mNotV, mNeg, mCons, mNil, mTup, mLst, newL, mCall, mFn, arity, g1, g2, gLen, gInt, gAbs, gMax2, gMin2, gIx, seqOf, lsqOf, lstOf, Res.bind, ofO, gAdd_ok, gSub_ok, gEq_int, gNe_int, gLt_int, gLe_int, gGt_int, gGe_int, gEq_bl, gNe_bl, gEq_str, gNe_str, mIsi, mIsiT, kitL, kitTab, atI_c0, atI_c1, atI_c2, atI_c3, atI_c4, sForR1, int1, int2, mMeth, mMake, mFld, sFldM, gIs, gIsNot, isNon_t, sRaise, gList, newLO, gi, sl_ne, ss_ne, sp_ne]
/-- a line's row -/
theorem se_ln (k : WOK w) (hnd : nd = .lst (N.map .str)) {i j : Nat} {x : Ln} (hx : w.ls[j]? = some x) (hi : w.st.length ≤ i) (a : LandAt n s1 (n + 2) (n + 3) (n + 4) (pw w N i j 0) O) :
    ∃ y3' y4' y5' O', turnOf seG seB (.tup [.str "line", .str x.n, lineD x]) (LSe h nd n y3 y4 y5) O = .next (LSe h nd n y3' y4' y5') O' ∧ LandAt n s1 (n + 2) (n + 3) (n + 4) (pw w N (i + 1) (j + 1) 0) O' ∧ O.length ≤ O'.length ∧ ∀ j, j ≠ n + 2 → O'[j]? = O[j]? := by
  have ga := in_strs (O := O) (d := .lst (N.map .str)) (xs := N) (nm := x.a) rfl
  have gb := in_strs (O := O) (d := .lst (N.map .str)) (xs := N) (nm := x.b) rfl
  rw [← hnd] at ga gb
  have hxm := List.mem_of_getElem? hx
  have eo := a.eo
  have i0 : gIx O (lineD x) (.int 0) = some (.str x.a, O) := rfl
  have i1 : gIx O (lineD x) (.int 1) = some (.str x.b, O) := rfl
  have i2 : gIx O (lineD x) (.int 2) = some (.int x.need, O) := rfl
  have i3 : gIx O (lineD x) (.int 3) = some (.int x.min, O) := rfl
  have stf : ∀ j q, (pw w N (i + 1) j q).st = (pw w N i j q).st := fun j q => by
    show (w.st.take (i + 1)).filter _ = (w.st.take i).filter _
    rw [List.take_of_length_le hi, List.take_of_length_le (by omega)]
  by_cases c : x.a ∈ N ∧ x.b ∈ N
  · rw [decide_eq_true c.1] at ga
    rw [decide_eq_true c.2] at gb
    have nd' := k.nd
    have hni : x.n ∉ w.st ++ (w.ls.take j).map (·.n) := nodup_mid (B := (w.ls.drop (j + 1)).map (·.n) ++ w.ps.map (·.n)) (by
      have e : w.ls.map (·.n) = (w.ls.take j).map (·.n) ++ x.n :: (w.ls.drop (j + 1)).map (·.n) := by
        rw [show x.n :: (w.ls.drop (j + 1)).map (·.n) = (x :: w.ls.drop (j + 1)).map (·.n) from rfl, ← drop_get hx, ← List.map_append, List.take_append_drop]
      rw [e] at nd'
      simpa using nd')
    have h1 : x.n ∉ (pw w N i j 0).st := fun z => hni (List.mem_append_left _ ((List.take_sublist _ _).subset (List.mem_filter.mp z).1))
    have h2 : x.n ∉ (pw w N i j 0).ls.map (·.n) := fun z => by
      obtain ⟨y, hy, e⟩ := List.mem_map.mp z
      exact hni (List.mem_append_right _ (List.mem_map.mpr ⟨y, (List.mem_filter.mp hy).1, e⟩))
    have o := k.lok x hxm
    have ok : LnOK (pw w N i j 0).st x := by
      have e : (pw w N i j 0).st = w.st.filter fun x => decide (x ∈ N) := by
        show (w.st.take i).filter _ = _
        rw [List.take_of_length_le hi]
      rw [e]
      exact ⟨List.mem_filter.mpr ⟨o.a, decide_eq_true c.1⟩, List.mem_filter.mpr ⟨o.b, decide_eq_true c.2⟩, o.ab, o.need, o.min⟩
    obtain ⟨q1, q2⟩ := add_line_ok (l1 := x) a (k.lnm hxm) (kind_non h1 h2 (by simp [pw])) (by
      have : (pw w N i j 0).ls.length ≤ 12 := Nat.le_trans (List.length_filter_le _ _) (by rw [List.length_take]; have := k.ll; omega)
      omega) ok
    rw [← y_aln] at q1
    have ew : pw w N (i + 1) (j + 1) 0 = ⟨(pw w N i j 0).st, (pw w N i j 0).ls ++ [x], (pw w N i j 0).ps⟩ := by
      have e1 := stf (j + 1) 0
      unfold pw at e1 ⊢
      simp only at e1
      rw [e1, take_get hx, List.filter_append, List.filter_cons, if_pos (by rw [decide_eq_true c.1, decide_eq_true c.2]; rfl)]
      rfl
    have lk : List.lookup ("add_line" : Str) [(("_stations" : Str), D.hdl s1), (("_lines" : Str), .hdl (n + 2)), (("_plants" : Str), .hdl (n + 3)), (("_selves" : Str), .hdl (n + 4))] = none := rfl
    refine ⟨some (.str "line"), some (.str x.n), some (lineD x), _, ?_, by rw [ew]; exact q2, by rw [List.length_set]; exact Nat.le_refl _, fun j hne => by rw [List.getElem?_set_ne (Ne.symm hne)]⟩
    show seB (LSe h nd n (some (.str "line")) (some (.str x.n)) (some (lineD x))) O = _
    generalize O.set (n + 2) (.dct (dicS (·.n) lineD ((pw w N i j 0).ls ++ [x]))) = O2 at *
    generalize lineD x = lx at *
    simp [seB, runF, sSeq, sIf, sNext, sDrop, sRet, sRetN, sAsg, ofRes, ofB, bName, bNil, bCons, bTup, bLst, bSubL, mTest, mOp, mVar, mC, mChain, mAnd, mOr, mNot, mIf, mAndV, mOrV, mNotV, mNeg, mCons, mNil, mTup, mLst, newL, mCall, mFn, arity, g1, g2, gLen, gInt, gAbs, gMax2, gMin2, seqOf, lsqOf, lstOf, Res.bind, ofO, gAdd_ok, gSub_ok, gEq_int, gNe_int, gLt_int, gLe_int, gGt_int, gGe_int, gEq_bl, gNe_bl, gEq_str, gNe_str, mIsi, mIsiT, tyD, kitL, kitTab, atI_c0, atI_c1, atI_c2, atI_c3, atI_c4, sForR1, int1, int2, mMeth, mMake, mFld, sFldM, gIs, gIsNot, isNon_t, sRaise, gList, newLO, ls_ne, i0, i1, i2, i3, ga, gb, eo, lk, q1]
  · have ew : pw w N (i + 1) (j + 1) 0 = pw w N i j 0 := by
      have e1 := stf (j + 1) 0
      unfold pw at e1 ⊢
      simp only at e1
      rw [e1, take_get hx, List.filter_append, List.filter_cons, if_neg (by
        intro hh
        obtain ⟨z1, z2⟩ := Bool.and_eq_true_iff.mp hh
        exact c ⟨of_decide_eq_true z1, of_decide_eq_true z2⟩)]
      simp
    refine ⟨some (.str "line"), some (.str x.n), some (lineD x), O, ?_, by rw [ew]; exact a, Nat.le_refl _, fun _ _ => rfl⟩
    show seB (LSe h nd n (some (.str "line")) (some (.str x.n)) (some (lineD x))) O = _
    generalize lineD x = lx at *
    by_cases c1 : x.a ∈ N
    · have c2 : x.b ∉ N := fun z => c ⟨c1, z⟩
      rw [decide_eq_true c1] at ga
      rw [decide_eq_false c2] at gb
      simp [seB, runF, sSeq, sIf, sNext, sDrop, sRet, sRetN, sAsg, ofRes, ofB, bName, bNil, bCons, bTup, bLst, bSubL, mTest, mOp, mVar, mC, mChain, mAnd, mOr, mNot, mIf, mAndV, mOrV, mNotV, mNeg, mCons, mNil, mTup, mLst, newL, mCall, mFn, arity, g1, g2, gLen, gInt, gAbs, gMax2, gMin2, seqOf, lsqOf, lstOf, Res.bind, ofO, gAdd_ok, gSub_ok, gEq_int, gNe_int, gLt_int, gLe_int, gGt_int, gGe_int, gEq_bl, gNe_bl, gEq_str, gNe_str, mIsi, mIsiT, tyD, kitL, kitTab, atI_c0, atI_c1, atI_c2, atI_c3, atI_c4, sForR1, int1, int2, mMeth, mMake, mFld, sFldM, gIs, gIsNot, isNon_t, sRaise, gList, newLO, ls_ne, lf_ne, lp_ne, i0, i1, ga, gb]
    · rw [decide_eq_false c1] at ga
      simp [seB, runF, sSeq, sIf, sNext, sDrop, sRet, sRetN, sAsg, ofRes, ofB, bName, bNil, bCons, bTup, bLst, bSubL, mTest, mOp, mVar, mC, mChain, mAnd, mOr, mNot, mIf, mAndV, mOrV, mNotV, mNeg, mCons, mNil, mTup, mLst, newL, mCall, mFn, arity, g1, g2, gLen, gInt, gAbs, gMax2, gMin2, seqOf, lsqOf, lstOf, Res.bind, ofO, gAdd_ok, gSub_ok, gEq_int, gNe_int, gLt_int, gLe_int, gGt_int, gGe_int, gEq_bl, gNe_bl, gEq_str, gNe_str, mIsi, mIsiT, tyD, kitL, kitTab, atI_c0, atI_c1, atI_c2, atI_c3, atI_c4, sForR1, int1, int2, mMeth, mMake, mFld, sFldM, gIs, gIsNot, isNon_t, sRaise, gList, newLO, ls_ne, lf_ne, lp_ne, i0, ga]
/-- a plant's row -/
theorem se_pl (k : WOK w) (hnd : nd = .lst (N.map .str)) {i j q : Nat} {x : Pl} (hx : w.ps[q]? = some x) (hi : w.st.length ≤ i) (hj : w.ls.length ≤ j) (a : LandAt n s1 (n + 2) (n + 3) (n + 4) (pw w N i j q) O) :
    ∃ y3' y4' y5' O', turnOf seG seB (LR.rowP x) (LSe h nd n y3 y4 y5) O = .next (LSe h nd n y3' y4' y5') O' ∧ LandAt n s1 (n + 2) (n + 3) (n + 4) (pw w N (i + 1) (j + 1) (q + 1)) O' ∧ O.length ≤ O'.length ∧ ∀ j, j ≠ n + 3 → j ≠ n + 4 → O'[j]? = O[j]? := by
  have ga := in_strs (O := O) (d := .lst (N.map .str)) (xs := N) (nm := x.s) rfl
  rw [← hnd] at ga
  have hxm := List.mem_of_getElem? hx
  have eo := a.eo
  have stf : ∀ j q, (pw w N (i + 1) j q).st = (pw w N i j q).st := fun j q => by
    show (w.st.take (i + 1)).filter _ = (w.st.take i).filter _
    rw [List.take_of_length_le hi, List.take_of_length_le (by omega)]
  have lsf : ∀ i q, (pw w N i (j + 1) q).ls = (pw w N i j q).ls := fun i q => by
    show (w.ls.take (j + 1)).filter _ = (w.ls.take j).filter _
    rw [List.take_of_length_le hj, List.take_of_length_le (by omega)]
  by_cases c : x.s ∈ N
  · rw [decide_eq_true c] at ga
    have nd' := k.nd
    have hni : x.n ∉ w.st ++ (w.ls.map (·.n) ++ (w.ps.take q).map (·.n)) := nodup_mid (B := (w.ps.drop (q + 1)).map (·.n)) (by
      have e : w.ps.map (·.n) = (w.ps.take q).map (·.n) ++ x.n :: (w.ps.drop (q + 1)).map (·.n) := by
        rw [show x.n :: (w.ps.drop (q + 1)).map (·.n) = (x :: w.ps.drop (q + 1)).map (·.n) from rfl, ← drop_get hx, ← List.map_append, List.take_append_drop]
      rw [e] at nd'
      simpa using nd')
    have h1 : x.n ∉ (pw w N i j q).st := fun z => hni (List.mem_append_left _ ((List.take_sublist _ _).subset (List.mem_filter.mp z).1))
    have h2 : x.n ∉ (pw w N i j q).ls.map (·.n) := fun z => by
      obtain ⟨y, hy, e⟩ := List.mem_map.mp z
      exact hni (List.mem_append_right _ (List.mem_append_left _ (List.mem_map.mpr ⟨y, (List.take_sublist _ _).subset (List.mem_filter.mp hy).1, e⟩)))
    have h3 : x.n ∉ (pw w N i j q).ps.map (·.n) := fun z => by
      obtain ⟨y, hy, e⟩ := List.mem_map.mp z
      exact hni (List.mem_append_right _ (List.mem_append_right _ (List.mem_map.mpr ⟨y, (List.mem_filter.mp hy).1, e⟩)))
    have o := k.pok x hxm
    have ok : PlOK (pw w N i j q).st x := by
      have e : (pw w N i j q).st = w.st.filter fun x => decide (x ∈ N) := by
        show (w.st.take i).filter _ = _
        rw [List.take_of_length_le hi]
      rw [e]
      exact ⟨List.mem_filter.mpr ⟨o.s, decide_eq_true c⟩, o.need, o.gives, o.quick, o.slow, o.hot, o.cool, o.alone⟩
    have hlen : (pw w N i j q).ps.length < 60 := by
      have : (pw w N i j q).ps.length ≤ 9 := Nat.le_trans (List.length_filter_le _ _) (by rw [List.length_take]; have := k.pl; omega)
      omega
    have ew : pw w N (i + 1) (j + 1) (q + 1) = ⟨(pw w N i j q).st, (pw w N i j q).ls, (pw w N i j q).ps ++ [x]⟩ := by
      have e1 := stf (j + 1) (q + 1)
      have e2 := lsf (i + 1) (q + 1)
      unfold pw at e1 e2 ⊢
      simp only at e1 e2
      rw [e1, e2, take_get hx, List.filter_append, List.filter_cons, if_pos (decide_eq_true c)]
      rfl
    rw [ew]
    cases ha : x.alone
    · obtain ⟨O'', q1, q2, q3, q4⟩ := add_plant_ok (p1 := x) a (k.pnm hxm) (kind_non h1 h2 h3) hlen ok ha
      rw [← y_apl] at q1
      have lk : List.lookup ("add_plant" : Str) [(("_stations" : Str), D.hdl s1), (("_lines" : Str), .hdl (n + 2)), (("_plants" : Str), .hdl (n + 3)), (("_selves" : Str), .hdl (n + 4))] = none := rfl
      have er : LR.rowP x = .tup [.str "plant", .str x.n, plantD x] := by unfold LR.rowP; rw [ha]; rfl
      rw [er]
      refine ⟨some (.str "plant"), some (.str x.n), some (plantD x), O'', ?_, q2, by omega, q4⟩
      show seB (LSe h nd n (some (.str "plant")) (some (.str x.n)) (some (plantD x))) O = _
      have i0 : gIx O (plantD x) (.int 0) = some (.str x.s, O) := rfl
      have i1 : gIx O (plantD x) (.int 1) = some (.int x.need, O) := rfl
      have i2 : gIx O (plantD x) (.int 2) = some (.int x.gives, O) := rfl
      have i3 : gIx O (plantD x) (.int 3) = some (.int x.quick, O) := rfl
      have i4 : gIx O (plantD x) (.int 4) = some (.int x.hot, O) := rfl
      have i5 : gIx O (plantD x) (.int 5) = some (.int x.cool, O) := rfl
      have i6 : gIx O (plantD x) (.int 6) = some (.int x.slow, O) := rfl
      generalize plantD x = px at *
      simp [seB, runF, sSeq, sIf, sNext, sDrop, sRet, sRetN, sAsg, ofRes, ofB, bName, bNil, bCons, bTup, bLst, bSubL, mTest, mOp, mVar, mC, mChain, mAnd, mOr, mNot, mIf, mAndV, mOrV, mNotV, mNeg, mCons, mNil, mTup, mLst, newL, mCall, mFn, arity, g1, g2, gLen, gInt, gAbs, gMax2, gMin2, seqOf, lsqOf, lstOf, Res.bind, ofO, gAdd_ok, gSub_ok, gEq_int, gNe_int, gLt_int, gLe_int, gGt_int, gGe_int, gEq_bl, gNe_bl, gEq_str, gNe_str, mIsi, mIsiT, tyD, kitL, kitTab, atI_c0, atI_c1, atI_c2, atI_c3, atI_c4, sForR1, int1, int2, mMeth, mMake, mFld, sFldM, gIs, gIsNot, isNon_t, sRaise, gList, newLO, ps_ne, pl_ne, pf_ne, i0, i1, i2, i3, i4, i5, i6, ga, eo, lk, q1]
    · obtain ⟨O'', q1, q2, q3, q4⟩ := add_self_ok (p1 := x) a (k.pnm hxm) (kind_non h1 h2 h3) hlen ok ha
      rw [← y_asf] at q1
      have lk : List.lookup ("add_self" : Str) [(("_stations" : Str), D.hdl s1), (("_lines" : Str), .hdl (n + 2)), (("_plants" : Str), .hdl (n + 3)), (("_selves" : Str), .hdl (n + 4))] = none := rfl
      have er : LR.rowP x = .tup [.str "self", .str x.n, .tup [.str x.s, .int x.gives, .int x.quick]] := by unfold LR.rowP; rw [ha]; rfl
      rw [er]
      obtain ⟨px, hpx⟩ : ∃ px, D.tup [.str x.s, .int x.gives, .int x.quick] = px := ⟨_, rfl⟩
      have i0 : gIx O px (.int 0) = some (.str x.s, O) := by rw [← hpx]; rfl
      have i1 : gIx O px (.int 1) = some (.int x.gives, O) := by rw [← hpx]; rfl
      have i2 : gIx O px (.int 2) = some (.int x.quick, O) := by rw [← hpx]; rfl
      rw [hpx]
      refine ⟨some (.str "self"), some (.str x.n), some px, O'', ?_, q2, by omega, q4⟩
      show seB (LSe h nd n (some (.str "self")) (some (.str x.n)) (some px)) O = _
      simp [seB, runF, sSeq, sIf, sNext, sDrop, sRet, sRetN, sAsg, ofRes, ofB, bName, bNil, bCons, bTup, bLst, bSubL, mTest, mOp, mVar, mC, mChain, mAnd, mOr, mNot, mIf, mAndV, mOrV, mNotV, mNeg, mCons, mNil, mTup, mLst, newL, mCall, mFn, arity, g1, g2, gLen, gInt, gAbs, gMax2, gMin2, seqOf, lsqOf, lstOf, Res.bind, ofO, gAdd_ok, gSub_ok, gEq_int, gNe_int, gLt_int, gLe_int, gGt_int, gGe_int, gEq_bl, gNe_bl, gEq_str, gNe_str, mIsi, mIsiT, tyD, kitL, kitTab, atI_c0, atI_c1, atI_c2, atI_c3, atI_c4, sForR1, int1, int2, mMeth, mMake, mFld, sFldM, gIs, gIsNot, isNon_t, sRaise, gList, newLO, fs_ne, fl_ne, i0, i1, i2, ga, eo, lk, q1]
  · rw [decide_eq_false c] at ga
    have ew : pw w N (i + 1) (j + 1) (q + 1) = pw w N i j q := by
      have e1 := stf (j + 1) (q + 1)
      have e2 := lsf (i + 1) (q + 1)
      unfold pw at e1 e2 ⊢
      simp only at e1 e2
      rw [e1, e2, take_get hx, List.filter_append, List.filter_cons, if_neg (by rw [decide_eq_false c]; exact Bool.false_ne_true)]
      simp
    rw [ew]
    cases ha : x.alone
    · have er : LR.rowP x = .tup [.str "plant", .str x.n, plantD x] := by unfold LR.rowP; rw [ha]; rfl
      rw [er]
      have i0 : gIx O (plantD x) (.int 0) = some (.str x.s, O) := rfl
      refine ⟨some (.str "plant"), some (.str x.n), some (plantD x), O, ?_, a, Nat.le_refl _, fun _ _ _ => rfl⟩
      show seB (LSe h nd n (some (.str "plant")) (some (.str x.n)) (some (plantD x))) O = _
      generalize plantD x = px at *
      simp [seB, runF, sSeq, sIf, sNext, sDrop, sRet, sRetN, sAsg, ofRes, ofB, bName, bNil, bCons, bTup, bLst, bSubL, mTest, mOp, mVar, mC, mChain, mAnd, mOr, mNot, mIf, mAndV, mOrV, mNotV, mNeg, mCons, mNil, mTup, mLst, newL, mCall, mFn, arity, g1, g2, gLen, gInt, gAbs, gMax2, gMin2, seqOf, lsqOf, lstOf, Res.bind, ofO, gAdd_ok, gSub_ok, gEq_int, gNe_int, gLt_int, gLe_int, gGt_int, gGe_int, gEq_bl, gNe_bl, gEq_str, gNe_str, mIsi, mIsiT, tyD, kitL, kitTab, atI_c0, atI_c1, atI_c2, atI_c3, atI_c4, sForR1, int1, int2, mMeth, mMake, mFld, sFldM, gIs, gIsNot, isNon_t, sRaise, gList, newLO, ps_ne, pl_ne, pf_ne, i0, ga]
    · have er : LR.rowP x = .tup [.str "self", .str x.n, .tup [.str x.s, .int x.gives, .int x.quick]] := by unfold LR.rowP; rw [ha]; rfl
      rw [er]
      obtain ⟨px, hpx⟩ : ∃ px, D.tup [.str x.s, .int x.gives, .int x.quick] = px := ⟨_, rfl⟩
      have i0 : gIx O px (.int 0) = some (.str x.s, O) := by rw [← hpx]; rfl
      rw [hpx]
      refine ⟨some (.str "self"), some (.str x.n), some px, O, ?_, a, Nat.le_refl _, fun _ _ _ => rfl⟩
      show seB (LSe h nd n (some (.str "self")) (some (.str x.n)) (some px)) O = _
      simp [seB, runF, sSeq, sIf, sNext, sDrop, sRet, sRetN, sAsg, ofRes, ofB, bName, bNil, bCons, bTup, bLst, bSubL, mTest, mOp, mVar, mC, mChain, mAnd, mOr, mNot, mIf, mAndV, mOrV, mNotV, mNeg, mCons, mNil, mTup, mLst, newL, mCall, mFn, arity, g1, g2, gLen, gInt, gAbs, gMax2, gMin2, seqOf, lsqOf, lstOf, Res.bind, ofO, gAdd_ok, gSub_ok, gEq_int, gNe_int, gLt_int, gLe_int, gGt_int, gGe_int, gEq_bl, gNe_bl, gEq_str, gNe_str, mIsi, mIsiT, tyD, kitL, kitTab, atI_c0, atI_c1, atI_c2, atI_c3, atI_c4, sForR1, int1, int2, mMeth, mMake, mFld, sFldM, gIs, gIsNot, isNon_t, sRaise, gList, newLO, fs_ne, fl_ne, fp_ne, i0, ga]
end
end DK.k41
end
section
set_option Elab.async false
set_option linter.all false
set_option autoImplicit false
set_option maxRecDepth 100000
set_option maxHeartbeats 4000000
/-! K41C: a sector, and the ties, in plain Lean. -/
namespace DK.k41
open PySem L2 DK DK.W
section
variable {h s l p v : Nat} {w : Wd} {O : Store} {N : List Str}
theorem rows_len : (LR.rowsD w).length = w.st.length + w.ls.length + w.ps.length := by
  unfold LR.rowsD
  simp only [List.length_append, List.length_map]
  omega
theorem rows_at {j : Nat} {d : D} (hd : (LR.rowsD w)[j]? = some d) : (∃ x, w.st[j]? = some x ∧ d = .tup [.str "station", .str x, .tup []]) ∨
    (w.st.length ≤ j ∧ ∃ x, w.ls[j - w.st.length]? = some x ∧ d = .tup [.str "line", .str x.n, lineD x]) ∨
    (w.st.length ≤ j ∧ w.ls.length ≤ j - w.st.length ∧ ∃ x, w.ps[j - w.st.length - w.ls.length]? = some x ∧ d = LR.rowP x) := by
  unfold LR.rowsD at hd
  by_cases c : j < w.st.length
  · rw [List.getElem?_append_left (by rw [List.length_map]; exact c), List.getElem?_map] at hd
    obtain ⟨x, hx, e⟩ := Option.map_eq_some_iff.mp hd
    exact .inl ⟨x, hx, e.symm⟩
  · rw [List.getElem?_append_right (by rw [List.length_map]; omega), List.length_map] at hd
    by_cases c2 : j - w.st.length < w.ls.length
    · rw [List.getElem?_append_left (by rw [List.length_map]; exact c2), List.getElem?_map] at hd
      obtain ⟨x, hx, e⟩ := Option.map_eq_some_iff.mp hd
      exact .inr (.inl ⟨by omega, x, hx, e.symm⟩)
    · rw [List.getElem?_append_right (by rw [List.length_map]; omega), List.length_map, List.getElem?_map] at hd
      obtain ⟨x, hx, e⟩ := Option.map_eq_some_iff.mp hd
      exact .inr (.inr ⟨by omega, by omega, x, hx, e.symm⟩)
theorem sector_ok (k : WOK w) (la : LandAt h s l p v w O) (hN : N.Nodup) (hs : ∀ x ∈ N, x ∈ w.st) (hl : N.length ≤ 100) : ∃ n s1 l1 p1 v1 O', f_sector [.hdl h, .lst (N.map .str)] O = .ok (.hdl n) O' ∧ LandAt n s1 l1 p1 v1 (lessN w N) O' ∧ Fz O O' ∧ O.length ≤ n := by
  obtain ⟨n, hn⟩ : ∃ n, O.length = n := ⟨_, rfl⟩
  have ec := checked_ok la hN hs hl
  obtain ⟨nd, hnd⟩ : ∃ nd, D.lst (N.map .str) = nd := ⟨_, rfl⟩
  rw [hnd] at ec
  have h0 : 0 < O.length := Nat.lt_of_le_of_lt (Nat.zero_le _) (List.getElem?_eq_some_iff.mp la.eo).1
  obtain ⟨OA, hOA⟩ : ∃ OA, O ++ [landO (n + 1) (n + 2) (n + 3) (n + 4), .lst [], .dct [], .dct [], .lst []] = OA := ⟨_, rfl⟩
  have hget : ∀ (i : Nat), OA[n + i]? = [landO (n + 1) (n + 2) (n + 3) (n + 4), Ob.lst [], .dct [], .dct [], .lst []][i]? := fun i => by
    rw [← hOA, List.getElem?_append_right (by omega), hn]
    congr 1
    omega
  have aA : LandAt n (n + 1) (n + 2) (n + 3) (n + 4) ⟨[], [], []⟩ OA := ⟨hget 0, hget 1, hget 2, hget 3, hget 4, by omega, by omega, by omega⟩
  have fA : Fz O OA := hOA ▸ fz_app
  have lA : OA.length = n + 5 := by rw [← hOA, List.length_append, hn]; rfl
  have eI := init_ok (O := O)
  rw [hn, hOA, ← y_init] at eI
  obtain ⟨r, O1, eR, gR, fR, hr⟩ := LR.rows_ok (la.fr fA.fr) k.srt (LR.like_self k.srt)
  rw [← y_rows] at eR
  have a1 := aA.fr fR.fr
  obtain ⟨L', O', eL, y3, y4, y5, s1, rfl, aF, gF, fF, lF⟩ := forHK (m := mMeth "Land" "rows" (arity 1 f_land_rows) [] (mVar 0) mNil) (b := seG) (body := seB) (L := LSe h nd n none none none) (O := OA) (O1 := O1) (n := r) (xs := LR.rowsD w)
    (I := fun j L O' => ∃ y3 y4 y5 s1, L = LSe h nd n y3 y4 y5 ∧ LandAt n s1 (n + 2) (n + 3) (n + 4) (pw w N j (j - w.st.length) (j - w.st.length - w.ls.length)) O' ∧ O'[r]? = some (.lst (LR.rowsD w)) ∧ Fz O O' ∧ O1.length ≤ O'.length)
    (by
      have eo := (la.fr fA.fr).eo
      have lk : List.lookup ("rows" : Str) [(("_stations" : Str), D.hdl s), (("_lines" : Str), .hdl l), (("_plants" : Str), .hdl p), (("_selves" : Str), .hdl v)] = none := rfl
      simp [runF, sSeq, sIf, sNext, sDrop, sRet, sRetN, sAsg, ofRes, ofB, bName, bNil, bCons, bTup, bLst, bSubL, mTest, mOp, mVar, mC, mChain, mAnd, mOr, mNot, mIf, mAndV, mOrV, mNotV, mNeg, mCons, mNil, mTup, mLst, newL, mCall, mFn, arity, g1, g2, gLen, gInt, gAbs, gMax2, gMin2, gIx, seqOf, lsqOf, lstOf, Res.bind, ofO, gAdd_ok, gSub_ok, gEq_int, gNe_int, gLt_int, gLe_int, gGt_int, gGe_int, gEq_bl, gNe_bl, gEq_str, gNe_str, mIsi, mIsiT, tyD, kitL, kitTab, atI_c0, atI_c1, atI_c2, atI_c3, atI_c4, sForR1, int1, int2, mMeth, mMake, mFld, sFldM, gIs, gIsNot, isNon_t, sRaise, gList, newLO, eo, lk, eR]) gR (fun j L O' ⟨_, _, _, _, _, _, g, _⟩ => g) ⟨none, none, none, n + 1, rfl, by simpa [pw] using a1, gR, fA.trans fR, Nat.le_refl _⟩ fun j d L O' hd ⟨y3, y4, y5, s1, hL, a, g, f, hlen⟩ => by
      subst hL
      have hr' := (List.getElem?_eq_some_iff.mp g).1
      have fin : ∀ O'' : Store, O'.length ≤ O''.length → (∀ i, i < O'.length → i ≠ n → i ≠ n + 2 → i ≠ n + 3 → i ≠ n + 4 → O''[i]? = O'[i]?) → O''[r]? = some (.lst (LR.rowsD w)) ∧ Fz O O'' ∧ O1.length ≤ O''.length := fun O'' h1 h2 => by
        refine ⟨(h2 r hr' (by omega) (by omega) (by omega) (by omega)).trans g, ⟨by have := f.1; omega, fun i hi => (h2 i (by have := f.1; omega) (by omega) (by omega) (by omega) (by omega)).trans (f.2 i hi)⟩, by omega⟩
      rcases rows_at hd with ⟨x, hx, rfl⟩ | ⟨h1, x, hx, rfl⟩ | ⟨h1, h2, x, hx, rfl⟩
      · have hj := (List.getElem?_eq_some_iff.mp hx).1
        rw [show j - w.st.length = 0 by omega, Nat.zero_sub] at a
        obtain ⟨s2, y3', y4', y5', O'', e, a', l', q⟩ := se_st (h := h) (y3 := y3) (y4 := y4) (y5 := y5) k hnd.symm hx a
        refine ⟨_, O'', e, y3', y4', y5', s2, rfl, ?_, fin O'' l' fun i hi h1 _ _ _ => q i hi h1⟩
        rw [show j + 1 - w.st.length = 0 by omega, Nat.zero_sub]
        exact a'
      · have hj := (List.getElem?_eq_some_iff.mp hx).1
        rw [show j - w.st.length - w.ls.length = 0 by omega] at a
        obtain ⟨y3', y4', y5', O'', e, a', l', q⟩ := se_ln (h := h) (y3 := y3) (y4 := y4) (y5 := y5) k hnd.symm hx h1 a
        refine ⟨_, O'', e, y3', y4', y5', s1, rfl, ?_, fin O'' l' fun i hi _ h2 _ _ => q i h2⟩
        rw [show j + 1 - w.st.length - w.ls.length = 0 by omega, show j + 1 - w.st.length = j - w.st.length + 1 by omega]
        exact a'
      · obtain ⟨y3', y4', y5', O'', e, a', l', q⟩ := se_pl (h := h) (y3 := y3) (y4 := y4) (y5 := y5) k hnd.symm hx h1 h2 a
        refine ⟨_, O'', e, y3', y4', y5', s1, rfl, ?_, fin O'' l' fun i hi _ _ h3 h4 => q i h3 h4⟩
        rw [show j + 1 - w.st.length - w.ls.length = j - w.st.length - w.ls.length + 1 by omega, show j + 1 - w.st.length = j - w.st.length + 1 by omega]
        exact a'
  refine ⟨n, s1, n + 2, n + 3, n + 4, O', ?_, ?_, fF, Nat.le_of_eq hn⟩
  · rw [hnd]
    have eR' := eL
    show runF 6 b_sector [.hdl h, nd] O = _
    unfold runF
    rw [show ([D.hdl h, nd].map some ++ List.replicate (6 - [D.hdl h, nd].length) none : Loc) = [some (.hdl h), some nd, none, none, none, none] from rfl, sector_is]
    generalize sForL (mMeth "Land" "rows" (arity 1 f_land_rows) [] (mVar 0) mNil) seG seB = sl at *
    simp [runF, sSeq, sIf, sNext, sDrop, sRet, sRetN, sAsg, ofRes, ofB, bName, bNil, bCons, bTup, bLst, bSubL, mTest, mOp, mVar, mC, mChain, mAnd, mOr, mNot, mIf, mAndV, mOrV, mNotV, mNeg, mCons, mNil, mTup, mLst, newL, mCall, mFn, arity, g1, g2, gLen, gInt, gAbs, gMax2, gMin2, gIx, seqOf, lsqOf, lstOf, Res.bind, ofO, gAdd_ok, gSub_ok, gEq_int, gNe_int, gLt_int, gLe_int, gGt_int, gGe_int, gEq_bl, gNe_bl, gEq_str, gNe_str, mIsi, mIsiT, tyD, kitL, kitTab, atI_c0, atI_c1, atI_c2, atI_c3, atI_c4, sForR1, int1, int2, mMeth, mMake, mFld, sFldM, gIs, gIsNot, isNon_t, sRaise, gList, newLO, hn, ec, eI, eL]
  · rw [rows_len] at aF
    have e : pw w N (w.st.length + w.ls.length + w.ps.length) (w.st.length + w.ls.length + w.ps.length - w.st.length) (w.st.length + w.ls.length + w.ps.length - w.st.length - w.ls.length) = lessN w N := by
      unfold pw lessN
      rw [List.take_of_length_le (by omega), List.take_of_length_le (by omega), List.take_of_length_le (by omega)]
    rw [← e]
    exact aF
/-! ### ties -/
def tiesN (w : Wd) (N : List Str) : List Str := (w.ls.filter fun x => decide (x.a ∈ N) != decide (x.b ∈ N)).map (·.n)
def tiP (N : List Str) (x : Ln) : Bool := decide (x.a ∈ N) != decide (x.b ∈ N)
theorem ne_bl {O : Store} (a b : Bool) : gNe O (.bl a) (.bl b) = some (.bl (a != b), O) := by cases a <;> cases b <;> rfl
theorem line1_ok (k : WOK w) (a : LandAt h s l p v w O) {x : Ln} (hx : x ∈ w.ls) : f_land_line [.hdl h, .str x.n] O = .ok (lineD x) O := by
  have e := val_nm (n := Ln.n) (g := lineD) k.srt.lnd hx
  have eo := a.eo
  have el := a.el
  have lk : List.lookup ("_lines" : Str) [(("_stations" : Str), D.hdl s), (("_lines" : Str), .hdl l), (("_plants" : Str), .hdl p), (("_selves" : Str), .hdl v)] = some (.hdl l) := rfl
  generalize dicS Ln.n lineD w.ls = z at *
  simp [f_land_line, b_land_line, mDIn, mDGet, dctOf, keyD, runF, sSeq, sIf, sNext, sDrop, sRet, sRetN, sAsg, ofRes, ofB, bName, bNil, bCons, bTup, bLst, bSubL, mTest, mOp, mVar, mC, mChain, mAnd, mOr, mNot, mIf, mAndV, mOrV, mNotV, mNeg, mCons, mNil, mTup, mLst, newL, mCall, mFn, arity, g1, g2, gLen, gInt, gAbs, gMax2, gMin2, gIx, seqOf, lsqOf, lstOf, Res.bind, ofO, gAdd_ok, gSub_ok, gEq_int, gNe_int, gLt_int, gLe_int, gGt_int, gGe_int, gEq_bl, gNe_bl, gEq_str, gNe_str, mIsi, mIsiT, tyD, kitL, kitTab, atI_c0, atI_c1, atI_c2, atI_c3, atI_c4, sForR1, int1, int2, mMeth, mMake, mFld, sFldM, gIs, gIsNot, isNon_t, sRaise, gList, newLO, eo, el, lk, e]
abbrev tiG : BM := (bTup 4 (bCons (bName 4) (bCons (bName 5) (bCons (bName 6) (bCons (bName 7) bNil)))))
abbrev tiB : SM := (sSeq (sAsg (mMeth "Land" "line" (arity 2 f_land_line) [] (mVar 0) (mCons (mVar 3) mNil)) tiG)
    (sIf (mTest (mOp gNe (mOp gIn (mVar 4) (mVar 1)) (mOp gIn (mVar 5) (mVar 1)))) (sDrop (mApp (mVar 2) (mVar 3))) sNext))
theorem ties_is : b_ties = sSeq (sDrop (mFn (arity 2 f_checked) [] (mCons (mVar 0) (mCons (mVar 1) mNil)))) (sSeq (sAsg (mLst true mNil) (bName 2)) (sSeq (sForL (mMeth "Land" "lines" (arity 1 f_land_lines) [] (mVar 0) mNil) (bName 3) tiB) (sRet (mVar 2)))) := rfl
theorem ties_ok (k : WOK w) (la : LandAt h s l p v w O) (hN : N.Nodup) (hs : ∀ x ∈ N, x ∈ w.st) (hl : N.length ≤ 100) : ∃ n O', f_ties [.hdl h, .lst (N.map .str)] O = .ok (.hdl n) O' ∧ O'[n]? = some (.lst ((tiesN w N).map .str)) ∧ Fz O O' ∧ O.length ≤ n := by
  obtain ⟨n, hn⟩ : ∃ n, O.length = n := ⟨_, rfl⟩
  have ec := checked_ok la hN hs hl
  have ga := fun (x : Str) (O' : Store) => in_strs (O := O') (d := .lst (N.map .str)) (xs := N) (nm := x) rfl
  obtain ⟨nd, hnd⟩ : ∃ nd, D.lst (N.map .str) = nd := ⟨_, rfl⟩
  rw [hnd] at ec ga
  have ll := k.ll
  have f1 : Fz O (O ++ [Ob.lst []]) := fz_app
  have el := lines_ok (la.fr f1.fr) k.srt
  obtain ⟨L', O', eL, y3, y4, y5, y6, y7, rfl, gF, fF⟩ := forL_keeps (m := mMeth "Land" "lines" (arity 1 f_land_lines) [] (mVar 0) mNil) (b := bName 3) (body := tiB) (L := [some (.hdl h), some nd, some (.hdl n), none, none, none, none, none]) (O := O ++ [Ob.lst []]) (O1 := O ++ [Ob.lst []]) (ds := (w.ls.map (·.n)).map .str)
    (I := fun i L O' => ∃ y3 y4 y5 y6 y7 : Option D, L = [some (.hdl h), some nd, some (.hdl n), y3, y4, y5, y6, y7] ∧ O'[n]? = some (.lst ((((w.ls.take i).filter (tiP N)).map (·.n)).map .str)) ∧ Fz O O')
    (by
      have eo := (la.fr f1.fr).eo
      rw [← y_lines] at el
      generalize (w.ls.map (·.n)).map D.str = zz at *
      simp [runF, sSeq, sIf, sNext, sDrop, sRet, sRetN, sAsg, ofRes, ofB, bName, bNil, bCons, bTup, bLst, bSubL, mTest, mOp, mVar, mC, mChain, mAnd, mOr, mNot, mIf, mAndV, mOrV, mNotV, mNeg, mCons, mNil, mTup, mLst, newL, mCall, mFn, arity, g1, g2, gLen, gInt, gAbs, gMax2, gMin2, gIx, seqOf, lsqOf, lstOf, Res.bind, ofO, gAdd_ok, gSub_ok, gEq_int, gNe_int, gLt_int, gLe_int, gGt_int, gGe_int, gEq_bl, gNe_bl, gEq_str, gNe_str, mIsi, mIsiT, tyD, kitL, kitTab, atI_c0, atI_c1, atI_c2, atI_c3, atI_c4, sForR1, int1, int2, mMeth, mMake, mFld, sFldM, gIs, gIsNot, isNon_t, sRaise, gList, newLO, eo, lk_stations, lk_lines, lk_plants, lk_names, lk_line, lk_plant, lk_is_self, lk_lines_at, lk_plants_at, lk_far_end, lk_rows, lk_there, lk_copy, lk_remove_station, lk_remove_line, lk_remove_plant, lk_add_station, lk_add_line, lk_add_self, lk_add_plant, lk_free, lk_room, lk_kind, el]) ⟨none, none, none, none, none, rfl, by rw [← hn]; simp, f1⟩ fun i d L O' hd ⟨y3, y4, y5, y6, y7, hL, g, f⟩ => by
      subst hL
      rw [List.map_map, List.getElem?_map] at hd
      obtain ⟨x, hx, rfl⟩ := Option.map_eq_some_iff.mp hd
      have hxm := List.mem_of_getElem? hx
      have a' := la.fr f.fr
      have eo := a'.eo
      have e1 := line1_ok k a' hxm
      have ex : lineD x = .tup [.str x.a, .str x.b, .int x.need, .int x.min] := rfl
      rw [ex] at e1
      have g1 := ga x.a O'
      have g2 := ga x.b O'
      have g3 := ne_bl (O := O') (decide (x.a ∈ N)) (decide (x.b ∈ N))
      have lk : List.lookup ("line" : Str) [(("_stations" : Str), D.hdl s), (("_lines" : Str), .hdl l), (("_plants" : Str), .hdl p), (("_selves" : Str), .hdl v)] = none := rfl
      rw [take_get hx, List.filter_append, List.filter_cons, List.filter_nil]
      by_cases c : tiP N x = true
      · rw [if_pos c]
        unfold tiP at c
        rw [c] at g3
        have hln : ((((w.ls.take i).filter (tiP N)).map (·.n)).map D.str).length ≤ 1000000 := by
          rw [List.length_map, List.length_map]
          exact Nat.le_trans (List.length_filter_le _ _) (by rw [List.length_take]; omega)
        refine ⟨[some (.hdl h), some nd, some (.hdl n), some (.str x.n), some (.str x.a), some (.str x.b), some (.int x.need), some (.int x.min)], O'.set n (.lst ((((w.ls.take i).filter (tiP N)).map (·.n)).map .str ++ [.str x.n])), ?_, _, _, _, _, _, rfl, ?_, fz_setNew f (by omega)⟩
        · generalize (((w.ls.take i).filter (tiP N)).map (·.n)).map D.str = Z at *
          generalize decide (x.a ∈ N) = ba at *
          generalize decide (x.b ∈ N) = bb at *
          simp [turnOf, tiB, tiG, mApp, runF, sSeq, sIf, sNext, sDrop, sRet, sRetN, sAsg, ofRes, ofB, bName, bNil, bCons, bTup, bLst, bSubL, mTest, mOp, mVar, mC, mChain, mAnd, mOr, mNot, mIf, mAndV, mOrV, mNotV, mNeg, mCons, mNil, mTup, mLst, newL, mCall, mFn, arity, g1, g2, gLen, gInt, gAbs, gMax2, gMin2, gIx, seqOf, lsqOf, lstOf, Res.bind, ofO, gAdd_ok, gSub_ok, gEq_int, gNe_int, gLt_int, gLe_int, gGt_int, gGe_int, gEq_bl, gNe_bl, gEq_str, gNe_str, mIsi, mIsiT, tyD, kitL, kitTab, atI_c0, atI_c1, atI_c2, atI_c3, atI_c4, sForR1, int1, int2, mMeth, mMake, mFld, sFldM, gIs, gIsNot, isNon_t, sRaise, gList, newLO, eo, lk, e1, g1, g2, g3, g, hln]
        · rw [List.getElem?_set_self (List.getElem?_eq_some_iff.mp g).1, List.map_append, List.map_append]
          rfl
      · rw [if_neg c, List.append_nil]
        unfold tiP at c
        rw [Bool.eq_false_iff.mpr c] at g3
        refine ⟨[some (.hdl h), some nd, some (.hdl n), some (.str x.n), some (.str x.a), some (.str x.b), some (.int x.need), some (.int x.min)], O', ?_, _, _, _, _, _, rfl, g, f⟩
        generalize decide (x.a ∈ N) = ba at *
        generalize decide (x.b ∈ N) = bb at *
        simp [turnOf, tiB, tiG, runF, sSeq, sIf, sNext, sDrop, sRet, sRetN, sAsg, ofRes, ofB, bName, bNil, bCons, bTup, bLst, bSubL, mTest, mOp, mVar, mC, mChain, mAnd, mOr, mNot, mIf, mAndV, mOrV, mNotV, mNeg, mCons, mNil, mTup, mLst, newL, mCall, mFn, arity, g1, g2, gLen, gInt, gAbs, gMax2, gMin2, gIx, seqOf, lsqOf, lstOf, Res.bind, ofO, gAdd_ok, gSub_ok, gEq_int, gNe_int, gLt_int, gLe_int, gGt_int, gGe_int, gEq_bl, gNe_bl, gEq_str, gNe_str, mIsi, mIsiT, tyD, kitL, kitTab, atI_c0, atI_c1, atI_c2, atI_c3, atI_c4, sForR1, int1, int2, mMeth, mMake, mFld, sFldM, gIs, gIsNot, isNon_t, sRaise, gList, newLO, eo, lk, e1, g1, g2, g3]
  refine ⟨n, O', ?_, ?_, fF, Nat.le_of_eq hn⟩
  · rw [hnd]
    show runF 8 b_ties [.hdl h, nd] O = _
    unfold runF
    rw [show ([D.hdl h, nd].map some ++ List.replicate (8 - [D.hdl h, nd].length) none : Loc) = [some (.hdl h), some nd, none, none, none, none, none, none] from rfl, ties_is]
    generalize sForL (mMeth "Land" "lines" (arity 1 f_land_lines) [] (mVar 0) mNil) (bName 3) tiB = sl at *
    simp [runF, sSeq, sIf, sNext, sDrop, sRet, sRetN, sAsg, ofRes, ofB, bName, bNil, bCons, bTup, bLst, bSubL, mTest, mOp, mVar, mC, mChain, mAnd, mOr, mNot, mIf, mAndV, mOrV, mNotV, mNeg, mCons, mNil, mTup, mLst, newL, mCall, mFn, arity, g1, g2, gLen, gInt, gAbs, gMax2, gMin2, gIx, seqOf, lsqOf, lstOf, Res.bind, ofO, gAdd_ok, gSub_ok, gEq_int, gNe_int, gLt_int, gLe_int, gGt_int, gGe_int, gEq_bl, gNe_bl, gEq_str, gNe_str, mIsi, mIsiT, tyD, kitL, kitTab, atI_c0, atI_c1, atI_c2, atI_c3, atI_c4, sForR1, int1, int2, mMeth, mMake, mFld, sFldM, gIs, gIsNot, isNon_t, sRaise, gList, newLO, hn, ec, eL]
  · rw [List.length_map, List.length_map, List.take_length] at gF
    exact gF
end
end DK.k41
end
section
set_option Elab.async false
set_option linter.all false
set_option autoImplicit false
set_option maxRecDepth 100000
set_option maxHeartbeats 4000000
/-! K41D: bad lists raise, in plain Lean. -/
namespace DK.k41
open PySem L2 DK DK.W
section
variable {h s l p v : Nat} {w : Wd} {O : Store} {N : List Str} {nd : D} {c : Str}
theorem sector_exc (e : f_checked [.hdl h, nd] O = .exc ⟨c, none⟩ O) : f_sector [.hdl h, nd] O = .exc ⟨c, none⟩ O := by
  show runF 6 b_sector [.hdl h, nd] O = _
  unfold runF
  rw [show ([D.hdl h, nd].map some ++ List.replicate (6 - [D.hdl h, nd].length) none : Loc) = [some (.hdl h), some nd, none, none, none, none] from rfl, sector_is]
  generalize sForL (mMeth "Land" "rows" (arity 1 f_land_rows) [] (mVar 0) mNil) seG seB = sl at *
  simp [runF, sSeq, sIf, sNext, sDrop, sRet, sRetN, sAsg, ofRes, ofB, bName, bNil, bCons, bTup, bLst, bSubL, mTest, mOp, mVar, mC, mChain, mAnd, mOr, mNot, mIf, mAndV, mOrV, mNotV, mNeg, mCons, mNil, mTup, mLst, newL, mCall, mFn, arity, g1, g2, gLen, gInt, gAbs, gMax2, gMin2, gIx, seqOf, lsqOf, lstOf, Res.bind, ofO, gAdd_ok, gSub_ok, gEq_int, gNe_int, gLt_int, gLe_int, gGt_int, gGe_int, gEq_bl, gNe_bl, gEq_str, gNe_str, mIsi, mIsiT, tyD, kitL, kitTab, atI_c0, atI_c1, atI_c2, atI_c3, atI_c4, sForR1, int1, int2, mMeth, mMake, mFld, sFldM, gIs, gIsNot, isNon_t, sRaise, gList, newLO, e]
theorem ties_exc (e : f_checked [.hdl h, nd] O = .exc ⟨c, none⟩ O) : f_ties [.hdl h, nd] O = .exc ⟨c, none⟩ O := by
  show runF 8 b_ties [.hdl h, nd] O = _
  unfold runF
  rw [show ([D.hdl h, nd].map some ++ List.replicate (8 - [D.hdl h, nd].length) none : Loc) = [some (.hdl h), some nd, none, none, none, none, none, none] from rfl, ties_is]
  generalize sForL (mMeth "Land" "lines" (arity 1 f_land_lines) [] (mVar 0) mNil) (bName 3) tiB = sl at *
  simp [runF, sSeq, sIf, sNext, sDrop, sRet, sRetN, sAsg, ofRes, ofB, bName, bNil, bCons, bTup, bLst, bSubL, mTest, mOp, mVar, mC, mChain, mAnd, mOr, mNot, mIf, mAndV, mOrV, mNotV, mNeg, mCons, mNil, mTup, mLst, newL, mCall, mFn, arity, g1, g2, gLen, gInt, gAbs, gMax2, gMin2, gIx, seqOf, lsqOf, lstOf, Res.bind, ofO, gAdd_ok, gSub_ok, gEq_int, gNe_int, gLt_int, gLe_int, gGt_int, gGe_int, gEq_bl, gNe_bl, gEq_str, gNe_str, mIsi, mIsiT, tyD, kitL, kitTab, atI_c0, atI_c1, atI_c2, atI_c3, atI_c4, sForR1, int1, int2, mMeth, mMake, mFld, sFldM, gIs, gIsNot, isNon_t, sRaise, gList, newLO, e]
abbrev raB : SM := (sTryM [⟨sub_law_raised_353_0, (fun nm => if nm = "InvalidName" then (sDrop (mApp (mVar 2) (mC (.str "twice")))) else fun _ _ => .bad)⟩, ⟨sub_law_raised_353_1, (fun nm => if nm = "UnknownName" then (sDrop (mApp (mVar 2) (mC (.str "unknown")))) else fun _ _ => .bad)⟩] (sIf (mTest (mOp gEq (mVar 3) (mC (.int 0)))) (sDrop (mFn (arity 2 f_sector) [] (mCons (mVar 0) (mCons (mVar 1) mNil)))) (sDrop (mFn (arity 2 f_ties) [] (mCons (mVar 0) (mCons (mVar 1) mNil))))))
theorem raised_is : b_law_raised = sSeq (sAsg (mLst true mNil) (bName 2)) (sSeq (sForR1 (mCons (mC (.int 2)) mNil) (bName 3) raB) (sRet (mVar 2))) := rfl
theorem ra_turn {n : Nat} {i : Int} {y3 : Option D} {tag : Str} {xs : List D} (e : f_checked [.hdl h, nd] O = .exc ⟨c, none⟩ O) (hc : (c = "InvalidName" ∧ tag = "twice") ∨ (c = "UnknownName" ∧ tag = "unknown")) (g : O[n]? = some (.lst xs)) (hl : xs.length ≤ 1000) : turnOf (bName 3) raB (.int i) [some (.hdl h), some nd, some (.hdl n), y3] O = .next [some (.hdl h), some nd, some (.hdl n), some (.int i)] (O.set n (.lst (xs ++ [.str tag]))) := by
  have e1 := sector_exc e
  have e2 := ties_exc e
  have e3 := gEq_int (O := O) (i := i) (j := 0)
  have hl' : xs.length ≤ 1000000 := by omega
  have hb : (sIf (mTest (mOp gEq (mVar 3) (mC (.int 0)))) (sDrop (mFn (arity 2 f_sector) [] (mCons (mVar 0) (mCons (mVar 1) mNil)))) (sDrop (mFn (arity 2 f_ties) [] (mCons (mVar 0) (mCons (mVar 1) mNil))))) [some (.hdl h), some nd, some (.hdl n), some (.int i)] O = .exc ⟨c, none⟩ [some (.hdl h), some nd, some (.hdl n), some (.int i)] O := by
    by_cases ci : i = 0
    · simp [runF, sSeq, sIf, sNext, sDrop, sRet, sRetN, sAsg, ofRes, ofB, bName, bNil, bCons, bTup, bLst, bSubL, mTest, mOp, mVar, mC, mChain, mAnd, mOr, mNot, mIf, mAndV, mOrV, mNotV, mNeg, mCons, mNil, mTup, mLst, newL, mCall, mFn, arity, g1, g2, gLen, gInt, gAbs, gMax2, gMin2, gIx, seqOf, lsqOf, lstOf, Res.bind, ofO, gAdd_ok, gSub_ok, gEq_int, gNe_int, gLt_int, gLe_int, gGt_int, gGe_int, gEq_bl, gNe_bl, gEq_str, gNe_str, mIsi, mIsiT, tyD, kitL, kitTab, atI_c0, atI_c1, atI_c2, atI_c3, atI_c4, sForR1, int1, int2, mMeth, mMake, mFld, sFldM, gIs, gIsNot, isNon_t, sRaise, gList, newLO, e1, ci]
    · rw [show decide (i = 0) = false from decide_eq_false ci] at e3
      simp [runF, sSeq, sIf, sNext, sDrop, sRet, sRetN, sAsg, ofRes, ofB, bName, bNil, bCons, bTup, bLst, bSubL, mTest, mOp, mVar, mC, mChain, mAnd, mOr, mNot, mIf, mAndV, mOrV, mNotV, mNeg, mCons, mNil, mTup, mLst, newL, mCall, mFn, arity, g1, g2, gLen, gInt, gAbs, gMax2, gMin2, gIx, seqOf, lsqOf, lstOf, Res.bind, ofO, gAdd_ok, gSub_ok, gEq_int, gNe_int, gLt_int, gLe_int, gGt_int, gGe_int, gEq_bl, gNe_bl, gEq_str, gNe_str, mIsi, mIsiT, tyD, kitL, kitTab, atI_c0, atI_c1, atI_c2, atI_c3, atI_c4, sForR1, int1, int2, mMeth, mMake, mFld, sFldM, gIs, gIsNot, isNon_t, sRaise, gList, newLO, e2, ci]
  show raB [some (.hdl h), some nd, some (.hdl n), some (.int i)] O = _
  unfold raB sTryM
  rw [hb]
  have s00 : sub_law_raised_353_0 "InvalidName" = some true := rfl
  have s01 : sub_law_raised_353_0 "UnknownName" = some false := rfl
  have s11 : sub_law_raised_353_1 "UnknownName" = some true := rfl
  rcases hc with ⟨rfl, rfl⟩ | ⟨rfl, rfl⟩ <;> simp [manyM, cleanS, s00, s01, s11, mApp, runF, sSeq, sIf, sNext, sDrop, sRet, sRetN, sAsg, ofRes, ofB, bName, bNil, bCons, bTup, bLst, bSubL, mTest, mOp, mVar, mC, mChain, mAnd, mOr, mNot, mIf, mAndV, mOrV, mNotV, mNeg, mCons, mNil, mTup, mLst, newL, mCall, mFn, arity, g1, g2, gLen, gInt, gAbs, gMax2, gMin2, gIx, seqOf, lsqOf, lstOf, Res.bind, ofO, gAdd_ok, gSub_ok, gEq_int, gNe_int, gLt_int, gLe_int, gGt_int, gGe_int, gEq_bl, gNe_bl, gEq_str, gNe_str, mIsi, mIsiT, tyD, kitL, kitTab, atI_c0, atI_c1, atI_c2, atI_c3, atI_c4, sForR1, int1, int2, mMeth, mMake, mFld, sFldM, gIs, gIsNot, isNon_t, sRaise, gList, newLO, g, hl']
theorem raised_ok {tag : Str} (e : ∀ O1, Fz O O1 → f_checked [.hdl h, nd] O1 = .exc ⟨c, none⟩ O1) (hc : (c = "InvalidName" ∧ tag = "twice") ∨ (c = "UnknownName" ∧ tag = "unknown")) : ∃ O', f_law_raised [.hdl h, nd] O = .ok (.hdl O.length) O' ∧ O'[O.length]? = some (.lst [.str tag, .str tag]) ∧ Fz O O' := by
  obtain ⟨n, hn⟩ : ∃ n, O.length = n := ⟨_, rfl⟩
  have f1 : Fz O (O ++ [Ob.lst []]) := fz_app
  have g1 : (O ++ [Ob.lst []])[n]? = some (.lst []) := by rw [← hn]; simp
  have t1 := ra_turn (i := 0) (y3 := none) (e _ f1) hc g1 (by simp)
  obtain ⟨O1, hO1⟩ : ∃ O1, (O ++ [Ob.lst []]).set n (.lst ([] ++ [D.str tag])) = O1 := ⟨_, rfl⟩
  rw [hO1] at t1
  have f2 : Fz O O1 := hO1 ▸ fz_setNew f1 (by omega)
  have g2 : O1[n]? = some (.lst [.str tag]) := by rw [← hO1, List.getElem?_set_self (List.getElem?_eq_some_iff.mp g1).1]; rfl
  have t2 := ra_turn (i := 1) (y3 := some (.int 0)) (e _ f2) hc g2 (by simp)
  refine ⟨O1.set n (.lst ([.str tag] ++ [.str tag])), ?_, by rw [hn, List.getElem?_set_self (List.getElem?_eq_some_iff.mp g2).1]; rfl, fz_setNew f2 (by omega)⟩
  have lp : sForR1 (mCons (mC (.int 2)) mNil) (bName 3) raB [some (.hdl h), some nd, some (.hdl n), none] (O ++ [Ob.lst []]) = .next [some (.hdl h), some nd, some (.hdl n), some (.int 1)] (O1.set n (.lst ([.str tag] ++ [.str tag]))) := by
    show loopD (turnOf (bName 3) raB) [.int 0, .int 1] _ _ = _
    rw [loopD_cons, t1]
    show loopD (turnOf (bName 3) raB) [.int 1] _ _ = _
    rw [loopD_cons, t2]
    rfl
  show runF 4 b_law_raised [.hdl h, nd] O = _
  unfold runF
  rw [show ([D.hdl h, nd].map some ++ List.replicate (4 - [D.hdl h, nd].length) none : Loc) = [some (.hdl h), some nd, none, none] from rfl, raised_is]
  generalize sForR1 (mCons (mC (.int 2)) mNil) (bName 3) raB = sl at *
  simp [runF, sSeq, sIf, sNext, sDrop, sRet, sRetN, sAsg, ofRes, ofB, bName, bNil, bCons, bTup, bLst, bSubL, mTest, mOp, mVar, mC, mChain, mAnd, mOr, mNot, mIf, mAndV, mOrV, mNotV, mNeg, mCons, mNil, mTup, mLst, newL, mCall, mFn, arity, g1, g2, gLen, gInt, gAbs, gMax2, gMin2, gIx, seqOf, lsqOf, lstOf, Res.bind, ofO, gAdd_ok, gSub_ok, gEq_int, gNe_int, gLt_int, gLe_int, gGt_int, gGe_int, gEq_bl, gNe_bl, gEq_str, gNe_str, mIsi, mIsiT, tyD, kitL, kitTab, atI_c0, atI_c1, atI_c2, atI_c3, atI_c4, sForR1, int1, int2, mMeth, mMake, mFld, sFldM, gIs, gIsNot, isNon_t, sRaise, gList, newLO, hn, lp]
end
end DK.k41
end
section
set_option Elab.async false
set_option linter.all false
set_option autoImplicit false
set_option maxRecDepth 100000
set_option maxHeartbeats 4000000
/-! K41E: the pieces, in plain Lean. -/
namespace DK.k41
open PySem L2 DK DK.W
theorem y_minit : f_moment_init = W.f_moment_init := rfl
theorem y_known : f_moment_known = W.f_moment_known := rfl
theorem y_stations : f_land_stations = W.f_land_stations := rfl
theorem lc_true {src : EM} {vs : List Nat} {b : BM} {tt : TM} {el : EM} {L : Loc} {O O' : Store} {ys : List D} (h : mLcL false src vs b tt el L O = .ok (.lst ys) O') (hy : ys.length ≤ 1000000) : mLcL true src vs b tt el L O = .ok (.hdl O'.length) (O' ++ [.lst ys]) := by
  unfold mLcL at h ⊢
  cases e : src L O with
  | ok d O1 =>
    rw [e] at h
    simp only [Res.bind] at h ⊢
    cases e2 : lsqOf O1 d with
    | none => rw [e2] at h; cases h
    | some xs =>
      rw [e2] at h
      simp only at h ⊢
      generalize lcG (fun i O => (lsqOf O d).map (·[i]?)) (lcTurn vs b tt el L) xs.length 0 O1 [] = z at *
      cases z with
      | none => cases h
      | some p =>
        have h : newL false p.2 p.1 = .ok (.lst ys) O' := h
        have h1 : p.2.length ≤ 1000000 := by
          unfold newL at h
          split at h
          · assumption
          · cases h
        rw [newL_f h1] at h
        cases h
        exact newL_t h1
  | exc a b => rw [e] at h; cases h
  | bad => rw [e] at h; cases h
section
variable {h s l p v m r : Nat} {w : Wd} {O : Store} {lit : List Str} {cls : List Ln} {rns : List Pl} {R : Str → Option Str} {nm : Str}
def rtsN (lit : List Str) (R : Str → Option Str) : List Str := lit.filter fun x => decide (R x = some x)
def clsN (lit : List Str) (R : Str → Option Str) (x : Str) : List Str := lit.filter fun y => decide (R y = R x)
abbrev lsD (xs : List Str) : D := .lst (xs.map .str)
theorem island_ok (k : MomAt m h r w lit cls rns R O) (hl : lit.length ≤ 1000) (hn : nm ∈ w.st) (hx : nm ∈ lit) : f_moment_island [.hdl m, .str nm] O = .ok (.hdl O.length) (O ++ [.lst ((clsN lit R nm).map .str)]) := by
  have e0 := known_ok k hn
  rw [← y_known] at e0
  have lk0 : ∀ {a b c d e f : D}, List.lookup ("_known" : Str) [(("_land" : Str), a), (("_names" : Str), b), (("_lit" : Str), c), (("_closed" : Str), d), (("_running" : Str), e), (("_root" : Str), f)] = none := rfl
  obtain ⟨kvs, d1, d2⟩ := k.rt
  have vn := d2 nm
  obtain ⟨f1, hf⟩ := k.mks.all.1 nm hx
  rw [hf] at vn
  have q := lcStr (src := mFld "Moment" "_lit" (mVar 0)) (i := 3) (tt := mTest (mOp gEq (mDGet (mFld "Moment" "_root" (mVar 0)) (mVar 3)) (mVar 2))) (L := [some (.hdl m), some (.str nm), some (.str f1), none]) (O := O) (O1 := O) (xs := lit) (fun y => decide (R y = some f1)) (by simp [runF, sSeq, sIf, sNext, sDrop, sRet, sRetN, sAsg, ofRes, ofB, bName, bNil, bCons, bTup, bLst, bSubL, mTest, mOp, mVar, mC, mChain, mAnd, mOr, mNot, mIf, mAndV, mOrV, mNotV, mNeg, mCons, mNil, mTup, mLst, newL, mCall, mFn, arity, g1, g2, gLen, gInt, gAbs, gMax2, gMin2, gIx, seqOf, lsqOf, lstOf, Res.bind, ofO, gAdd_ok, gSub_ok, gEq_int, gNe_int, gLt_int, gLe_int, gGt_int, gGe_int, gEq_bl, gNe_bl, gEq_str, gNe_str, mIsi, mIsiT, tyD, kitL, kitTab, atI_c0, atI_c1, atI_c2, atI_c3, atI_c4, sForR1, int1, int2, mMeth, mMake, mFld, sFldM, gIs, gIsNot, isNon_t, sRaise, gList, newLO, k.eo, mk3]) (by omega) (by simp) fun y hy => by
    obtain ⟨g, hg⟩ := k.mks.all.1 y hy
    have vy := d2 y
    rw [hg] at vy
    simp [mDGet, dctOf, keyD, runF, sSeq, sIf, sNext, sDrop, sRet, sRetN, sAsg, ofRes, ofB, bName, bNil, bCons, bTup, bLst, bSubL, mTest, mOp, mVar, mC, mChain, mAnd, mOr, mNot, mIf, mAndV, mOrV, mNotV, mNeg, mCons, mNil, mTup, mLst, newL, mCall, mFn, arity, g1, g2, gLen, gInt, gAbs, gMax2, gMin2, gIx, seqOf, lsqOf, lstOf, Res.bind, ofO, gAdd_ok, gSub_ok, gEq_int, gNe_int, gLt_int, gLe_int, gGt_int, gGe_int, gEq_bl, gNe_bl, gEq_str, gNe_str, mIsi, mIsiT, tyD, kitL, kitTab, atI_c0, atI_c1, atI_c2, atI_c3, atI_c4, sForR1, int1, int2, mMeth, mMake, mFld, sFldM, gIs, gIsNot, isNon_t, sRaise, gList, newLO, k.eo, mk6, d1, vy, hg]
  have q := lc_true q (by rw [List.length_map]; exact Nat.le_trans (List.length_filter_le _ _) (by omega))
  have ec : lit.filter (fun y => decide (R y = some f1)) = clsN lit R nm := by unfold clsN; rw [hf]
  rw [ec] at q
  simp only [f_moment_island, b_moment_island]
  generalize mLcL true (mFld "Moment" "_lit" (mVar 0)) [3] (bName 3) (mTest (mOp gEq (mDGet (mFld "Moment" "_root" (mVar 0)) (mVar 3)) (mVar 2))) (mVar 3) = c1 at q ⊢
  simp [mDIn, mDGet, dctOf, keyD, runF, sSeq, sIf, sNext, sDrop, sRet, sRetN, sAsg, ofRes, ofB, bName, bNil, bCons, bTup, bLst, bSubL, mTest, mOp, mVar, mC, mChain, mAnd, mOr, mNot, mIf, mAndV, mOrV, mNotV, mNeg, mCons, mNil, mTup, mLst, newL, mCall, mFn, arity, g1, g2, gLen, gInt, gAbs, gMax2, gMin2, gIx, seqOf, lsqOf, lstOf, Res.bind, ofO, gAdd_ok, gSub_ok, gEq_int, gNe_int, gLt_int, gLe_int, gGt_int, gGe_int, gEq_bl, gNe_bl, gEq_str, gNe_str, mIsi, mIsiT, tyD, kitL, kitTab, atI_c0, atI_c1, atI_c2, atI_c3, atI_c4, sForR1, int1, int2, mMeth, mMake, mFld, sFldM, gIs, gIsNot, isNon_t, sRaise, gList, newLO, k.eo, mk6, lk0, e0, d1, vn, q]
theorem islands_ok (k : MomAt m h r w lit cls rns R O) (nd : lit.Nodup) (hl : lit.length ≤ 1000) (hs : ∀ x ∈ lit, x ∈ w.st) : ∃ (q : Nat) (O' : Store) (hn : Str → Nat), f_moment_islands [.hdl m] O = .ok (.hdl q) O' ∧ O'[q]? = some (.lst ((rtsN lit R).map fun x => D.hdl (hn x))) ∧ (∀ x ∈ rtsN lit R, O'[hn x]? = some (.lst ((clsN lit R x).map .str)) ∧ O.length ≤ hn x ∧ hn x < q) ∧ Fz O O' ∧ O.length ≤ q := by
  have lk0 : ∀ {a b c d e f : D}, List.lookup ("island" : Str) [(("_land" : Str), a), (("_names" : Str), b), (("_lit" : Str), c), (("_closed" : Str), d), (("_running" : Str), e), (("_root" : Str), f)] = none := rfl
  obtain ⟨O', ys, e, ⟨hn, hy, hh, f⟩, hyl⟩ := lcL_keeps (src := mFld "Moment" "_lit" (mVar 0)) (vs := [1]) (b := bName 1) (tt := mTest (mOp gEq (mDGet (mFld "Moment" "_root" (mVar 0)) (mVar 1)) (mVar 1))) (el := mMeth "Moment" "island" (arity 2 f_moment_island) [] (mVar 0) (mCons (mVar 1) mNil)) (L := [some (.hdl m), none]) (O := O) (O1 := O) (ds := lit.map .str)
    (I := fun i O' acc => ∃ hn : Str → Nat, acc = (rtsN (lit.take i) R).map (fun x => D.hdl (hn x)) ∧ (∀ x ∈ rtsN (lit.take i) R, O'[hn x]? = some (.lst ((clsN lit R x).map .str)) ∧ O.length ≤ hn x) ∧ Fz O O')
    (by simp [runF, sSeq, sIf, sNext, sDrop, sRet, sRetN, sAsg, ofRes, ofB, bName, bNil, bCons, bTup, bLst, bSubL, mTest, mOp, mVar, mC, mChain, mAnd, mOr, mNot, mIf, mAndV, mOrV, mNotV, mNeg, mCons, mNil, mTup, mLst, newL, mCall, mFn, arity, g1, g2, gLen, gInt, gAbs, gMax2, gMin2, gIx, seqOf, lsqOf, lstOf, Res.bind, ofO, gAdd_ok, gSub_ok, gEq_int, gNe_int, gLt_int, gLe_int, gGt_int, gGe_int, gEq_bl, gNe_bl, gEq_str, gNe_str, mIsi, mIsiT, tyD, kitL, kitTab, atI_c0, atI_c1, atI_c2, atI_c3, atI_c4, sForR1, int1, int2, mMeth, mMake, mFld, sFldM, gIs, gIsNot, isNon_t, sRaise, gList, newLO, k.eo, mk3]) ⟨fun _ => 0, rfl, fun x hx => by simp [rtsN] at hx, Fz.refl _⟩ (by rw [List.length_map]; omega) fun i d O' acc hd ha ⟨hn, hacc, hh, f⟩ => by
      rw [List.getElem?_map] at hd
      obtain ⟨x, hx, rfl⟩ := Option.map_eq_some_iff.mp hd
      have hxm := List.mem_of_getElem? hx
      have k' := k.fz f
      obtain ⟨kvs, d1, d2⟩ := k'.rt
      obtain ⟨g, hg⟩ := k.mks.all.1 x hxm
      have vx := d2 x
      rw [hg] at vx
      have eo := k'.eo
      have et : mTest (mOp gEq (mDGet (mFld "Moment" "_root" (mVar 0)) (mVar 1)) (mVar 1)) [some (.hdl m), some (.str x)] O' = .ok (decide (g = x)) O' := by
        simp [mDGet, dctOf, keyD, runF, sSeq, sIf, sNext, sDrop, sRet, sRetN, sAsg, ofRes, ofB, bName, bNil, bCons, bTup, bLst, bSubL, mTest, mOp, mVar, mC, mChain, mAnd, mOr, mNot, mIf, mAndV, mOrV, mNotV, mNeg, mCons, mNil, mTup, mLst, newL, mCall, mFn, arity, g1, g2, gLen, gInt, gAbs, gMax2, gMin2, gIx, seqOf, lsqOf, lstOf, Res.bind, ofO, gAdd_ok, gSub_ok, gEq_int, gNe_int, gLt_int, gLe_int, gGt_int, gGe_int, gEq_bl, gNe_bl, gEq_str, gNe_str, mIsi, mIsiT, tyD, kitL, kitTab, atI_c0, atI_c1, atI_c2, atI_c3, atI_c4, sForR1, int1, int2, mMeth, mMake, mFld, sFldM, gIs, gIsNot, isNon_t, sRaise, gList, newLO, eo, mk6, d1, vx]
      have tk : rtsN (lit.take (i + 1)) R = rtsN (lit.take i) R ++ (if R x = some x then [x] else []) := by
        unfold rtsN
        rw [take_get hx, List.filter_append, List.filter_cons, List.filter_nil]
        simp
      by_cases c : g = x
      · subst c
        rw [if_pos hg] at tk
        have hni : g ∉ rtsN (lit.take i) R := fun z => nodup_mid (B := lit.drop (i + 1)) (by rw [← drop_get hx, List.take_append_drop]; exact nd) (List.mem_filter.mp z).1
        have e1 := island_ok k' hl (hs g hxm) hxm
        refine ⟨[some (.hdl m), some (.str g)], O' ++ [.lst ((clsN lit R g).map .str)], acc ++ [.hdl O'.length], rfl, .inl ⟨_, O', by rw [et, decide_eq_true rfl], ?_, rfl⟩, fun y => if y = g then O'.length else hn y, ?_, fun y hy => ?_, f.trans fz_app⟩
        · generalize clsN lit R g = zz at *
          simp [runF, sSeq, sIf, sNext, sDrop, sRet, sRetN, sAsg, ofRes, ofB, bName, bNil, bCons, bTup, bLst, bSubL, mTest, mOp, mVar, mC, mChain, mAnd, mOr, mNot, mIf, mAndV, mOrV, mNotV, mNeg, mCons, mNil, mTup, mLst, newL, mCall, mFn, arity, g1, g2, gLen, gInt, gAbs, gMax2, gMin2, gIx, seqOf, lsqOf, lstOf, Res.bind, ofO, gAdd_ok, gSub_ok, gEq_int, gNe_int, gLt_int, gLe_int, gGt_int, gGe_int, gEq_bl, gNe_bl, gEq_str, gNe_str, mIsi, mIsiT, tyD, kitL, kitTab, atI_c0, atI_c1, atI_c2, atI_c3, atI_c4, sForR1, int1, int2, mMeth, mMake, mFld, sFldM, gIs, gIsNot, isNon_t, sRaise, gList, newLO, eo, lk0, e1]
        · rw [tk, List.map_append, hacc]
          congr 1
          · refine List.map_congr_left fun y hy => ?_
            simp only [if_neg fun (q : y = g) => hni (q ▸ hy)]
          · simp
        · rw [tk] at hy
          rcases List.mem_append.mp hy with hy | hy
          · have ne : y ≠ g := fun (q : y = g) => hni (q ▸ hy)
            simp only [if_neg ne]
            obtain ⟨h1, h2⟩ := hh y hy
            exact ⟨fz_app.at h1, h2⟩
          · rw [List.mem_singleton.mp hy]
            simp only [if_pos]
            exact ⟨by simp, f.1⟩
      · have hne : ¬ R x = some x := fun q => c (by rw [hg] at q; exact Option.some.inj q)
        rw [if_neg hne, List.append_nil] at tk
        refine ⟨[some (.hdl m), some (.str x)], O', acc, rfl, .inr ⟨by rw [et, decide_eq_false c], rfl⟩, hn, by rw [tk]; exact hacc, fun y hy => hh y (by rw [tk] at hy; exact hy), f⟩
  rw [List.length_map, List.take_length] at hy hh
  have q := lc_true e (by rw [List.length_map] at hyl; omega)
  refine ⟨O'.length, O' ++ [.lst ys], hn, ?_, by rw [hy]; simp, fun x hx => ?_, f.trans fz_app, f.1⟩
  · simp only [f_moment_islands, b_moment_islands]
    generalize mLcL true (mFld "Moment" "_lit" (mVar 0)) [1] (bName 1) _ _ = c1 at q ⊢
    simp [runF, sSeq, sIf, sNext, sDrop, sRet, sRetN, sAsg, ofRes, ofB, bName, bNil, bCons, bTup, bLst, bSubL, mTest, mOp, mVar, mC, mChain, mAnd, mOr, mNot, mIf, mAndV, mOrV, mNotV, mNeg, mCons, mNil, mTup, mLst, newL, mCall, mFn, arity, g1, g2, gLen, gInt, gAbs, gMax2, gMin2, gIx, seqOf, lsqOf, lstOf, Res.bind, ofO, gAdd_ok, gSub_ok, gEq_int, gNe_int, gLt_int, gLe_int, gGt_int, gGe_int, gEq_bl, gNe_bl, gEq_str, gNe_str, mIsi, mIsiT, tyD, kitL, kitTab, atI_c0, atI_c1, atI_c2, atI_c3, atI_c4, sForR1, int1, int2, mMeth, mMake, mFld, sFldM, gIs, gIsNot, isNon_t, sRaise, gList, newLO, q]
  · obtain ⟨h1, h2⟩ := hh x hx
    exact ⟨fz_app.at h1, h2, (List.getElem?_eq_some_iff.mp h1).1⟩
theorem lit_all : litOf w w.st = w.st := List.filter_eq_self.mpr fun x hx => decide_eq_true hx
theorem cls_all : clsOf w (w.ls.map (·.n)) = w.ls := List.filter_eq_self.mpr fun x hx => decide_eq_true (List.mem_map.mpr ⟨x, hx, rfl⟩)
theorem pieces_ok (k : WOK w) (la : LandAt h s l p v w O) : ∃ (q : Nat) (O' : Store) (hn : Str → Nat) (R : Str → Option Str), f_pieces [.hdl h] O = .ok (.hdl q) O' ∧ O'[q]? = some (.lst ((rtsN w.st R).map fun x => D.hdl (hn x))) ∧ (∀ x ∈ rtsN w.st R, O'[hn x]? = some (.lst ((clsN w.st R x).map .str)) ∧ O.length ≤ hn x ∧ hn x < q) ∧ Fz O O' ∧ O.length ≤ q ∧ Marks (edgL w.ls w.st) w.st w.st.length [] R := by
  have s8 := k.srt.s8
  have eo := la.eo
  have e1 := stations_ok la k.srt
  have e2 := lines_ok la k.srt
  obtain ⟨O1, R, e3, f1, mo⟩ := moment_ok (A := w.st) (B := w.ls.map (·.n)) (C := []) (dA := .lst (w.st.map .str)) (dB := .lst ((w.ls.map (·.n)).map .str)) (dC := .lst []) la k.srt rfl rfl rfl (fun _ => rfl) (fun _ => rfl) (fun _ => rfl)
  rw [lit_all, cls_all] at mo
  obtain ⟨q, O2, hn, e4, g4, h4, f4, l4⟩ := islands_ok mo k.srt.snd (by omega) fun x hx => hx
  rw [← y_minit] at e3
  rw [← y_stations] at e1
  rw [← y_lines] at e2
  have l1 := f1.1
  refine ⟨q, O2, hn, R, ?_, g4, fun x hx => ⟨(h4 x hx).1, Nat.le_trans l1 (h4 x hx).2.1, (h4 x hx).2.2⟩, f1.trans f4, Nat.le_trans l1 l4, mo.mks⟩
  have em := mo.eo
  have lk0 : ∀ {a b c d e f : D}, List.lookup ("islands" : Str) [(("_land" : Str), a), (("_names" : Str), b), (("_lit" : Str), c), (("_closed" : Str), d), (("_running" : Str), e), (("_root" : Str), f)] = none := rfl
  generalize w.st.map D.str = z1 at *
  generalize (w.ls.map (·.n)).map D.str = z2 at *
  simp [f_pieces, b_pieces, runF, sSeq, sIf, sNext, sDrop, sRet, sRetN, sAsg, ofRes, ofB, bName, bNil, bCons, bTup, bLst, bSubL, mTest, mOp, mVar, mC, mChain, mAnd, mOr, mNot, mIf, mAndV, mOrV, mNotV, mNeg, mCons, mNil, mTup, mLst, newL, mCall, mFn, arity, g1, g2, gLen, gInt, gAbs, gMax2, gMin2, gIx, seqOf, lsqOf, lstOf, Res.bind, ofO, gAdd_ok, gSub_ok, gEq_int, gNe_int, gLt_int, gLe_int, gGt_int, gGe_int, gEq_bl, gNe_bl, gEq_str, gNe_str, mIsi, mIsiT, tyD, kitL, kitTab, atI_c0, atI_c1, atI_c2, atI_c3, atI_c4, sForR1, int1, int2, mMeth, mMake, mFld, sFldM, gIs, gIsNot, isNon_t, sRaise, gList, newLO, eo, lk_stations, lk_lines, lk_plants, lk_names, lk_line, lk_plant, lk_is_self, lk_lines_at, lk_plants_at, lk_far_end, lk_rows, lk_there, lk_copy, lk_remove_station, lk_remove_line, lk_remove_plant, lk_add_station, lk_add_line, lk_add_self, lk_add_plant, lk_free, lk_room, lk_kind, e1, e2, e3, em, lk0, e4]
end
end DK.k41
end
section
set_option Elab.async false
set_option linter.all false
set_option autoImplicit false
set_option maxRecDepth 100000
set_option maxHeartbeats 4000000
/-! K41F: the law's own pieces, in plain Lean. -/
namespace DK.k41
open PySem L2 DK DK.W
abbrev lpB1 : SM := (sDPutM (mVar 1) (mVar 2) (mVar 2))
abbrev lpB3 : SM := (sIf (mTest (mOp gEq (mDGet (mVar 1) (mVar 2)) (mVar 4))) (sDPutM (mVar 1) (mVar 2) (mDGet (mVar 1) (mOp gIx (mVar 3) (mC (.int 2))))) sNext)
abbrev lpB2 : SM := (sSeq (sAsg (mDGet (mVar 1) (mOp gIx (mVar 3) (mC (.int 1)))) (bName 4)) (sForL (mOp gIx (mVar 0) (mC (.int 0))) (bName 2) lpB3))
abbrev lpE1 : EM := (mLcL false (mVar 5) [6] (bName 6) (mTest (mOp gIn (mVar 2) (mVar 6))) (mVar 6))
abbrev lpE2 : EM := (mLcL false (mOp gIx (mVar 0) (mC (.int 0))) [7] (bName 7) (mTest (mOp gEq (mDGet (mVar 1) (mVar 7)) (mDGet (mVar 1) (mVar 2)))) (mVar 7))
abbrev lpC : SM := (sIf (mTest (mOp gEq (mCall (g1 gLen) (mCons lpE1 mNil)) (mC (.int 0)))) (sDrop (mApp (mVar 5) lpE2)) sNext)
theorem lpieces_is : b_law_pieces = sSeq (sAsg mDNew (bName 1)) (sSeq (sForL (mOp gIx (mVar 0) (mC (.int 0))) (bName 2) lpB1) (sSeq (sForL (mOp gIx (mVar 0) (mC (.int 1))) (bName 3) lpB2) (sSeq (sAsg (mLst true mNil) (bName 5)) (sSeq (sForL (mOp gIx (mVar 0) (mC (.int 0))) (bName 2) lpC) (sRet (mVar 5)))))) := rfl
section
variable {w : Wd} {O : Store} {R : Str → Option Str} {f : Str → Str}
abbrev LLp (wd : D) (n : Nat) (y2 y3 y4 y5 y6 y7 : Option D) : Loc := [some wd, some (.hdl n), y2, y3, y4, y5, y6, y7]
theorem lp_mark (k : WOK w) {n : Nat} (hn : O.length = n) : ∃ L' O' f, (sSeq (sForL (mOp gIx (mVar 0) (mC (.int 0))) (bName 2) lpB1) (sForL (mOp gIx (mVar 0) (mC (.int 1))) (bName 3) lpB2)) (LLp (encW w) n none none none none none none) (O ++ [.dct []]) = .next L' O' ∧
    (∃ y2 y3 y4, L' = LLp (encW w) n y2 y3 y4 none none none) ∧ (∃ kvs, O'[n]? = some (.dct kvs) ∧ RootIs kvs (RL w.st f)) ∧ Tells (edgL w.ls w.st) f ∧ Fz O O' := by
  have s8 := k.srt.s8
  obtain ⟨L1, O1, e1, ⟨y1, hL1⟩, kv1, k11, k12, k13, f1⟩ := forL_keeps (m := mOp gIx (mVar 0) (mC (.int 0))) (b := bName 2) (body := lpB1) (L := LLp (encW w) n none none none none none none) (O := O ++ [.dct []]) (O1 := O ++ [.dct []]) (ds := w.st.map .str)
    (I := fun i L O' => (∃ (y : Option D), L = LLp (encW w) n y none none none none none) ∧ ∃ kvs, O'[n]? = some (.dct kvs) ∧ RootIs kvs (RL (w.st.take i) id) ∧ kvs.length ≤ i ∧ Fz O O')
    (by simp [runF, sSeq, sIf, sNext, sDrop, sRet, sRetN, sAsg, ofRes, ofB, bName, bNil, bCons, bTup, bLst, bSubL, mTest, mOp, mVar, mC, mChain, mAnd, mOr, mNot, mIf, mAndV, mOrV, mNotV, mNeg, mCons, mNil, mTup, mLst, newL, mCall, mFn, arity, g1, g2, gLen, gInt, gAbs, gMax2, gMin2, gIx, seqOf, lsqOf, lstOf, Res.bind, ofO, gAdd_ok, gSub_ok, gEq_int, gNe_int, gLt_int, gLe_int, gGt_int, gGe_int, gEq_bl, gNe_bl, gEq_str, gNe_str, mIsi, mIsiT, tyD, kitL, kitTab, atI_c0, atI_c1, atI_c2, atI_c3, atI_c4, sForR1, int1, int2, mMeth, mMake, mFld, sFldM, gIs, gIsNot, isNon_t, sRaise, gList, newLO]) ⟨⟨none, rfl⟩, [], by simp [← hn], fun x => by simp [valD], Nat.le_refl _, fz_app⟩ fun i d L O2 hd ⟨⟨y, hL⟩, kvs, d1, d2, d3, f⟩ => by
      subst hL
      rw [List.getElem?_map] at hd
      obtain ⟨x, hx, rfl⟩ := Option.map_eq_some_iff.mp hd
      have hi := (List.getElem?_eq_some_iff.mp hx).1
      have kl : kvs.length ≤ 1000000 := by omega
      refine ⟨_, O2.set n (.dct (putKD kvs (.inr x) (.str x))), ?_, ⟨some (.str x), rfl⟩, _, List.getElem?_set_self (List.getElem?_eq_some_iff.mp d1).1, ?_, ?_, fz_setNew f (by omega)⟩
      · simp [turnOf, lpB1, mDIn, dctOf, keyD, hdlN, sDPutM, runF, sSeq, sIf, sNext, sDrop, sRet, sRetN, sAsg, ofRes, ofB, bName, bNil, bCons, bTup, bLst, bSubL, mTest, mOp, mVar, mC, mChain, mAnd, mOr, mNot, mIf, mAndV, mOrV, mNotV, mNeg, mCons, mNil, mTup, mLst, newL, mCall, mFn, arity, g1, g2, gLen, gInt, gAbs, gMax2, gMin2, gIx, seqOf, lsqOf, lstOf, Res.bind, ofO, gAdd_ok, gSub_ok, gEq_int, gNe_int, gLt_int, gLe_int, gGt_int, gGe_int, gEq_bl, gNe_bl, gEq_str, gNe_str, mIsi, mIsiT, tyD, kitL, kitTab, atI_c0, atI_c1, atI_c2, atI_c3, atI_c4, sForR1, int1, int2, mMeth, mMake, mFld, sFldM, gIs, gIsNot, isNon_t, sRaise, gList, newLO, d1, kl]
      · intro z
        rw [d2.put z, take_get hx]
        by_cases cz : z = x
        · subst cz; simp
        · simp [cz]
      · have := put_len (kvs := kvs) (k := .inr x) (d := .str x); omega
  rw [List.length_map, List.take_length] at k12
  rw [List.length_map] at k13
  subst hL1
  obtain ⟨L2, O2, e2, ⟨z3, z4, z5, hL2⟩, f, kv2, k21, k22, k23, k24, f2⟩ := forL_keeps (m := mOp gIx (mVar 0) (mC (.int 1))) (b := bName 3) (body := lpB2) (L := LLp (encW w) n y1 none none none none none) (O := O1) (O1 := O1) (ds := w.ls.map encL)
    (I := fun i L O' => (∃ (y2 y3 y4 : Option D), L = LLp (encW w) n y2 y3 y4 none none none) ∧ ∃ (f : Str → Str) (kvs : List (Key × D)), O'[n]? = some (.dct kvs) ∧ RootIs kvs (RL w.st f) ∧ kvs.length ≤ 1000 ∧ Tells (edgL (w.ls.take i) w.st) f ∧ Fz O O')
    (by simp [runF, sSeq, sIf, sNext, sDrop, sRet, sRetN, sAsg, ofRes, ofB, bName, bNil, bCons, bTup, bLst, bSubL, mTest, mOp, mVar, mC, mChain, mAnd, mOr, mNot, mIf, mAndV, mOrV, mNotV, mNeg, mCons, mNil, mTup, mLst, newL, mCall, mFn, arity, g1, g2, gLen, gInt, gAbs, gMax2, gMin2, gIx, seqOf, lsqOf, lstOf, Res.bind, ofO, gAdd_ok, gSub_ok, gEq_int, gNe_int, gLt_int, gLe_int, gGt_int, gGe_int, gEq_bl, gNe_bl, gEq_str, gNe_str, mIsi, mIsiT, tyD, kitL, kitTab, atI_c0, atI_c1, atI_c2, atI_c3, atI_c4, sForR1, int1, int2, mMeth, mMake, mFld, sFldM, gIs, gIsNot, isNon_t, sRaise, gList, newLO]) ⟨⟨y1, none, none, rfl⟩, id, kv1, k11, k12, by omega, tells_nil, f1⟩ fun i d L O2 hd ⟨⟨y2, y3, y4, hL⟩, f, kvs, d1, d2, d3, d4, fz⟩ => by
      subst hL
      rw [List.getElem?_map] at hd
      obtain ⟨x, hx, rfl⟩ := Option.map_eq_some_iff.mp hd
      have hxm := List.mem_of_getElem? hx
      have ca := (k.lok x hxm).a
      have cb := (k.lok x hxm).b
      have va : valD kvs (.inr x.a) = some (.str (f x.a)) := by rw [d2 x.a]; simp [RL, ca]
      rw [take_get hx, edgL_snoc, if_pos ⟨ca, cb⟩]
      obtain ⟨L3, O3, e3, ⟨q3, rfl⟩, kv3, k31, k32, k33, f3⟩ := forL_keeps (m := mOp gIx (mVar 0) (mC (.int 0))) (b := bName 2) (body := lpB3) (L := LLp (encW w) n y2 (some (encL x)) (some (.str (f x.a))) none none none) (O := O2) (O1 := O2) (ds := w.st.map .str)
        (I := fun j L O' => (∃ (y2 : Option D), L = LLp (encW w) n y2 (some (encL x)) (some (.str (f x.a))) none none none) ∧ ∃ (kvs : List (Key × D)), O'[n]? = some (.dct kvs) ∧ RootIs kvs (RL w.st fun z => if f z = f x.a ∧ z ∈ w.st.take j then f x.b else f z) ∧ kvs.length ≤ 1000 ∧ Fz O O')
        (by simp [runF, sSeq, sIf, sNext, sDrop, sRet, sRetN, sAsg, ofRes, ofB, bName, bNil, bCons, bTup, bLst, bSubL, mTest, mOp, mVar, mC, mChain, mAnd, mOr, mNot, mIf, mAndV, mOrV, mNotV, mNeg, mCons, mNil, mTup, mLst, newL, mCall, mFn, arity, g1, g2, gLen, gInt, gAbs, gMax2, gMin2, gIx, seqOf, lsqOf, lstOf, Res.bind, ofO, gAdd_ok, gSub_ok, gEq_int, gNe_int, gLt_int, gLe_int, gGt_int, gGe_int, gEq_bl, gNe_bl, gEq_str, gNe_str, mIsi, mIsiT, tyD, kitL, kitTab, atI_c0, atI_c1, atI_c2, atI_c3, atI_c4, sForR1, int1, int2, mMeth, mMake, mFld, sFldM, gIs, gIsNot, isNon_t, sRaise, gList, newLO]) ⟨⟨y2, rfl⟩, kvs, d1, by simpa using d2, d3, fz⟩ fun j d L O4 hd ⟨⟨y2, hL⟩, kvs, d1, d2, d3, fz⟩ => by
          subst hL
          rw [List.getElem?_map] at hd
          obtain ⟨z, hz, rfl⟩ := Option.map_eq_some_iff.mp hd
          have hzn : z ∉ w.st.take j := nodup_mid (B := w.st.drop (j + 1)) (by rw [← drop_get hz, List.take_append_drop]; exact k.srt.snd)
          have cz := List.mem_of_getElem? hz
          have vb : valD kvs (.inr x.b) = some (.str (f x.b)) := by
            rw [d2 x.b]
            simp only [RL, if_pos cb]
            by_cases q : f x.b = f x.a ∧ x.b ∈ w.st.take j
            · rw [if_pos q]; rfl
            · rw [if_neg q]; rfl
          have kl : kvs.length ≤ 1000000 := by omega
          have stp : ∀ y, y ≠ z → (y ∈ w.st.take (j + 1) ↔ y ∈ w.st.take j) := fun y hy => by
            rw [take_get hz]; simp [hy]
          have stz : z ∈ w.st.take (j + 1) := by rw [take_get hz]; simp
          have vz : valD kvs (.inr z) = some (.str (f z)) := by
            rw [d2 z]
            simp [RL, cz, hzn]
          by_cases cf : f z = f x.a
          · refine ⟨_, O4.set n (.dct (putKD kvs (.inr z) (.str (f x.b)))), ?_, ⟨some (.str z), rfl⟩, _, List.getElem?_set_self (List.getElem?_eq_some_iff.mp d1).1, ?_, ?_, fz_setNew fz (by omega)⟩
            · simp [turnOf, lpB3, mDIn, mDGet, dctOf, keyD, hdlN, sDPutM, runF, sSeq, sIf, sNext, sDrop, sRet, sRetN, sAsg, ofRes, ofB, bName, bNil, bCons, bTup, bLst, bSubL, mTest, mOp, mVar, mC, mChain, mAnd, mOr, mNot, mIf, mAndV, mOrV, mNotV, mNeg, mCons, mNil, mTup, mLst, newL, mCall, mFn, arity, g1, g2, gLen, gInt, gAbs, gMax2, gMin2, gIx, seqOf, lsqOf, lstOf, Res.bind, ofO, gAdd_ok, gSub_ok, gEq_int, gNe_int, gLt_int, gLe_int, gGt_int, gGe_int, gEq_bl, gNe_bl, gEq_str, gNe_str, mIsi, mIsiT, tyD, kitL, kitTab, atI_c0, atI_c1, atI_c2, atI_c3, atI_c4, sForR1, int1, int2, mMeth, mMake, mFld, sFldM, gIs, gIsNot, isNon_t, sRaise, gList, newLO, d1, vz, vb, cf, kl]
            · intro y
              rw [d2.put y]
              by_cases cy : y = z
              · subst cy; simp [cz, cf, stz]
              · simp only [if_neg cy, RL, stp y cy]
            · rw [put_len_eq (by rw [vz]; rfl)]; exact d3
          · refine ⟨_, O4, ?_, ⟨some (.str z), rfl⟩, kvs, d1, ?_, d3, fz⟩
            · simp [turnOf, lpB3, mDIn, mDGet, dctOf, keyD, hdlN, sDPutM, runF, sSeq, sIf, sNext, sDrop, sRet, sRetN, sAsg, ofRes, ofB, bName, bNil, bCons, bTup, bLst, bSubL, mTest, mOp, mVar, mC, mChain, mAnd, mOr, mNot, mIf, mAndV, mOrV, mNotV, mNeg, mCons, mNil, mTup, mLst, newL, mCall, mFn, arity, g1, g2, gLen, gInt, gAbs, gMax2, gMin2, gIx, seqOf, lsqOf, lstOf, Res.bind, ofO, gAdd_ok, gSub_ok, gEq_int, gNe_int, gLt_int, gLe_int, gGt_int, gGe_int, gEq_bl, gNe_bl, gEq_str, gNe_str, mIsi, mIsiT, tyD, kitL, kitTab, atI_c0, atI_c1, atI_c2, atI_c3, atI_c4, sForR1, int1, int2, mMeth, mMake, mFld, sFldM, gIs, gIsNot, isNon_t, sRaise, gList, newLO, d1, vz, vb, cf]
            · intro y
              rw [d2 y]
              by_cases cy : y = z
              · subst cy; simp [cf]
              · simp only [RL, stp y cy]
      rw [List.length_map, List.take_length] at k32
      refine ⟨_, O3, ?_, ⟨q3, some (encL x), some (.str (f x.a)), rfl⟩, fun z => if f z = f x.a then f x.b else f z, kv3, k31, ?_, k33, tells_step d4, f3⟩
      · simp only [lpB2]
        generalize sForL (mOp gIx (mVar 0) (mC (.int 0))) (bName 2) lpB3 = sw at e3 ⊢
        simp [turnOf, mDIn, mDGet, dctOf, keyD, runF, sSeq, sIf, sNext, sDrop, sRet, sRetN, sAsg, ofRes, ofB, bName, bNil, bCons, bTup, bLst, bSubL, mTest, mOp, mVar, mC, mChain, mAnd, mOr, mNot, mIf, mAndV, mOrV, mNotV, mNeg, mCons, mNil, mTup, mLst, newL, mCall, mFn, arity, g1, g2, gLen, gInt, gAbs, gMax2, gMin2, gIx, seqOf, lsqOf, lstOf, Res.bind, ofO, gAdd_ok, gSub_ok, gEq_int, gNe_int, gLt_int, gLe_int, gGt_int, gGe_int, gEq_bl, gNe_bl, gEq_str, gNe_str, mIsi, mIsiT, tyD, kitL, kitTab, atI_c0, atI_c1, atI_c2, atI_c3, atI_c4, sForR1, int1, int2, mMeth, mMake, mFld, sFldM, gIs, gIsNot, isNon_t, sRaise, gList, newLO, d1, va, e3]
      · intro z
        rw [k32 z]
        by_cases cz : z ∈ w.st
        · simp [cz]
        · simp [RL, cz]
  rw [List.length_map, List.take_length] at k24
  refine ⟨L2, O2, f, ?_, ⟨_, _, _, hL2⟩, ⟨kv2, k21, k22⟩, k24, f2⟩
  rw [seq_nx e1, e2]
/-! ### both partitions are one -/
theorem root_first (nd : w.st.Nodup) (m : Marks (edgL w.ls w.st) w.st w.st.length [] R) {i : Nat} {x : Str} (hx : w.st[i]? = some x) : R x = some x ↔ ∀ z ∈ rtsN (w.st.take i) R, R z ≠ R x := by
  have hi := (List.getElem?_eq_some_iff.mp hx).1
  have hni : x ∉ w.st.take i := nodup_mid (B := w.st.drop (i + 1)) (by rw [← drop_get hx, List.take_append_drop]; exact nd)
  constructor
  · intro hr z hz e
    obtain ⟨h1, h2⟩ := List.mem_filter.mp hz
    have h2 := of_decide_eq_true h2
    rw [hr, h2] at e
    exact hni (Option.some.inj e ▸ h1)
  · intro hz
    obtain ⟨j', x', h1, h2, h3⟩ := m.past i x hi hx
    by_cases c : j' = i
    · rw [c, hx] at h2
      rw [h3, ← Option.some.inj h2]
    · exfalso
      have hx'm := List.mem_of_getElem? h2
      have hxm := List.mem_of_getElem? hx
      have e : R x' = R x := (m.all.2 x' x hx'm hxm).mpr (m.conn _ _ h3).symm
      have hx't : x' ∈ w.st.take i := List.mem_iff_getElem?.mpr ⟨j', by rw [List.getElem?_take, if_pos (by omega)]; exact h2⟩
      exact hz x' (List.mem_filter.mpr ⟨hx't, decide_eq_true (by rw [e, h3])⟩) e
theorem cls_tells (m : Marks (edgL w.ls w.st) w.st w.st.length [] R) (t : Tells (edgL w.ls w.st) f) {x : Str} (hx : x ∈ w.st) : w.st.filter (fun y => decide (f y = f x)) = clsN w.st R x := by
  unfold clsN
  refine List.filter_congr fun y hy => ?_
  rw [Bool.eq_iff_iff, decide_eq_true_iff, decide_eq_true_iff, t y x, m.all.2 y x hy hx]
theorem lpieces_ok (k : WOK w) (m : Marks (edgL w.ls w.st) w.st w.st.length [] R) : ∃ q O', f_law_pieces [encW w] O = .ok (.hdl q) O' ∧ O'[q]? = some (.lst ((rtsN w.st R).map fun x => lsD (clsN w.st R x))) ∧ Fz O O' := by
  obtain ⟨n, hn⟩ : ∃ n, O.length = n := ⟨_, rfl⟩
  have s8 := k.srt.s8
  obtain ⟨L1, O1, f, e1, ⟨y2, y3, y4, rfl⟩, ⟨kvs, d1, d2⟩, t, f1⟩ := lp_mark k hn
  obtain ⟨nf, hnf⟩ : ∃ nf, O1.length = nf := ⟨_, rfl⟩
  have nnf : n < nf := hnf ▸ (List.getElem?_eq_some_iff.mp d1).1
  obtain ⟨L2, O2, e2, ⟨z2, z6, z7, rfl⟩, g2, f2⟩ := forL_keeps (m := mOp gIx (mVar 0) (mC (.int 0))) (b := bName 2) (body := lpC) (L := LLp (encW w) n y2 y3 y4 (some (.hdl nf)) none none) (O := O1 ++ [.lst []]) (O1 := O1 ++ [.lst []]) (ds := w.st.map .str)
    (I := fun i L O' => (∃ (z2 z6 z7 : Option D), L = LLp (encW w) n z2 y3 y4 (some (.hdl nf)) z6 z7) ∧ O'[nf]? = some (.lst ((rtsN (w.st.take i) R).map fun x => lsD (clsN w.st R x))) ∧ Fz O1 O')
    (by simp [runF, sSeq, sIf, sNext, sDrop, sRet, sRetN, sAsg, ofRes, ofB, bName, bNil, bCons, bTup, bLst, bSubL, mTest, mOp, mVar, mC, mChain, mAnd, mOr, mNot, mIf, mAndV, mOrV, mNotV, mNeg, mCons, mNil, mTup, mLst, newL, mCall, mFn, arity, g1, g2, gLen, gInt, gAbs, gMax2, gMin2, gIx, seqOf, lsqOf, lstOf, Res.bind, ofO, gAdd_ok, gSub_ok, gEq_int, gNe_int, gLt_int, gLe_int, gGt_int, gGe_int, gEq_bl, gNe_bl, gEq_str, gNe_str, mIsi, mIsiT, tyD, kitL, kitTab, atI_c0, atI_c1, atI_c2, atI_c3, atI_c4, sForR1, int1, int2, mMeth, mMake, mFld, sFldM, gIs, gIsNot, isNon_t, sRaise, gList, newLO]) ⟨⟨y2, none, none, rfl⟩, by rw [← hnf]; simp [rtsN], fz_app⟩ fun i d L O' hd ⟨⟨z2, z6, z7, hL⟩, g, fz⟩ => by
      subst hL
      rw [List.getElem?_map] at hd
      obtain ⟨x, hx, rfl⟩ := Option.map_eq_some_iff.mp hd
      have hxm := List.mem_of_getElem? hx
      have d1' := fz.at d1
      have vv : ∀ y ∈ w.st, valD kvs (.inr y) = some (.str (f y)) := fun y hy => by rw [d2 y]; simp [RL, hy]
      have kl : (rtsN (w.st.take i) R).length ≤ 60 := Nat.le_trans (List.length_filter_le _ _) (by rw [List.length_take]; omega)
      have c1 := lc_all (hm := false) (enc := fun z => lsD (clsN w.st R z)) (src := mVar 5) (i := 6) (tt := mTest (mOp gIn (mVar 2) (mVar 6))) (el := mVar 6) (L := LLp (encW w) n (some (.str x)) y3 y4 (some (.hdl nf)) z6 z7) (O := O') (O1 := O') (d := .hdl nf) (xs := rtsN (w.st.take i) R) (fun z => decide (x ∈ clsN w.st R z)) (fun z => lsD (clsN w.st R z)) (by simp [runF, sSeq, sIf, sNext, sDrop, sRet, sRetN, sAsg, ofRes, ofB, bName, bNil, bCons, bTup, bLst, bSubL, mTest, mOp, mVar, mC, mChain, mAnd, mOr, mNot, mIf, mAndV, mOrV, mNotV, mNeg, mCons, mNil, mTup, mLst, newL, mCall, mFn, arity, g1, g2, gLen, gInt, gAbs, gMax2, gMin2, gIx, seqOf, lsqOf, lstOf, Res.bind, ofO, gAdd_ok, gSub_ok, gEq_int, gNe_int, gLt_int, gLe_int, gGt_int, gGe_int, gEq_bl, gNe_bl, gEq_str, gNe_str, mIsi, mIsiT, tyD, kitL, kitTab, atI_c0, atI_c1, atI_c2, atI_c3, atI_c4, sForR1, int1, int2, mMeth, mMake, mFld, sFldM, gIs, gIsNot, isNon_t, sRaise, gList, newLO]) (lsq_h g) (by omega) (by simp)
        (fun z hz => by
          have e := in_strs (O := O') (d := .lst ((clsN w.st R z).map .str)) (xs := clsN w.st R z) (nm := x) rfl
          show mTest (mOp gIn (mVar 2) (mVar 6)) (LLp (encW w) n (some (.str x)) y3 y4 (some (.hdl nf)) (some (.lst ((clsN w.st R z).map .str))) z7) O' = _
          generalize (clsN w.st R z).map D.str = zz at *
          generalize decide (x ∈ clsN w.st R z) = bb at *
          simp [runF, sSeq, sIf, sNext, sDrop, sRet, sRetN, sAsg, ofRes, ofB, bName, bNil, bCons, bTup, bLst, bSubL, mTest, mOp, mVar, mC, mChain, mAnd, mOr, mNot, mIf, mAndV, mOrV, mNotV, mNeg, mCons, mNil, mTup, mLst, newL, mCall, mFn, arity, g1, g2, gLen, gInt, gAbs, gMax2, gMin2, gIx, seqOf, lsqOf, lstOf, Res.bind, ofO, gAdd_ok, gSub_ok, gEq_int, gNe_int, gLt_int, gLe_int, gGt_int, gGe_int, gEq_bl, gNe_bl, gEq_str, gNe_str, mIsi, mIsiT, tyD, kitL, kitTab, atI_c0, atI_c1, atI_c2, atI_c3, atI_c4, sForR1, int1, int2, mMeth, mMake, mFld, sFldM, gIs, gIsNot, isNon_t, sRaise, gList, newLO, e])
        (fun z hz _ => rfl)
      rw [newL_f (by rw [List.length_map]; exact Nat.le_trans (List.length_filter_le _ _) (by omega))] at c1
      have hz0 : (((rtsN (w.st.take i) R).filter fun z => decide (x ∈ clsN w.st R z)).map fun z => lsD (clsN w.st R z)) = [] ↔ R x = some x := by
        rw [root_first k.srt.snd m hx, List.map_eq_nil_iff, List.filter_eq_nil_iff]
        refine ⟨fun q z hz e => q z hz (decide_eq_true (List.mem_filter.mpr ⟨hxm, decide_eq_true e.symm⟩)), fun q z hz e => q z hz (of_decide_eq_true (List.mem_filter.mp (of_decide_eq_true e)).2).symm⟩
      have tk : rtsN (w.st.take (i + 1)) R = rtsN (w.st.take i) R ++ (if R x = some x then [x] else []) := by
        unfold rtsN
        rw [take_get hx, List.filter_append, List.filter_cons, List.filter_nil]
        simp
      have c1 : lpE1 (LLp (encW w) n (some (.str x)) y3 y4 (some (.hdl nf)) z6 z7) O' = .ok (.lst (((rtsN (w.st.take i) R).filter fun z => decide (x ∈ clsN w.st R z)).map fun z => lsD (clsN w.st R z))) O' := c1
      generalize ((rtsN (w.st.take i) R).filter fun z => decide (x ∈ clsN w.st R z)).map (fun z => lsD (clsN w.st R z)) = zs at *
      by_cases c : R x = some x
      · have hz := hz0.mpr c
        have q2 := lcStr (src := (mOp gIx (mVar 0) (mC (.int 0)))) (i := 7) (tt := (mTest (mOp gEq (mDGet (mVar 1) (mVar 7)) (mDGet (mVar 1) (mVar 2))))) (L := LLp (encW w) n (some (.str x)) y3 y4 (some (.hdl nf)) z6 z7) (O := O') (O1 := O') (xs := w.st) (fun y => decide (f y = f x)) (by simp [runF, sSeq, sIf, sNext, sDrop, sRet, sRetN, sAsg, ofRes, ofB, bName, bNil, bCons, bTup, bLst, bSubL, mTest, mOp, mVar, mC, mChain, mAnd, mOr, mNot, mIf, mAndV, mOrV, mNotV, mNeg, mCons, mNil, mTup, mLst, newL, mCall, mFn, arity, g1, g2, gLen, gInt, gAbs, gMax2, gMin2, gIx, seqOf, lsqOf, lstOf, Res.bind, ofO, gAdd_ok, gSub_ok, gEq_int, gNe_int, gLt_int, gLe_int, gGt_int, gGe_int, gEq_bl, gNe_bl, gEq_str, gNe_str, mIsi, mIsiT, tyD, kitL, kitTab, atI_c0, atI_c1, atI_c2, atI_c3, atI_c4, sForR1, int1, int2, mMeth, mMake, mFld, sFldM, gIs, gIsNot, isNon_t, sRaise, gList, newLO]) (by omega) (by simp) fun y hy => by
          have v1 := vv y hy
          have v2 := vv x hxm
          simp [mDGet, dctOf, keyD, runF, sSeq, sIf, sNext, sDrop, sRet, sRetN, sAsg, ofRes, ofB, bName, bNil, bCons, bTup, bLst, bSubL, mTest, mOp, mVar, mC, mChain, mAnd, mOr, mNot, mIf, mAndV, mOrV, mNotV, mNeg, mCons, mNil, mTup, mLst, newL, mCall, mFn, arity, g1, g2, gLen, gInt, gAbs, gMax2, gMin2, gIx, seqOf, lsqOf, lstOf, Res.bind, ofO, gAdd_ok, gSub_ok, gEq_int, gNe_int, gLt_int, gLe_int, gGt_int, gGe_int, gEq_bl, gNe_bl, gEq_str, gNe_str, mIsi, mIsiT, tyD, kitL, kitTab, atI_c0, atI_c1, atI_c2, atI_c3, atI_c4, sForR1, int1, int2, mMeth, mMake, mFld, sFldM, gIs, gIsNot, isNon_t, sRaise, gList, newLO, d1', v1, v2]
        rw [cls_tells m t hxm] at q2
        have q2 : lpE2 (LLp (encW w) n (some (.str x)) y3 y4 (some (.hdl nf)) z6 z7) O' = .ok (lsD (clsN w.st R x)) O' := q2
        rw [if_pos c] at tk
        have hln : ((rtsN (w.st.take i) R).map fun x => lsD (clsN w.st R x)).length ≤ 1000000 := by rw [List.length_map]; omega
        refine ⟨LLp (encW w) n (some (.str x)) y3 y4 (some (.hdl nf)) z6 z7, O'.set nf (.lst ((rtsN (w.st.take i) R).map (fun x => lsD (clsN w.st R x)) ++ [lsD (clsN w.st R x)])), ?_, ⟨_, _, _, rfl⟩, ?_, fz_setNew fz (by omega)⟩
        · show lpC (LLp (encW w) n (some (.str x)) y3 y4 (some (.hdl nf)) z6 z7) O' = _
          unfold lpC
          generalize lpE1 = a1 at *
          generalize lpE2 = a2 at *
          generalize (rtsN (w.st.take i) R).map (fun x => lsD (clsN w.st R x)) = Z at *
          generalize lsD (clsN w.st R x) = dx at *
          simp [mApp, runF, sSeq, sIf, sNext, sDrop, sRet, sRetN, sAsg, ofRes, ofB, bName, bNil, bCons, bTup, bLst, bSubL, mTest, mOp, mVar, mC, mChain, mAnd, mOr, mNot, mIf, mAndV, mOrV, mNotV, mNeg, mCons, mNil, mTup, mLst, newL, mCall, mFn, arity, g1, g2, gLen, gInt, gAbs, gMax2, gMin2, gIx, seqOf, lsqOf, lstOf, Res.bind, ofO, gAdd_ok, gSub_ok, gEq_int, gNe_int, gLt_int, gLe_int, gGt_int, gGe_int, gEq_bl, gNe_bl, gEq_str, gNe_str, mIsi, mIsiT, tyD, kitL, kitTab, atI_c0, atI_c1, atI_c2, atI_c3, atI_c4, sForR1, int1, int2, mMeth, mMake, mFld, sFldM, gIs, gIsNot, isNon_t, sRaise, gList, newLO, c1, hz, q2, g, hln]
        · rw [List.getElem?_set_self (List.getElem?_eq_some_iff.mp g).1, tk, List.map_append]
          rfl
      · have hz : ¬ zs = [] := fun q => c (hz0.mp q)
        rw [if_neg c, List.append_nil] at tk
        refine ⟨LLp (encW w) n (some (.str x)) y3 y4 (some (.hdl nf)) z6 z7, O', ?_, ⟨_, _, _, rfl⟩, by rw [tk]; exact g, fz⟩
        show lpC (LLp (encW w) n (some (.str x)) y3 y4 (some (.hdl nf)) z6 z7) O' = _
        unfold lpC
        generalize lpE1 = a1 at *
        generalize lpE2 = a2 at *
        simp [runF, sSeq, sIf, sNext, sDrop, sRet, sRetN, sAsg, ofRes, ofB, bName, bNil, bCons, bTup, bLst, bSubL, mTest, mOp, mVar, mC, mChain, mAnd, mOr, mNot, mIf, mAndV, mOrV, mNotV, mNeg, mCons, mNil, mTup, mLst, newL, mCall, mFn, arity, g1, g2, gLen, gInt, gAbs, gMax2, gMin2, gIx, seqOf, lsqOf, lstOf, Res.bind, ofO, gAdd_ok, gSub_ok, gEq_int, gNe_int, gLt_int, gLe_int, gGt_int, gGe_int, gEq_bl, gNe_bl, gEq_str, gNe_str, mIsi, mIsiT, tyD, kitL, kitTab, atI_c0, atI_c1, atI_c2, atI_c3, atI_c4, sForR1, int1, int2, mMeth, mMake, mFld, sFldM, gIs, gIsNot, isNon_t, sRaise, gList, newLO, c1, hz]
  rw [List.length_map, List.take_length] at g2
  refine ⟨nf, O2, ?_, g2, f1.trans f2⟩
  show runF 8 b_law_pieces [encW w] O = _
  unfold runF
  rw [show ([encW w].map some ++ List.replicate (8 - [encW w].length) none : Loc) = [some (encW w), none, none, none, none, none, none, none] from rfl, lpieces_is]
  have e0 : (sAsg mDNew (bName 1)) [some (encW w), none, none, none, none, none, none, none] O = .next (LLp (encW w) n none none none none none none) (O ++ [.dct []]) := by
    simp [runF, sSeq, sIf, sNext, sDrop, sRet, sRetN, sAsg, ofRes, ofB, bName, bNil, bCons, bTup, bLst, bSubL, mTest, mOp, mVar, mC, mChain, mAnd, mOr, mNot, mIf, mAndV, mOrV, mNotV, mNeg, mCons, mNil, mTup, mLst, newL, mCall, mFn, arity, g1, g2, gLen, gInt, gAbs, gMax2, gMin2, gIx, seqOf, lsqOf, lstOf, Res.bind, ofO, gAdd_ok, gSub_ok, gEq_int, gNe_int, gLt_int, gLe_int, gGt_int, gGe_int, gEq_bl, gNe_bl, gEq_str, gNe_str, mIsi, mIsiT, tyD, kitL, kitTab, atI_c0, atI_c1, atI_c2, atI_c3, atI_c4, sForR1, int1, int2, mMeth, mMake, mFld, sFldM, gIs, gIsNot, isNon_t, sRaise, gList, newLO, mDNew, hn]
  have e3 : (sAsg (mLst true mNil) (bName 5)) (LLp (encW w) n y2 y3 y4 none none none) O1 = .next (LLp (encW w) n y2 y3 y4 (some (.hdl nf)) none none) (O1 ++ [.lst []]) := by
    simp [runF, sSeq, sIf, sNext, sDrop, sRet, sRetN, sAsg, ofRes, ofB, bName, bNil, bCons, bTup, bLst, bSubL, mTest, mOp, mVar, mC, mChain, mAnd, mOr, mNot, mIf, mAndV, mOrV, mNotV, mNeg, mCons, mNil, mTup, mLst, newL, mCall, mFn, arity, g1, g2, gLen, gInt, gAbs, gMax2, gMin2, gIx, seqOf, lsqOf, lstOf, Res.bind, ofO, gAdd_ok, gSub_ok, gEq_int, gNe_int, gLt_int, gLe_int, gGt_int, gGe_int, gEq_bl, gNe_bl, gEq_str, gNe_str, mIsi, mIsiT, tyD, kitL, kitTab, atI_c0, atI_c1, atI_c2, atI_c3, atI_c4, sForR1, int1, int2, mMeth, mMake, mFld, sFldM, gIs, gIsNot, isNon_t, sRaise, gList, newLO, hnf]
  have as : ∀ (a b c : SM) (L : Loc) (O : Store), sSeq a (sSeq b c) L O = sSeq (sSeq a b) c L O := fun a b c L O => by
    unfold sSeq
    cases a L O <;> rfl
  rw [seq_nx e0, as, seq_nx e1, seq_nx e3, seq_nx e2]
  rfl
end
end DK.k41
end
section
set_option Elab.async false
set_option linter.all false
set_option autoImplicit false
set_option maxRecDepth 100000
set_option maxHeartbeats 4000000
/-! K41G: the law's parts, in plain Lean. -/
namespace DK.k41
open PySem L2 DK DK.W
theorem y_take : f_law_take = fTake := rfl
abbrev T0 : SM := (sAsg (mLcL false (mLRev false (mOp gIx (mVar 2) (mC (.int 0)))) [11] (bName 11) (mTest (mOp gEq (mFn (arity 2 f_law_take) [] (mCons (mVar 1) (mCons (mC (.int 2)) mNil))) (mC (.int 0)))) (mVar 11)) (bName 8))
abbrev T1 : SM := (sAsg (mLst false (mCons (mLcL false (mOp gIx (mVar 2) (mC (.int 0))) [11] (bName 11) (mTest (mOp gIn (mVar 11) (mVar 8))) (mVar 11)) (mCons (mLcL false (mOp gIx (mVar 2) (mC (.int 1))) [12] (bName 12) (mAnd (mTest (mOp gIn (mOp gIx (mVar 12) (mC (.int 1))) (mVar 8))) (mTest (mOp gIn (mOp gIx (mVar 12) (mC (.int 2))) (mVar 8)))) (mVar 12)) (mCons (mLcL false (mOp gIx (mVar 2) (mC (.int 2))) [13] (bName 13) (mTest (mOp gIn (mOp gIx (mVar 13) (mC (.int 1))) (mVar 8))) (mVar 13)) mNil)))) (bName 9))
abbrev T2 : SM := (sAsg (mCall (g1 (gList false)) (mCons (mVar 8) mNil)) (bName 10))
abbrev T3 : SM := (sIf (mTest (mOp gNe (mMeth "Land" "rows" (arity 1 f_land_rows) [] (mFn (arity 2 f_sector) [] (mCons (mVar 3) (mCons (mVar 10) mNil))) mNil) (mMeth "Land" "rows" (arity 1 f_land_rows) [] (mFn (arity 1 f_law_build) [] (mCons (mVar 9) mNil)) mNil))) (sRet (mC (.bl false))) sNext)
abbrev T4 : SM := (sIf (mTest (mOp gNe (mVar 10) (mVar 8))) (sRet (mC (.bl false))) sNext)
abbrev T5 : SM := (sIf (mTest (mOp gNe (mFn (arity 2 f_ties) [] (mCons (mVar 3) (mCons (mCall (g1 (gList false)) (mCons (mVar 8) mNil)) mNil))) (mLcL false (mOp gIx (mVar 2) (mC (.int 1))) [12] (bName 12) (mTest (mOp gNe (mOp gIn (mOp gIx (mVar 12) (mC (.int 1))) (mVar 8)) (mOp gIn (mOp gIx (mVar 12) (mC (.int 2))) (mVar 8)))) (mOp gIx (mVar 12) (mC (.int 0)))))) (sRet (mC (.bl false))) sNext)
abbrev T6 : SM := (sIf (mOr (mTest (mOp gNe (mFn (arity 2 f_law_raised) [] (mCons (mVar 3) (mCons (mOp (gAdd false) (mVar 8) (mLst false (mCons (mC (.str "zed")) mNil))) mNil))) (mLst false (mCons (mC (.str "unknown")) (mCons (mC (.str "unknown")) mNil))))) (mTest (mOp gNe (mFn (arity 2 f_law_raised) [] (mCons (mVar 3) (mCons (mOp (gAdd false) (mOp (gAdd false) (mLst false (mCons (mC (.str "zed")) mNil)) (mVar 8)) (mLst false (mCons (mC (.str "zed")) mNil))) mNil))) (mLst false (mCons (mC (.str "twice")) (mCons (mC (.str "twice")) mNil)))))) (sRet (mC (.bl false))) sNext)
abbrev LA (sc wd : D) (h r q : Nat) (y6 y7 y8 y9 y10 y11 y12 y13 : Option D) : Loc := [some sc, some (.hdl 0), some wd, some (.hdl h), some (.hdl r), some (.hdl q), y6, y7, y8, y9, y10, y11, y12, y13]
section
variable {h s l p v r q b : Nat} {sc : D} {w : Wd} {O : Store} {N : List Str} {y6 y7 y8 y9 y10 y11 y12 y13 : Option D}
theorem st_ok {x : Str} (k : WOK w) (hx : x ∈ w.st) : PyData.strOk x = true := LR.nmOk x (k.snm hx)
theorem ln_ok {x : Ln} (k : WOK w) (hx : x ∈ w.ls) : PyData.strOk x.n = true := LR.nmOk _ (k.lnm hx)
theorem glist_l {O : Store} {xs : List D} (hl : xs.length ≤ 1000) : gList false O (.lst xs) = some (.lst xs, O) := by
  have : xs.length ≤ 1000000 := by omega
  simp [gList, seqOf, lsqOf, lstOf, newLO, this]
theorem gadd_l {O : Store} {xs ys : List D} (hl : xs.length + ys.length ≤ 1000) : gAdd false O (.lst xs) (.lst ys) = some (.lst (xs ++ ys), O) := by
  show newLO false (xs ++ ys) O = _
  have : (xs ++ ys).length ≤ 1000000 := by rw [List.length_append]; omega
  unfold newLO
  rw [if_pos this]
  rfl
theorem kind_zed (k : WOK w) : kindD w "zed" = .non := by
  refine kind_non (fun z => ?_) (fun z => ?_) fun z => ?_
  · exact absurd (k.st.subset z) (by decide +kernel)
  · exact absurd (k.ln.subset z) (by decide +kernel)
  · exact absurd (k.pn.subset z) (by decide +kernel)
/-- the drawn names -/
structure NamesOK (w : Wd) (N : List Str) : Prop where
  nd : N.Nodup
  st : ∀ x ∈ N, x ∈ w.st
  ln : N.length ≤ 6
theorem t0_ok (k : WOK w) (t : Take b 0 O) (hb : b ≤ 2 ^ 16) : ∃ N O', T0 (LA sc (encW w) h r q y6 y7 y8 y9 y10 y11 y12 y13) O = .next (LA sc (encW w) h r q y6 y7 (some (.lst (N.map .str))) y9 y10 y11 y12 y13) O' ∧ NamesOK w N ∧ Take (b + 6) 0 O' ∧ Fr O O' := by
  have s6 := k.st6
  have es : mLRev false (mOp gIx (mVar 2) (mC (.int 0))) (LA sc (encW w) h r q y6 y7 y8 y9 y10 y11 y12 y13) O = .ok (.lst (w.st.reverse.map .str)) O := by
    have hl : (w.st.reverse.map D.str).length ≤ 1000000 := by rw [List.length_map, List.length_reverse]; omega
    have hl' : (w.st.map D.str).length ≤ 1000000 := by rw [List.length_map]; omega
    have hg : gIx O (encW w) (.int 0) = some (.lst (w.st.map .str), O) := rfl
    have nl := newL_f (O := O) hl
    rw [List.map_reverse] at nl ⊢
    generalize encW w = ew at *
    generalize w.st.map D.str = zz at *
    simp [mLRev, lsqOf, runF, sSeq, sIf, sNext, sDrop, sRet, sRetN, sAsg, ofRes, ofB, bName, bNil, bCons, bTup, bLst, bSubL, mTest, mOp, mVar, mC, mChain, mAnd, mOr, mNot, mIf, mAndV, mOrV, mNotV, mNeg, mCons, mNil, mTup, mLst, newL, mCall, mFn, arity, g1, g2, gLen, gInt, gAbs, gMax2, gMin2, seqOf, lsqOf, lstOf, Res.bind, ofO, gAdd_ok, gSub_ok, gEq_int, gNe_int, gLt_int, gLe_int, gGt_int, gGe_int, gEq_bl, gNe_bl, gEq_str, gNe_str, mIsi, mIsiT, tyD, kitL, kitTab, atI_c0, atI_c1, atI_c2, atI_c3, atI_c4, sForR1, int1, int2, mMeth, mMake, mFld, sFldM, gIs, gIsNot, isNon_t, sRaise, gList, newLO, hg, nl, hl']
  obtain ⟨O', ys, e, ⟨N, rfl, hN, t', f'⟩, hy⟩ := lcL_keeps (src := mLRev false (mOp gIx (mVar 2) (mC (.int 0)))) (vs := [11]) (b := bName 11) (tt := mTest (mOp gEq (mFn (arity 2 f_law_take) [] (mCons (mVar 1) (mCons (mC (.int 2)) mNil))) (mC (.int 0)))) (el := mVar 11) (L := LA sc (encW w) h r q y6 y7 y8 y9 y10 y11 y12 y13) (O := O) (O1 := O) (ds := w.st.reverse.map .str)
    (I := fun i O' acc => ∃ N : List Str, acc = N.map .str ∧ N.Sublist (w.st.reverse.take i) ∧ Take (b + i) 0 O' ∧ Fr O O') es ⟨[], rfl, List.nil_sublist _, t, Fr.refl _⟩ (by rw [List.length_map, List.length_reverse]; omega) fun i d O' acc hd ha ⟨N, hacc, hN, t', f'⟩ => by
      rw [List.getElem?_map] at hd
      obtain ⟨x, hx, rfl⟩ := Option.map_eq_some_iff.mp hd
      have hi := (List.getElem?_eq_some_iff.mp hx).1
      rw [List.length_reverse] at hi
      obtain ⟨v, O'', e, v0, v1, t'', f'', _⟩ := tk1 (m := 2) t' (by omega) (by omega) (by omega)
      rw [← y_take] at e
      have eq := gEq_int (O := O'') (i := v) (j := 0)
      have et : mTest (mOp gEq (mFn (arity 2 f_law_take) [] (mCons (mVar 1) (mCons (mC (.int 2)) mNil))) (mC (.int 0))) (LA sc (encW w) h r q y6 y7 y8 y9 y10 (some (.str x)) y12 y13) O' = .ok (decide (v = 0)) O'' := by
        generalize encW w = ew at *
        simp [runF, sSeq, sIf, sNext, sDrop, sRet, sRetN, sAsg, ofRes, ofB, bName, bNil, bCons, bTup, bLst, bSubL, mTest, mOp, mVar, mC, mChain, mAnd, mOr, mNot, mIf, mAndV, mOrV, mNotV, mNeg, mCons, mNil, mTup, mLst, newL, mCall, mFn, arity, g1, g2, gLen, gInt, gAbs, gMax2, gMin2, gIx, seqOf, lsqOf, lstOf, Res.bind, ofO, gAdd_ok, gSub_ok, gEq_int, gNe_int, gLt_int, gLe_int, gGt_int, gGe_int, gEq_bl, gNe_bl, gEq_str, gNe_str, mIsi, mIsiT, tyD, kitL, kitTab, atI_c0, atI_c1, atI_c2, atI_c3, atI_c4, sForR1, int1, int2, mMeth, mMake, mFld, sFldM, gIs, gIsNot, isNon_t, sRaise, gList, newLO, e]
      by_cases c : v = 0
      · refine ⟨LA sc (encW w) h r q y6 y7 y8 y9 y10 (some (.str x)) y12 y13, O'', acc ++ [.str x], rfl, .inl ⟨_, O'', by rw [et, decide_eq_true c], rfl, rfl⟩, N ++ [x], by rw [hacc, List.map_append]; rfl, ?_, t'', f'.trans f''⟩
        rw [take_get hx]
        exact List.Sublist.append hN (List.Sublist.refl _)
      · refine ⟨LA sc (encW w) h r q y6 y7 y8 y9 y10 (some (.str x)) y12 y13, O'', acc, rfl, .inr ⟨by rw [et, decide_eq_false c], rfl⟩, N, hacc, ?_, t'', f'.trans f''⟩
        rw [take_get hx]
        exact hN.trans (List.sublist_append_left _ _)
  rw [List.length_map, List.length_reverse] at hN t'
  have hN' : N.Sublist w.st.reverse := hN.trans (List.take_sublist _ _)
  refine ⟨N, O', ?_, ⟨((List.reverse_perm w.st).nodup_iff.mpr k.srt.snd).sublist hN', fun x hx => List.mem_reverse.mp (hN'.subset hx), ?_⟩, tmono (by omega) t', f'⟩
  · show (sAsg _ (bName 8)) (LA sc (encW w) h r q y6 y7 y8 y9 y10 y11 y12 y13) O = _
    rw [asg_v e]
    rfl
  · have := hN'.length_le
    rw [List.length_reverse] at this
    omega
theorem t1_ok (k : WOK w) : T1 (LA sc (encW w) h r q y6 y7 (some (.lst (N.map .str))) y9 y10 y11 y12 y13) O = .next (LA sc (encW w) h r q y6 y7 (some (.lst (N.map .str))) (some (encW (lessN w N))) y10 y11 y12 y13) O := by
  have s6 := k.st6
  have ll := k.ll
  have pl := k.pl
  have ga := fun (x : Str) => in_strs (O := O) (d := .lst (N.map .str)) (xs := N) (nm := x) rfl
  obtain ⟨nd, hnd⟩ : ∃ nd, D.lst (N.map .str) = nd := ⟨_, rfl⟩
  rw [hnd] at ga ⊢
  have g0 : gIx O (encW w) (.int 0) = some (.lst (w.st.map .str), O) := rfl
  have g1 : gIx O (encW w) (.int 1) = some (.lst (w.ls.map encL), O) := rfl
  have g2 : gIx O (encW w) (.int 2) = some (.lst (w.ps.map encP), O) := rfl
  have c1 := lc_all (hm := false) (enc := D.str) (src := (mOp gIx (mVar 2) (mC (.int 0)))) (tt := (mTest (mOp gIn (mVar 11) (mVar 8)))) (el := mVar 11) (i := 11) (L := LA sc (encW w) h r q y6 y7 (some nd) y9 y10 y11 y12 y13) (O := O) (O1 := O) (d := .lst (w.st.map .str)) (xs := w.st) (fun x => decide (x ∈ N)) (fun x => .str x) (by generalize encW w = ew at *; simp [runF, sSeq, sIf, sNext, sDrop, sRet, sRetN, sAsg, ofRes, ofB, bName, bNil, bCons, bTup, bLst, bSubL, mTest, mOp, mVar, mC, mChain, mAnd, mOr, mNot, mIf, mAndV, mOrV, mNotV, mNeg, mCons, mNil, mTup, mLst, newL, mCall, mFn, arity, g1, g2, gLen, gInt, gAbs, gMax2, gMin2, seqOf, lsqOf, lstOf, Res.bind, ofO, gAdd_ok, gSub_ok, gEq_int, gNe_int, gLt_int, gLe_int, gGt_int, gGe_int, gEq_bl, gNe_bl, gEq_str, gNe_str, mIsi, mIsiT, tyD, kitL, kitTab, atI_c0, atI_c1, atI_c2, atI_c3, atI_c4, sForR1, int1, int2, mMeth, mMake, mFld, sFldM, gIs, gIsNot, isNon_t, sRaise, gList, newLO, g0]) rfl (by omega) (by simp)
    (fun x hx => by
      have e := ga x
      generalize encW w = ew at *
      generalize decide (x ∈ N) = bb at *
      simp [runF, sSeq, sIf, sNext, sDrop, sRet, sRetN, sAsg, ofRes, ofB, bName, bNil, bCons, bTup, bLst, bSubL, mTest, mOp, mVar, mC, mChain, mAnd, mOr, mNot, mIf, mAndV, mOrV, mNotV, mNeg, mCons, mNil, mTup, mLst, newL, mCall, mFn, arity, g1, g2, gLen, gInt, gAbs, gMax2, gMin2, gIx, seqOf, lsqOf, lstOf, Res.bind, ofO, gAdd_ok, gSub_ok, gEq_int, gNe_int, gLt_int, gLe_int, gGt_int, gGe_int, gEq_bl, gNe_bl, gEq_str, gNe_str, mIsi, mIsiT, tyD, kitL, kitTab, atI_c0, atI_c1, atI_c2, atI_c3, atI_c4, sForR1, int1, int2, mMeth, mMake, mFld, sFldM, gIs, gIsNot, isNon_t, sRaise, gList, newLO, e]) (fun x hx _ => by generalize encW w = ew at *; simp [runF, sSeq, sIf, sNext, sDrop, sRet, sRetN, sAsg, ofRes, ofB, bName, bNil, bCons, bTup, bLst, bSubL, mTest, mOp, mVar, mC, mChain, mAnd, mOr, mNot, mIf, mAndV, mOrV, mNotV, mNeg, mCons, mNil, mTup, mLst, newL, mCall, mFn, arity, g1, g2, gLen, gInt, gAbs, gMax2, gMin2, gIx, seqOf, lsqOf, lstOf, Res.bind, ofO, gAdd_ok, gSub_ok, gEq_int, gNe_int, gLt_int, gLe_int, gGt_int, gGe_int, gEq_bl, gNe_bl, gEq_str, gNe_str, mIsi, mIsiT, tyD, kitL, kitTab, atI_c0, atI_c1, atI_c2, atI_c3, atI_c4, sForR1, int1, int2, mMeth, mMake, mFld, sFldM, gIs, gIsNot, isNon_t, sRaise, gList, newLO])
  have c2 := lc_all (hm := false) (enc := encL) (src := (mOp gIx (mVar 2) (mC (.int 1)))) (tt := (mAnd (mTest (mOp gIn (mOp gIx (mVar 12) (mC (.int 1))) (mVar 8))) (mTest (mOp gIn (mOp gIx (mVar 12) (mC (.int 2))) (mVar 8))))) (el := mVar 12) (i := 12) (L := LA sc (encW w) h r q y6 y7 (some nd) y9 y10 y11 y12 y13) (O := O) (O1 := O) (d := .lst (w.ls.map encL)) (xs := w.ls) (fun l => decide (l.a ∈ N) && decide (l.b ∈ N)) encL (by generalize encW w = ew at *; simp [runF, sSeq, sIf, sNext, sDrop, sRet, sRetN, sAsg, ofRes, ofB, bName, bNil, bCons, bTup, bLst, bSubL, mTest, mOp, mVar, mC, mChain, mAnd, mOr, mNot, mIf, mAndV, mOrV, mNotV, mNeg, mCons, mNil, mTup, mLst, newL, mCall, mFn, arity, g1, g2, gLen, gInt, gAbs, gMax2, gMin2, seqOf, lsqOf, lstOf, Res.bind, ofO, gAdd_ok, gSub_ok, gEq_int, gNe_int, gLt_int, gLe_int, gGt_int, gGe_int, gEq_bl, gNe_bl, gEq_str, gNe_str, mIsi, mIsiT, tyD, kitL, kitTab, atI_c0, atI_c1, atI_c2, atI_c3, atI_c4, sForR1, int1, int2, mMeth, mMake, mFld, sFldM, gIs, gIsNot, isNon_t, sRaise, gList, newLO, g1]) rfl (by omega) (by simp)
    (fun x hx => by
      have e1 := ga x.a
      have e2 := ga x.b
      have i1 : gIx O (encL x) (.int 1) = some (.str x.a, O) := rfl
      have i2 : gIx O (encL x) (.int 2) = some (.str x.b, O) := rfl
      generalize encW w = ew at *
      generalize encL x = ex at *
      generalize decide (x.a ∈ N) = ba at *
      generalize decide (x.b ∈ N) = bb at *
      cases ba <;> simp [runF, sSeq, sIf, sNext, sDrop, sRet, sRetN, sAsg, ofRes, ofB, bName, bNil, bCons, bTup, bLst, bSubL, mTest, mOp, mVar, mC, mChain, mAnd, mOr, mNot, mIf, mAndV, mOrV, mNotV, mNeg, mCons, mNil, mTup, mLst, newL, mCall, mFn, arity, g1, g2, gLen, gInt, gAbs, gMax2, gMin2, seqOf, lsqOf, lstOf, Res.bind, ofO, gAdd_ok, gSub_ok, gEq_int, gNe_int, gLt_int, gLe_int, gGt_int, gGe_int, gEq_bl, gNe_bl, gEq_str, gNe_str, mIsi, mIsiT, tyD, kitL, kitTab, atI_c0, atI_c1, atI_c2, atI_c3, atI_c4, sForR1, int1, int2, mMeth, mMake, mFld, sFldM, gIs, gIsNot, isNon_t, sRaise, gList, newLO, e1, e2, i1, i2]) (fun x hx _ => by generalize encW w = ew at *; generalize encL x = ex at *; simp [runF, sSeq, sIf, sNext, sDrop, sRet, sRetN, sAsg, ofRes, ofB, bName, bNil, bCons, bTup, bLst, bSubL, mTest, mOp, mVar, mC, mChain, mAnd, mOr, mNot, mIf, mAndV, mOrV, mNotV, mNeg, mCons, mNil, mTup, mLst, newL, mCall, mFn, arity, g1, g2, gLen, gInt, gAbs, gMax2, gMin2, gIx, seqOf, lsqOf, lstOf, Res.bind, ofO, gAdd_ok, gSub_ok, gEq_int, gNe_int, gLt_int, gLe_int, gGt_int, gGe_int, gEq_bl, gNe_bl, gEq_str, gNe_str, mIsi, mIsiT, tyD, kitL, kitTab, atI_c0, atI_c1, atI_c2, atI_c3, atI_c4, sForR1, int1, int2, mMeth, mMake, mFld, sFldM, gIs, gIsNot, isNon_t, sRaise, gList, newLO])
  have c3 := lc_all (hm := false) (enc := encP) (src := (mOp gIx (mVar 2) (mC (.int 2)))) (tt := (mTest (mOp gIn (mOp gIx (mVar 13) (mC (.int 1))) (mVar 8)))) (el := mVar 13) (i := 13) (L := LA sc (encW w) h r q y6 y7 (some nd) y9 y10 y11 y12 y13) (O := O) (O1 := O) (d := .lst (w.ps.map encP)) (xs := w.ps) (fun p => decide (p.s ∈ N)) encP (by generalize encW w = ew at *; simp [runF, sSeq, sIf, sNext, sDrop, sRet, sRetN, sAsg, ofRes, ofB, bName, bNil, bCons, bTup, bLst, bSubL, mTest, mOp, mVar, mC, mChain, mAnd, mOr, mNot, mIf, mAndV, mOrV, mNotV, mNeg, mCons, mNil, mTup, mLst, newL, mCall, mFn, arity, g1, g2, gLen, gInt, gAbs, gMax2, gMin2, seqOf, lsqOf, lstOf, Res.bind, ofO, gAdd_ok, gSub_ok, gEq_int, gNe_int, gLt_int, gLe_int, gGt_int, gGe_int, gEq_bl, gNe_bl, gEq_str, gNe_str, mIsi, mIsiT, tyD, kitL, kitTab, atI_c0, atI_c1, atI_c2, atI_c3, atI_c4, sForR1, int1, int2, mMeth, mMake, mFld, sFldM, gIs, gIsNot, isNon_t, sRaise, gList, newLO, g2]) rfl (by omega) (by simp)
    (fun x hx => by
      have e1 := ga x.s
      have i1 : gIx O (encP x) (.int 1) = some (.str x.s, O) := rfl
      generalize encW w = ew at *
      generalize encP x = ex at *
      generalize decide (x.s ∈ N) = ba at *
      simp [runF, sSeq, sIf, sNext, sDrop, sRet, sRetN, sAsg, ofRes, ofB, bName, bNil, bCons, bTup, bLst, bSubL, mTest, mOp, mVar, mC, mChain, mAnd, mOr, mNot, mIf, mAndV, mOrV, mNotV, mNeg, mCons, mNil, mTup, mLst, newL, mCall, mFn, arity, g1, g2, gLen, gInt, gAbs, gMax2, gMin2, seqOf, lsqOf, lstOf, Res.bind, ofO, gAdd_ok, gSub_ok, gEq_int, gNe_int, gLt_int, gLe_int, gGt_int, gGe_int, gEq_bl, gNe_bl, gEq_str, gNe_str, mIsi, mIsiT, tyD, kitL, kitTab, atI_c0, atI_c1, atI_c2, atI_c3, atI_c4, sForR1, int1, int2, mMeth, mMake, mFld, sFldM, gIs, gIsNot, isNon_t, sRaise, gList, newLO, e1, i1]) (fun x hx _ => by generalize encW w = ew at *; generalize encP x = ex at *; simp [runF, sSeq, sIf, sNext, sDrop, sRet, sRetN, sAsg, ofRes, ofB, bName, bNil, bCons, bTup, bLst, bSubL, mTest, mOp, mVar, mC, mChain, mAnd, mOr, mNot, mIf, mAndV, mOrV, mNotV, mNeg, mCons, mNil, mTup, mLst, newL, mCall, mFn, arity, g1, g2, gLen, gInt, gAbs, gMax2, gMin2, gIx, seqOf, lsqOf, lstOf, Res.bind, ofO, gAdd_ok, gSub_ok, gEq_int, gNe_int, gLt_int, gLe_int, gGt_int, gGe_int, gEq_bl, gNe_bl, gEq_str, gNe_str, mIsi, mIsiT, tyD, kitL, kitTab, atI_c0, atI_c1, atI_c2, atI_c3, atI_c4, sForR1, int1, int2, mMeth, mMake, mFld, sFldM, gIs, gIsNot, isNon_t, sRaise, gList, newLO])
  rw [newL_f (by rw [List.length_map]; exact Nat.le_trans (List.length_filter_le _ _) (by omega))] at c1 c2 c3
  have el : encW (lessN w N) = .lst [.lst ((w.st.filter fun x => decide (x ∈ N)).map .str), .lst ((w.ls.filter fun l => decide (l.a ∈ N) && decide (l.b ∈ N)).map encL), .lst ((w.ps.filter fun p => decide (p.s ∈ N)).map encP)] := rfl
  rw [el]
  generalize encW w = ew at *
  generalize (w.st.filter fun x => decide (x ∈ N)).map (fun x => D.str x) = z1 at *
  generalize (w.ls.filter fun l => decide (l.a ∈ N) && decide (l.b ∈ N)).map encL = z2 at *
  generalize (w.ps.filter fun p => decide (p.s ∈ N)).map encP = z3 at *
  unfold T1
  generalize mLcL false (mOp gIx (mVar 2) (mC (.int 0))) [11] (bName 11) (mTest (mOp gIn (mVar 11) (mVar 8))) (mVar 11) = m1 at *
  generalize mLcL false (mOp gIx (mVar 2) (mC (.int 1))) [12] (bName 12) (mAnd (mTest (mOp gIn (mOp gIx (mVar 12) (mC (.int 1))) (mVar 8))) (mTest (mOp gIn (mOp gIx (mVar 12) (mC (.int 2))) (mVar 8)))) (mVar 12) = m2 at *
  generalize mLcL false (mOp gIx (mVar 2) (mC (.int 2))) [13] (bName 13) (mTest (mOp gIn (mOp gIx (mVar 13) (mC (.int 1))) (mVar 8))) (mVar 13) = m3 at *
  simp [runF, sSeq, sIf, sNext, sDrop, sRet, sRetN, sAsg, ofRes, ofB, bName, bNil, bCons, bTup, bLst, bSubL, mTest, mOp, mVar, mC, mChain, mAnd, mOr, mNot, mIf, mAndV, mOrV, mNotV, mNeg, mCons, mNil, mTup, mLst, newL, mCall, mFn, arity, g1, g2, gLen, gInt, gAbs, gMax2, gMin2, gIx, seqOf, lsqOf, lstOf, Res.bind, ofO, gAdd_ok, gSub_ok, gEq_int, gNe_int, gLt_int, gLe_int, gGt_int, gGe_int, gEq_bl, gNe_bl, gEq_str, gNe_str, mIsi, mIsiT, tyD, kitL, kitTab, atI_c0, atI_c1, atI_c2, atI_c3, atI_c4, sForR1, int1, int2, mMeth, mMake, mFld, sFldM, gIs, gIsNot, isNon_t, sRaise, gList, newLO, c1, c2, c3]
end
end DK.k41
end
section
set_option Elab.async false
set_option linter.all false
set_option autoImplicit false
set_option maxRecDepth 100000
set_option maxHeartbeats 4000000
/-! K41H: a turn of the law, in plain Lean. -/
namespace DK.k41
open PySem L2 DK DK.W
section
variable {h s l p v r q b : Nat} {sc ew ld : D} {w : Wd} {O : Store} {N : List Str} {y6 y7 y8 y9 y10 y11 y12 y13 : Option D}
theorem distT_mem : ∀ {X : List Str} {x : Str}, x ∈ distT X ↔ x ∈ X := by
  intro X
  induction h : X.length generalizing X with
  | zero => rw [List.length_eq_zero_iff.mp h]; intro x; exact Iff.rfl
  | succ n ih =>
    rcases List.eq_nil_or_concat X with e | ⟨Q, y, e⟩
    · rw [e] at h; cases h
    · rw [List.concat_eq_append] at e
      subst e
      rw [List.length_append] at h
      have i := @ih Q (by simpa using h)
      intro x
      have e : distT (Q ++ [y]) = addT (distT Q) y := by unfold distT; rw [List.foldl_append]; rfl
      rw [e]
      unfold addT
      split
      · rename_i hy
        rw [i]
        constructor
        · exact fun z => List.mem_append_left _ z
        · intro z
          rcases List.mem_append.mp z with z | z
          · exact z
          · rw [List.mem_singleton.mp z]; exact i.mp hy
      · rw [List.mem_append, i, List.mem_append]
theorem distT_len : ∀ {X : List Str}, (distT X).length ≤ X.length := by
  intro X
  induction h : X.length generalizing X with
  | zero => rw [List.length_eq_zero_iff.mp h]; exact Nat.le_refl _
  | succ n ih =>
    rcases List.eq_nil_or_concat X with e | ⟨Q, y, e⟩
    · rw [e] at h; cases h
    · rw [List.concat_eq_append] at e
      subst e
      rw [List.length_append] at h
      have i := @ih Q (by simpa using h)
      have e : distT (Q ++ [y]) = addT (distT Q) y := by unfold distT; rw [List.foldl_append]; rfl
      rw [e]
      unfold addT
      split
      · omega
      · rw [List.length_append, List.length_singleton]; omega
theorem distT_two {Q : List Str} {x : Str} (h : x ∈ Q) : (distT (Q ++ [x])).length < (Q ++ [x]).length := by
  have e : distT (Q ++ [x]) = addT (distT Q) x := by unfold distT; rw [List.foldl_append]; rfl
  rw [e]
  unfold addT
  rw [if_pos (distT_mem.mpr h), List.length_append, List.length_singleton]
  have := distT_len (X := Q)
  omega
theorem lk_rows : List.lookup ("rows" : Str) [(("_stations" : Str), D.hdl s), (("_lines" : Str), .hdl l), (("_plants" : Str), .hdl p), (("_selves" : Str), .hdl v)] = none := rfl
theorem t2_ok (hN : NamesOK w N) : T2 (LA sc ew h r q y6 y7 (some (.lst (N.map .str))) y9 y10 y11 y12 y13) O = .next (LA sc ew h r q y6 y7 (some (.lst (N.map .str))) y9 (some (.lst (N.map .str))) y11 y12 y13) O := by
  have g : (N.map D.str).length ≤ 1000000 := by rw [List.length_map]; have := hN.ln; omega
  generalize N.map D.str = zz at *
  simp [T2, runF, sSeq, sIf, sNext, sDrop, sRet, sRetN, sAsg, ofRes, ofB, bName, bNil, bCons, bTup, bLst, bSubL, mTest, mOp, mVar, mC, mChain, mAnd, mOr, mNot, mIf, mAndV, mOrV, mNotV, mNeg, mCons, mNil, mTup, mLst, newL, mCall, mFn, arity, g1, g2, gLen, gInt, gAbs, gMax2, gMin2, gIx, seqOf, lsqOf, lstOf, Res.bind, ofO, gAdd_ok, gSub_ok, gEq_int, gNe_int, gLt_int, gLe_int, gGt_int, gGe_int, gEq_bl, gNe_bl, gEq_str, gNe_str, mIsi, mIsiT, tyD, kitL, kitTab, atI_c0, atI_c1, atI_c2, atI_c3, atI_c4, sForR1, int1, int2, mMeth, mMake, mFld, sFldM, gIs, gIsNot, isNon_t, sRaise, gList, newLO, g]
theorem ne_rows {O : Store} {m n : Nat} (k : WOK w) (hm : O[m]? = some (.lst (LR.rowsD w))) (hn : O[n]? = some (.lst (LR.rowsD w))) : gNe O (.hdl m) (.hdl n) = some (.bl false, O) := ne_hdls hm hn (LR.okRows (LR.ok13 k))
/-- the rows of a sector -/
theorem secrows_ok (k : WOK w) (la : LandAt h s l p v w O) (hN : NamesOK w N) : ∃ n s1 l1 p1 v1 O1 rr O2, f_sector [.hdl h, .lst (N.map .str)] O = .ok (.hdl n) O1 ∧ O1[n]? = some (landO s1 l1 p1 v1) ∧ f_land_rows [.hdl n] O1 = .ok (.hdl rr) O2 ∧ O2[rr]? = some (.lst (LR.rowsD (lessN w N))) ∧ Fz O O2 := by
  obtain ⟨n, s1, l1, p1, v1, O1, e1, a1, f1, _⟩ := sector_ok k la hN.nd hN.st (by have := hN.ln; omega)
  have kl := (lessN_ok k N).srt
  obtain ⟨rr, O2, e2, g2, f2, _⟩ := LR.rows_ok a1 kl (LR.like_self kl)
  exact ⟨n, s1, l1, p1, v1, O1, rr, O2, e1, a1.eo, e2, g2, f1.trans f2⟩
theorem t3_ok (k : WOK w) (la : LandAt h s l p v w O) (hN : NamesOK w N) (h0 : 0 < O.length) : ∃ O', T3 (LA sc ew h r q y6 y7 y8 (some (encW (lessN w N))) (some (.lst (N.map .str))) y11 y12 y13) O = .next (LA sc ew h r q y6 y7 y8 (some (encW (lessN w N))) (some (.lst (N.map .str))) y11 y12 y13) O' ∧ Fz O O' := by
  obtain ⟨n, s1, l1, p1, v1, O1, rr, O2, e1, eo1, e2, g2, f2⟩ := secrows_ok k la hN
  have kl := lessN_ok k N
  obtain ⟨h3, s3, l3, p3, v3, O3, e3, a3, f3, _⟩ := build_ok (O := O2) kl (by have := f2.1; omega)
  rw [← y_build] at e3
  obtain ⟨r4, O4, e4, g4, f4, _⟩ := LR.rows_ok a3 kl.srt (LR.like_self kl.srt)
  rw [← y_rows] at e4
  have eo3 := a3.eo
  have ne := ne_rows kl (f4.at (f3.at g2)) g4
  refine ⟨O4, ?_, f2.trans (f3.trans f4)⟩
  generalize N.map D.str = zz at *
  generalize encW (lessN w N) = lw at *
  simp [T3, runF, sSeq, sIf, sNext, sDrop, sRet, sRetN, sAsg, ofRes, ofB, bName, bNil, bCons, bTup, bLst, bSubL, mTest, mOp, mVar, mC, mChain, mAnd, mOr, mNot, mIf, mAndV, mOrV, mNotV, mNeg, mCons, mNil, mTup, mLst, newL, mCall, mFn, arity, g1, g2, gLen, gInt, gAbs, gMax2, gMin2, gIx, seqOf, lsqOf, lstOf, Res.bind, ofO, gAdd_ok, gSub_ok, gEq_int, gNe_int, gLt_int, gLe_int, gGt_int, gGe_int, gEq_bl, gNe_bl, gEq_str, gNe_str, mIsi, mIsiT, tyD, kitL, kitTab, atI_c0, atI_c1, atI_c2, atI_c3, atI_c4, sForR1, int1, int2, mMeth, mMake, mFld, sFldM, gIs, gIsNot, isNon_t, sRaise, gList, newLO, lk_rows, e1, eo1, e2, e3, eo3, e4, ne]
theorem t4_ok (k : WOK w) (hN : NamesOK w N) : T4 (LA sc ew h r q y6 y7 (some (.lst (N.map .str))) y9 (some (.lst (N.map .str))) y11 y12 y13) O = .next (LA sc ew h r q y6 y7 (some (.lst (N.map .str))) y9 (some (.lst (N.map .str))) y11 y12 y13) O := by
  have ne := strs_ne (O := O) (xs := N) (ys := N) (fun x hx => st_ok k (hN.st x hx)) rfl
  generalize N.map D.str = zz at *
  simp [T4, runF, sSeq, sIf, sNext, sDrop, sRet, sRetN, sAsg, ofRes, ofB, bName, bNil, bCons, bTup, bLst, bSubL, mTest, mOp, mVar, mC, mChain, mAnd, mOr, mNot, mIf, mAndV, mOrV, mNotV, mNeg, mCons, mNil, mTup, mLst, newL, mCall, mFn, arity, g1, g2, gLen, gInt, gAbs, gMax2, gMin2, gIx, seqOf, lsqOf, lstOf, Res.bind, ofO, gAdd_ok, gSub_ok, gEq_int, gNe_int, gLt_int, gLe_int, gGt_int, gGe_int, gEq_bl, gNe_bl, gEq_str, gNe_str, mIsi, mIsiT, tyD, kitL, kitTab, atI_c0, atI_c1, atI_c2, atI_c3, atI_c4, sForR1, int1, int2, mMeth, mMake, mFld, sFldM, gIs, gIsNot, isNon_t, sRaise, gList, newLO, ne]
theorem t5_ok (k : WOK w) (la : LandAt h s l p v w O) (hN : NamesOK w N) : ∃ O', T5 (LA sc (encW w) h r q y6 y7 (some (.lst (N.map .str))) y9 y10 y11 y12 y13) O = .next (LA sc (encW w) h r q y6 y7 (some (.lst (N.map .str))) y9 y10 y11 y12 y13) O' ∧ Fz O O' := by
  have ll := k.ll
  obtain ⟨n, O1, e1, gt1, f1, _⟩ := ties_ok k la hN.nd hN.st (by have := hN.ln; omega)
  have gl := glist_l (O := O) (xs := N.map .str) (by rw [List.length_map]; have := hN.ln; omega)
  have ga := fun (x : Str) => in_strs (O := O1) (d := .lst (N.map .str)) (xs := N) (nm := x) rfl
  obtain ⟨nd, hnd⟩ : ∃ nd, D.lst (N.map .str) = nd := ⟨_, rfl⟩
  rw [hnd] at ga e1 gl ⊢
  have eL : mCall (DK.g1 (gList false)) (mCons (mVar 8) mNil) (LA sc (encW w) h r q y6 y7 (some nd) y9 y10 y11 y12 y13) O = .ok nd O := by
    generalize encW w = ew at *
    simp [mCall, DK.g1, mCons, mNil, mVar, ofRes, Res.bind, ofO, gl]
  have gi : gIx O1 (encW w) (.int 1) = some (.lst (w.ls.map encL), O1) := rfl
  have c2 := lc_all (hm := false) (enc := encL) (src := (mOp gIx (mVar 2) (mC (.int 1)))) (tt := (mTest (mOp gNe (mOp gIn (mOp gIx (mVar 12) (mC (.int 1))) (mVar 8)) (mOp gIn (mOp gIx (mVar 12) (mC (.int 2))) (mVar 8))))) (el := (mOp gIx (mVar 12) (mC (.int 0)))) (i := 12) (L := LA sc (encW w) h r q y6 y7 (some nd) y9 y10 y11 y12 y13) (O := O1) (O1 := O1) (d := .lst (w.ls.map encL)) (xs := w.ls) (tiP N) (fun x => .str x.n) (by generalize encW w = ew at *; simp [runF, sSeq, sIf, sNext, sDrop, sRet, sRetN, sAsg, ofRes, ofB, bName, bNil, bCons, bTup, bLst, bSubL, mTest, mOp, mVar, mC, mChain, mAnd, mOr, mNot, mIf, mAndV, mOrV, mNotV, mNeg, mCons, mNil, mTup, mLst, newL, mCall, mFn, arity, g1, g2, gLen, gInt, gAbs, gMax2, gMin2, seqOf, lsqOf, lstOf, Res.bind, ofO, gAdd_ok, gSub_ok, gEq_int, gNe_int, gLt_int, gLe_int, gGt_int, gGe_int, gEq_bl, gNe_bl, gEq_str, gNe_str, mIsi, mIsiT, tyD, kitL, kitTab, atI_c0, atI_c1, atI_c2, atI_c3, atI_c4, sForR1, int1, int2, mMeth, mMake, mFld, sFldM, gIs, gIsNot, isNon_t, sRaise, gList, newLO, gi]) rfl (by omega) (by simp)
    (fun x hx => by
      have e1 := ga x.a
      have e2 := ga x.b
      have e3 := ne_bl (O := O1) (decide (x.a ∈ N)) (decide (x.b ∈ N))
      have i1 : gIx O1 (encL x) (.int 1) = some (.str x.a, O1) := rfl
      have i2 : gIx O1 (encL x) (.int 2) = some (.str x.b, O1) := rfl
      rw [show (decide (x.a ∈ N) != decide (x.b ∈ N)) = tiP N x from rfl] at e3
      generalize encW w = ew at *
      generalize encL x = ex at *
      generalize decide (x.a ∈ N) = ba at *
      generalize decide (x.b ∈ N) = bb at *
      generalize tiP N x = bt at *
      simp [runF, sSeq, sIf, sNext, sDrop, sRet, sRetN, sAsg, ofRes, ofB, bName, bNil, bCons, bTup, bLst, bSubL, mTest, mOp, mVar, mC, mChain, mAnd, mOr, mNot, mIf, mAndV, mOrV, mNotV, mNeg, mCons, mNil, mTup, mLst, newL, mCall, mFn, arity, g1, g2, gLen, gInt, gAbs, gMax2, gMin2, seqOf, lsqOf, lstOf, Res.bind, ofO, gAdd_ok, gSub_ok, gEq_int, gNe_int, gLt_int, gLe_int, gGt_int, gGe_int, gEq_bl, gNe_bl, gEq_str, gNe_str, mIsi, mIsiT, tyD, kitL, kitTab, atI_c0, atI_c1, atI_c2, atI_c3, atI_c4, sForR1, int1, int2, mMeth, mMake, mFld, sFldM, gIs, gIsNot, isNon_t, sRaise, gList, newLO, e1, e2, e3, i1, i2])
    (fun x hx _ => by
      have i0 : gIx O1 (encL x) (.int 0) = some (.str x.n, O1) := rfl
      generalize encW w = ew at *
      generalize encL x = ex at *
      simp [runF, sSeq, sIf, sNext, sDrop, sRet, sRetN, sAsg, ofRes, ofB, bName, bNil, bCons, bTup, bLst, bSubL, mTest, mOp, mVar, mC, mChain, mAnd, mOr, mNot, mIf, mAndV, mOrV, mNotV, mNeg, mCons, mNil, mTup, mLst, newL, mCall, mFn, arity, g1, g2, gLen, gInt, gAbs, gMax2, gMin2, seqOf, lsqOf, lstOf, Res.bind, ofO, gAdd_ok, gSub_ok, gEq_int, gNe_int, gLt_int, gLe_int, gGt_int, gGe_int, gEq_bl, gNe_bl, gEq_str, gNe_str, mIsi, mIsiT, tyD, kitL, kitTab, atI_c0, atI_c1, atI_c2, atI_c3, atI_c4, sForR1, int1, int2, mMeth, mMake, mFld, sFldM, gIs, gIsNot, isNon_t, sRaise, gList, newLO, i0])
  rw [newL_f (by rw [List.length_map]; exact Nat.le_trans (List.length_filter_le _ _) (by omega))] at c2
  have et : (w.ls.filter (tiP N)).map (fun x => D.str x.n) = (tiesN w N).map .str := by unfold tiesN; rw [List.map_map]; rfl
  rw [et] at c2
  have ok : okV (.lst ((tiesN w N).map .str)) 29 = true := okV_strs fun x hx => by
    obtain ⟨y, hy, rfl⟩ := List.mem_map.mp hx
    exact ln_ok k (List.mem_filter.mp hy).1
  have ne : gNe O1 (.hdl n) (.lst ((tiesN w N).map .str)) = some (.bl false, O1) := gNe_of (b := true) (by rw [eqD_hl gt1, eqD_pd ok ok (.inl rfl), eqv_self ok])
  refine ⟨O1, ?_, f1⟩
  generalize (tiesN w N).map D.str = zt at *
  generalize encW w = ew at *
  unfold T5
  generalize mLcL false (mOp gIx (mVar 2) (mC (.int 1))) [12] (bName 12) (mTest (mOp gNe (mOp gIn (mOp gIx (mVar 12) (mC (.int 1))) (mVar 8)) (mOp gIn (mOp gIx (mVar 12) (mC (.int 2))) (mVar 8)))) (mOp gIx (mVar 12) (mC (.int 0))) = m2 at *
  generalize mCall (DK.g1 (gList false)) (mCons (mVar 8) mNil) = mg at *
  simp [runF, sSeq, sIf, sNext, sDrop, sRet, sRetN, sAsg, ofRes, ofB, bName, bNil, bCons, bTup, bLst, bSubL, mTest, mOp, mVar, mC, mChain, mAnd, mOr, mNot, mIf, mAndV, mOrV, mNotV, mNeg, mCons, mNil, mTup, mLst, newL, mCall, mFn, arity, g1, g2, gLen, gInt, gAbs, gMax2, gMin2, gIx, seqOf, lsqOf, lstOf, Res.bind, ofO, gAdd_ok, gSub_ok, gEq_int, gNe_int, gLt_int, gLe_int, gGt_int, gGe_int, gEq_bl, gNe_bl, gEq_str, gNe_str, mIsi, mIsiT, tyD, kitL, kitTab, atI_c0, atI_c1, atI_c2, atI_c3, atI_c4, sForR1, int1, int2, mMeth, mMake, mFld, sFldM, gIs, gIsNot, isNon_t, sRaise, gList, newLO, eL, e1, c2, ne]
theorem t6_ok (k : WOK w) (la : LandAt h s l p v w O) (hN : NamesOK w N) : ∃ O', T6 (LA sc ew h r q y6 y7 (some (.lst (N.map .str))) y9 y10 y11 y12 y13) O = .next (LA sc ew h r q y6 y7 (some (.lst (N.map .str))) y9 y10 y11 y12 y13) O' ∧ Fz O O' := by
  have nl := hN.ln
  have znN : ("zed" : Str) ∉ N := fun z => absurd (k.st.subset (hN.st _ z)) (by decide +kernel)
  obtain ⟨O1, e1, gt1, f1⟩ := raised_ok (h := h) (O := O) (nd := .lst ((N ++ [("zed" : Str)]).map .str)) (c := "UnknownName") (tag := "unknown") (fun O1 f => checked_zed (la.fr f.fr) (List.nodup_append.mpr ⟨hN.nd, by simp, fun a ha b hb => by rw [List.mem_singleton.mp hb]; exact fun e => znN (e ▸ ha)⟩) hN.st (kind_zed k) (by omega)) (.inr ⟨rfl, rfl⟩)
  have la1 := la.fr f1.fr
  obtain ⟨O2, e2, gt2, f2⟩ := raised_ok (h := h) (O := O1) (nd := .lst (((("zed" : Str) :: N) ++ [("zed" : Str)]).map .str)) (c := "InvalidName") (tag := "twice") (fun O2 f => checked_two (distT_two (by simp)) (by simp; omega)) (.inl ⟨rfl, rfl⟩)
  have ad1 := gadd_l (O := O) (xs := N.map .str) (ys := [.str "zed"]) (by rw [List.length_map]; simp; omega)
  have ad2 := gadd_l (O := O1) (xs := [.str "zed"]) (ys := N.map .str) (by rw [List.length_map]; simp; omega)
  have ad3 := gadd_l (O := O1) (xs := [D.str "zed"] ++ N.map .str) (ys := [.str "zed"]) (by simp; omega)
  rw [List.map_append] at e1 e2
  have okU : okV (.lst [D.str "unknown", .str "unknown"]) 29 = true := by decide +kernel
  have okT : okV (.lst [D.str "twice", .str "twice"]) 29 = true := by decide +kernel
  have ne1 : gNe O1 (.hdl O.length) (.lst [D.str "unknown", .str "unknown"]) = some (.bl false, O1) := gNe_of (b := true) (by rw [eqD_hl gt1, eqD_pd okU okU (.inl rfl), eqv_self okU])
  have ne2 : gNe O2 (.hdl O1.length) (.lst [D.str "twice", .str "twice"]) = some (.bl false, O2) := gNe_of (b := true) (by rw [eqD_hl gt2, eqD_pd okT okT (.inl rfl), eqv_self okT])
  refine ⟨O2, ?_, f1.trans f2⟩
  have e1 : f_law_raised [.hdl h, .lst (N.map .str ++ [.str "zed"])] O = .ok (.hdl O.length) O1 := e1
  have e2 : f_law_raised [.hdl h, .lst ([.str "zed"] ++ N.map .str ++ [.str "zed"])] O1 = .ok (.hdl O1.length) O2 := e2
  rw [List.singleton_append] at ad2 ad3 e2
  generalize N.map D.str = zn at *
  rw [List.cons_append] at ad3 e2
  simp [T6, runF, sSeq, sIf, sNext, sDrop, sRet, sRetN, sAsg, ofRes, ofB, bName, bNil, bCons, bTup, bLst, bSubL, mTest, mOp, mVar, mC, mChain, mAnd, mOr, mNot, mIf, mAndV, mOrV, mNotV, mNeg, mCons, mNil, mTup, mLst, newL, mCall, mFn, arity, g1, g2, gLen, gInt, gAbs, gMax2, gMin2, gIx, seqOf, lsqOf, lstOf, Res.bind, ofO, gAdd_ok, gSub_ok, gEq_int, gNe_int, gLt_int, gLe_int, gGt_int, gGe_int, gEq_bl, gNe_bl, gEq_str, gNe_str, mIsi, mIsiT, tyD, kitL, kitTab, atI_c0, atI_c1, atI_c2, atI_c3, atI_c4, sForR1, int1, int2, mMeth, mMake, mFld, sFldM, gIs, gIsNot, isNon_t, sRaise, gList, newLO, ad1, ad2, ad3, e1, e2, ne1, ne2]
end
end DK.k41
end
section
set_option Elab.async false
set_option linter.all false
set_option autoImplicit false
set_option maxRecDepth 100000
set_option maxHeartbeats 4000000
/-! K41Law: the law of the pieces, the sectors and the ties, in plain Lean. -/
namespace DK.k41
open PySem L2 DK DK.W
theorem z_world : f_law_world = W.f_law_world := rfl
abbrev S0 : SM := (sAsg (mLst true (mCons (mVar 0) (mCons (mC (.int 0)) (mCons (mC (.int 0)) mNil)))) (bName 1))
abbrev S1 : SM := (sAsg (mFn (arity 1 f_law_world) [] (mCons (mVar 1) mNil)) (bName 2))
abbrev S2 : SM := (sAsg (mFn (arity 1 f_law_build) [] (mCons (mVar 2) mNil)) (bName 3))
abbrev S3 : SM := (sAsg (mMeth "Land" "rows" (arity 1 f_land_rows) [] (mVar 3) mNil) (bName 4))
abbrev S4 : SM := (sAsg (mFn (arity 1 f_pieces) [] (mCons (mVar 3) mNil)) (bName 5))
abbrev S5 : SM := (sIf (mTest (mOp gNe (mVar 5) (mFn (arity 1 f_law_pieces) [] (mCons (mVar 2) mNil)))) (sRet (mC (.bl false))) sNext)
abbrev S6B : SM := (sDrop (mApp (mVar 6) (mC (.str "zed"))))
abbrev S8 : SM := (sIf (mOr (mTest (mOp gNe (mMeth "Land" "rows" (arity 1 f_land_rows) [] (mFn (arity 2 f_sector) [] (mCons (mVar 3) (mCons (mCall (g1 (gList false)) (mCons (mOp gIx (mVar 2) (mC (.int 0))) mNil)) mNil))) mNil) (mVar 4))) (mOr (mTest (mOp gNe (mFn (arity 2 f_ties) [] (mCons (mVar 3) (mCons (mLst false mNil) mNil))) (mLst false mNil))) (mTest (mOp gNe (mMeth "Land" "rows" (arity 1 f_land_rows) [] (mFn (arity 2 f_sector) [] (mCons (mVar 3) (mCons (mLst false mNil) mNil))) mNil) (mLst false mNil))))) (sRet (mC (.bl false))) sNext)
abbrev S9 : SM := (sRet (mAndV (mOp gEq (mMeth "Land" "rows" (arity 1 f_land_rows) [] (mVar 3) mNil) (mVar 4)) (mOp gEq (mFn (arity 1 f_pieces) [] (mCons (mVar 3) mNil)) (mFn (arity 1 f_law_pieces) [] (mCons (mVar 2) mNil)))))
abbrev S7B : SM := sSeq T0 (sSeq T1 (sSeq T2 (sSeq T3 (sSeq T4 (sSeq T5 T6)))))
theorem b_law_is : b_law = sSeq S0 (sSeq S1 (sSeq S2 (sSeq S3 (sSeq S4 (sSeq S5 (sSeq (sForL (mVar 5) (bName 6) S6B) (sSeq (sForR1 (mCons (mC (.int 3)) mNil) (bName 7) S7B) (sSeq S8 S9)))))))) := rfl
section
variable {h s l p v r q b : Nat} {sc ew : D} {w : Wd} {O : Store} {N : List Str} {R : Str → Option Str} {hn : Str → Nat} {y6 y7 y8 y9 y10 y11 y12 y13 : Option D}
abbrev toldD (w : Wd) (R : Str → Option Str) : List D := (rtsN w.st R).map fun x => lsD (clsN w.st R x)
theorem told_okV (k : WOK w) : okV (.lst (toldD w R)) 29 = true := okV_lst fun d hd => by
  obtain ⟨x, hx, rfl⟩ := List.mem_map.mp hd
  exact okV_strs fun y hy => st_ok k (List.mem_filter.mp hy).1
theorem told_eqD {f : Nat} (k : WOK w) (g : O[q]? = some (.lst ((rtsN w.st R).map fun x => D.hdl (hn x)))) (gh : ∀ x ∈ rtsN w.st R, O[hn x]? = some (.lst ((clsN w.st R x).map .str))) (gf : O[f]? = some (.lst (toldD w R))) : eqD O (.hdl q) (.hdl f) = some true := by
  rw [eqD_hl g, eqD_hr gf]
  have e1 : deep O 30 (.lst ((rtsN w.st R).map fun x => D.hdl (hn x))) = deep O 30 (.lst (toldD w R)) := by
    show (((rtsN w.st R).map fun x => D.hdl (hn x)).mapM (deep O 29)).map PyData.list = (((rtsN w.st R).map fun x => lsD (clsN w.st R x)).mapM (deep O 29)).map PyData.list
    have mm : ∀ {xs : List Str}, (∀ x ∈ xs, O[hn x]? = some (.lst ((clsN w.st R x).map .str))) → (xs.map fun x => D.hdl (hn x)).mapM (deep O 29) = (xs.map fun x => lsD (clsN w.st R x)).mapM (deep O 29) := by
      intro xs
      induction xs with
      | nil => intro _; rfl
      | cons x xs ih =>
        intro hx
        rw [List.map_cons, List.map_cons, mapM_cons, mapM_cons, ih fun y hy => hx y (List.mem_cons_of_mem _ hy)]
        have e : deep O 29 (.hdl (hn x)) = deep O 29 (lsD (clsN w.st R x)) := by
          show (match O[hn x]? with | some (.lst xs) => (xs.mapM (deep O 28)).map PyData.list | _ => none) = _
          rw [hx x List.mem_cons_self]
          rfl
        rw [e]
    rw [mm gh]
  have e2 : eqD O (.lst ((rtsN w.st R).map fun x => D.hdl (hn x))) (.lst (toldD w R)) = eqD O (.lst (toldD w R)) (.lst (toldD w R)) := by
    show (match deep O 30 (.lst ((rtsN w.st R).map fun x => D.hdl (hn x))), deep O 30 (.lst (toldD w R)) with
      | some p, some q => if SeqAt.shaped p = true ∧ SeqAt.shaped q = true then some (PyData.eqv p q) else none
      | _, _ => none) = (match deep O 30 (.lst (toldD w R)), deep O 30 (.lst (toldD w R)) with
      | some p, some q => if SeqAt.shaped p = true ∧ SeqAt.shaped q = true then some (PyData.eqv p q) else none
      | _, _ => none)
    rw [e1]
  rw [e2, eqD_pd (told_okV k) (told_okV k) (.inl rfl), eqv_self (told_okV k)]
/-- both ways, one after the other -/
theorem both_ok (k : WOK w) (la : LandAt h s l p v w O) : ∃ (q : Nat) (O1 : Store) (hn : Str → Nat) (R : Str → Option Str) (f : Nat) (O2 : Store), f_pieces [.hdl h] O = .ok (.hdl q) O1 ∧ f_law_pieces [encW w] O1 = .ok (.hdl f) O2 ∧ eqD O2 (.hdl q) (.hdl f) = some true ∧ O2[q]? = some (.lst ((rtsN w.st R).map fun x => D.hdl (hn x))) ∧ (∀ x ∈ rtsN w.st R, O2[hn x]? = some (.lst ((clsN w.st R x).map .str)) ∧ O.length ≤ hn x ∧ hn x < q) ∧ Fz O O2 := by
  obtain ⟨q, O1, hn, R, e1, gq, gh, f1, lq, m⟩ := pieces_ok k la
  obtain ⟨f, O2, e2, gf, f2⟩ := lpieces_ok (O := O1) k m
  exact ⟨q, O1, hn, R, f, O2, e1, e2, told_eqD k (f2.at gq) (fun x hx => f2.at (gh x hx).1) gf, f2.at gq, fun x hx => ⟨f2.at (gh x hx).1, (gh x hx).2⟩, f1.trans f2⟩
theorem s6_ok {O0 : Store} {K : List Str} (g : O[q]? = some (.lst (K.map fun x => D.hdl (hn x)))) (gh : ∀ x ∈ K, (∃ xs, O[hn x]? = some (.lst xs) ∧ xs.length ≤ 100) ∧ O0.length ≤ hn x ∧ hn x < q) (f : Fz O0 O) (kl : K.length ≤ 100) : ∃ y6' O', sForL (mVar 5) (bName 6) S6B (LA sc ew h r q y6 y7 y8 y9 y10 y11 y12 y13) O = .next (LA sc ew h r q y6' y7 y8 y9 y10 y11 y12 y13) O' ∧ Fz O0 O' := by
  obtain ⟨L', O', e, y6', rfl, _, _, f'⟩ := forHK (m := mVar 5) (b := bName 6) (body := S6B) (L := LA sc ew h r q y6 y7 y8 y9 y10 y11 y12 y13) (O := O) (O1 := O) (n := q) (xs := K.map fun x => D.hdl (hn x))
    (I := fun j L O' => ∃ y6, L = LA sc ew h r q y6 y7 y8 y9 y10 y11 y12 y13 ∧ O'[q]? = some (.lst (K.map fun x => D.hdl (hn x))) ∧ (∀ x ∈ K, ∃ xs, O'[hn x]? = some (.lst xs) ∧ xs.length ≤ 100 + j) ∧ Fz O0 O')
    (by simp [runF, sSeq, sIf, sNext, sDrop, sRet, sRetN, sAsg, ofRes, ofB, bName, bNil, bCons, bTup, bLst, bSubL, mTest, mOp, mVar, mC, mChain, mAnd, mOr, mNot, mIf, mAndV, mOrV, mNotV, mNeg, mCons, mNil, mTup, mLst, newL, mCall, mFn, arity, g1, g2, gLen, gInt, gAbs, gMax2, gMin2, gIx, seqOf, lsqOf, lstOf, Res.bind, ofO, gAdd_ok, gSub_ok, gEq_int, gNe_int, gLt_int, gLe_int, gGt_int, gGe_int, gEq_bl, gNe_bl, gEq_str, gNe_str, mIsi, mIsiT, tyD, kitL, kitTab, atI_c0, atI_c1, atI_c2, atI_c3, atI_c4, sForR1, int1, int2, mMeth, mMake, mFld, sFldM, gIs, gIsNot, isNon_t, sRaise, gList, newLO]) g (fun j L O' ⟨_, _, g, _⟩ => g) ⟨y6, rfl, g, fun x hx => (gh x hx).1, f⟩ fun j d L O' hd ⟨y6, hL, g, hh, f⟩ => by
      subst hL
      rw [List.getElem?_map] at hd
      obtain ⟨x, hx, rfl⟩ := Option.map_eq_some_iff.mp hd
      have hj := (List.getElem?_eq_some_iff.mp hx).1
      have hxm := List.mem_of_getElem? hx
      obtain ⟨xs, ex, lx⟩ := hh x hxm
      obtain ⟨_, h1, h2⟩ := gh x hxm
      have hln : xs.length ≤ 1000000 := by omega
      refine ⟨_, O'.set (hn x) (.lst (xs ++ [.str "zed"])), by simp [turnOf, S6B, mApp, runF, sSeq, sIf, sNext, sDrop, sRet, sRetN, sAsg, ofRes, ofB, bName, bNil, bCons, bTup, bLst, bSubL, mTest, mOp, mVar, mC, mChain, mAnd, mOr, mNot, mIf, mAndV, mOrV, mNotV, mNeg, mCons, mNil, mTup, mLst, newL, mCall, mFn, arity, g1, g2, gLen, gInt, gAbs, gMax2, gMin2, gIx, seqOf, lsqOf, lstOf, Res.bind, ofO, gAdd_ok, gSub_ok, gEq_int, gNe_int, gLt_int, gLe_int, gGt_int, gGe_int, gEq_bl, gNe_bl, gEq_str, gNe_str, mIsi, mIsiT, tyD, kitL, kitTab, atI_c0, atI_c1, atI_c2, atI_c3, atI_c4, sForR1, int1, int2, mMeth, mMake, mFld, sFldM, gIs, gIsNot, isNon_t, sRaise, gList, newLO, ex, hln], some (.hdl (hn x)), rfl, ?_, fun z hz => ?_, fz_setNew f h1⟩
      · rw [List.getElem?_set_ne (by omega)]
        exact g
      · by_cases c : hn z = hn x
        · rw [c, List.getElem?_set_self (List.getElem?_eq_some_iff.mp ex).1]
          exact ⟨_, rfl, by rw [List.length_append, List.length_singleton]; omega⟩
        · rw [List.getElem?_set_ne (fun q => c q.symm)]
          obtain ⟨zs, ez, lz⟩ := hh z hz
          exact ⟨zs, ez, by omega⟩
  exact ⟨y6', O', e, f'⟩
theorem s7_ok (k : WOK w) (la : LandAt h s l p v w O) (t : Take b 0 O) (hb : b ≤ 2 ^ 10) : ∃ y7' y8' y9' y10' y11' y12' y13' O', sForR1 (mCons (mC (.int 3)) mNil) (bName 7) S7B (LA sc (encW w) h r q y6 y7 y8 y9 y10 y11 y12 y13) O = .next (LA sc (encW w) h r q y6 y7' y8' y9' y10' y11' y12' y13') O' ∧ Fr O O' := by
  obtain ⟨L', O', e, y7', y8', y9', y10', y11', y12', y13', rfl, _, f⟩ := forR1_keeps (t := mCons (mC (.int 3)) mNil) (b := bName 7) (body := S7B) (L := LA sc (encW w) h r q y6 y7 y8 y9 y10 y11 y12 y13) (O := O) (O1 := O) (j := 3)
    (I := fun i L O' => ∃ y7 y8 y9 y10 y11 y12 y13, L = LA sc (encW w) h r q y6 y7 y8 y9 y10 y11 y12 y13 ∧ Take (b + 6 * i) 0 O' ∧ Fr O O')
    (by simp [runF, sSeq, sIf, sNext, sDrop, sRet, sRetN, sAsg, ofRes, ofB, bName, bNil, bCons, bTup, bLst, bSubL, mTest, mOp, mVar, mC, mChain, mAnd, mOr, mNot, mIf, mAndV, mOrV, mNotV, mNeg, mCons, mNil, mTup, mLst, newL, mCall, mFn, arity, g1, g2, gLen, gInt, gAbs, gMax2, gMin2, gIx, seqOf, lsqOf, lstOf, Res.bind, ofO, gAdd_ok, gSub_ok, gEq_int, gNe_int, gLt_int, gLe_int, gGt_int, gGe_int, gEq_bl, gNe_bl, gEq_str, gNe_str, mIsi, mIsiT, tyD, kitL, kitTab, atI_c0, atI_c1, atI_c2, atI_c3, atI_c4, sForR1, int1, int2, mMeth, mMake, mFld, sFldM, gIs, gIsNot, isNon_t, sRaise, gList, newLO]) (by decide) (by decide) ⟨y7, y8, y9, y10, y11, y12, y13, rfl, t, Fr.refl _⟩ fun i L O' hi ⟨y7, y8, y9, y10, y11, y12, y13, hL, t, f⟩ => by
      subst hL
      obtain ⟨N, O1, e0, hN, t1, f1⟩ := t0_ok (sc := sc) (h := h) (r := r) (q := q) (y6 := y6) (y7 := some (.int i)) (y8 := y8) (y9 := y9) (y10 := y10) (y11 := y11) (y12 := y12) (y13 := y13) k t (by omega)
      have f1' := f.trans f1
      have e1 := t1_ok (O := O1) (N := N) (sc := sc) (h := h) (r := r) (q := q) (y6 := y6) (y7 := some (.int i)) (y9 := y9) (y10 := y10) (y11 := y11) (y12 := y12) (y13 := y13) k
      have e2 := t2_ok (O := O1) (sc := sc) (ew := encW w) (h := h) (r := r) (q := q) (y6 := y6) (y7 := some (.int i)) (y9 := some (encW (lessN w N))) (y10 := y10) (y11 := y11) (y12 := y12) (y13 := y13) hN
      obtain ⟨O3, e3, f3⟩ := t3_ok (sc := sc) (ew := encW w) (r := r) (q := q) (y6 := y6) (y7 := some (.int i)) (y8 := some (.lst (N.map .str))) (y11 := y11) (y12 := y12) (y13 := y13) k (la.fr f1') hN t1.len
      have e4 := t4_ok (O := O3) (sc := sc) (ew := encW w) (h := h) (r := r) (q := q) (y6 := y6) (y7 := some (.int i)) (y9 := some (encW (lessN w N))) (y11 := y11) (y12 := y12) (y13 := y13) k hN
      obtain ⟨O5, e5, f5⟩ := t5_ok (sc := sc) (r := r) (q := q) (y6 := y6) (y7 := some (.int i)) (y9 := some (encW (lessN w N))) (y10 := some (.lst (N.map .str))) (y11 := y11) (y12 := y12) (y13 := y13) k ((la.fr f1').fr f3.fr) hN
      obtain ⟨O6, e6, f6⟩ := t6_ok (sc := sc) (ew := encW w) (r := r) (q := q) (y6 := y6) (y7 := some (.int i)) (y9 := some (encW (lessN w N))) (y10 := some (.lst (N.map .str))) (y11 := y11) (y12 := y12) (y13 := y13) k (((la.fr f1').fr f3.fr).fr f5.fr) hN
      have fz := f3.trans (f5.trans f6)
      refine ⟨LA sc (encW w) h r q y6 (some (.int i)) (some (.lst (N.map .str))) (some (encW (lessN w N))) (some (.lst (N.map .str))) y11 y12 y13, O6, ?_, some (.int i), some (.lst (N.map .str)), some (encW (lessN w N)), some (.lst (N.map .str)), y11, y12, y13, rfl, by rw [show b + 6 * (i + 1) = b + 6 * i + 6 by omega]; exact t1.fz fz, f1'.trans fz.fr⟩
      show S7B (LA sc (encW w) h r q y6 (some (.int i)) y8 y9 y10 y11 y12 y13) O' = _
      unfold S7B
      rw [seq_nx e0, seq_nx e1, seq_nx e2, seq_nx e3, seq_nx e4, seq_nx e5, e6]
  exact ⟨_, _, _, _, _, _, _, O', e, f⟩
theorem less_all (k : WOK w) : lessN w w.st = w := by
  unfold lessN
  rw [List.filter_eq_self.mpr fun x hx => decide_eq_true hx, List.filter_eq_self.mpr fun x hx => by rw [decide_eq_true (k.lok x hx).a, decide_eq_true (k.lok x hx).b]; rfl, List.filter_eq_self.mpr fun x hx => decide_eq_true (k.pok x hx).s]
theorem less_nil : lessN w [] = ⟨[], [], []⟩ := by
  unfold lessN
  simp
theorem s8_ok (k : WOK w) (la : LandAt h s l p v w O) (gr : O[r]? = some (.lst (LR.rowsD w))) : ∃ O', S8 (LA sc (encW w) h r q y6 y7 y8 y9 y10 y11 y12 y13) O = .next (LA sc (encW w) h r q y6 y7 y8 y9 y10 y11 y12 y13) O' ∧ Fz O O' := by
  have gl := glist_l (O := O) (xs := w.st.map .str) (by rw [List.length_map]; have := k.st6; omega)
  have gi : gIx O (encW w) (.int 0) = some (.lst (w.st.map .str), O) := rfl
  obtain ⟨n, s1, l1, p1, v1, O1, rr, O2, e1, eo1, e2, ge2, f2⟩ := secrows_ok k la ⟨k.srt.snd, fun x hx => hx, k.st6⟩
  rw [less_all k] at ge2
  have ne2 := ne_rows k ge2 (f2.at gr)
  have la2 := la.fr f2.fr
  have hN0 : NamesOK w [] := ⟨List.nodup_nil, fun x hx => absurd hx List.not_mem_nil, Nat.zero_le _⟩
  obtain ⟨n3, O3, e3, ge3, f3, _⟩ := ties_ok k la2 hN0.nd hN0.st (by simp)
  have et : tiesN w [] = [] := by
    unfold tiesN
    rw [List.filter_eq_nil_iff.mpr fun x hx => by simp]
    rfl
  rw [et] at ge3
  have ok0 : okV (.lst []) 29 = true := by decide +kernel
  have ne3 : gNe O3 (.hdl n3) (.lst []) = some (.bl false, O3) := gNe_of (b := true) (by rw [eqD_hl ge3, List.map_nil, eqD_pd ok0 ok0 (.inl rfl), eqv_self ok0])
  obtain ⟨n4, s4, l4, p4, v4, O4, r5, O5, e4, eo4, e5, ge5, f5⟩ := secrows_ok k (la2.fr f3.fr) hN0
  rw [less_nil] at ge5
  have ge5 : O5[r5]? = some (.lst []) := ge5
  have ne5 : gNe O5 (.hdl r5) (.lst []) = some (.bl false, O5) := gNe_of (b := true) (by rw [eqD_hl ge5, eqD_pd ok0 ok0 (.inl rfl), eqv_self ok0])
  have e3 : f_ties [.hdl h, .lst []] O2 = .ok (.hdl n3) O3 := e3
  have e4 : f_sector [.hdl h, .lst []] O3 = .ok (.hdl n4) O4 := e4
  have eL : mCall (DK.g1 (gList false)) (mCons (mOp gIx (mVar 2) (mC (.int 0))) mNil) (LA sc (encW w) h r q y6 y7 y8 y9 y10 y11 y12 y13) O = .ok (.lst (w.st.map .str)) O := by
    generalize encW w = ew at *
    generalize w.st.map D.str = zs at *
    simp [mCall, mOp, mC, DK.g1, mCons, mNil, mVar, ofRes, Res.bind, ofO, gi, gl]
  refine ⟨O5, ?_, f2.trans (f3.trans f5)⟩
  generalize encW w = ew at *
  generalize w.st.map D.str = zs at *
  unfold S8
  generalize mCall (DK.g1 (gList false)) (mCons (mOp gIx (mVar 2) (mC (.int 0))) mNil) = mg at *
  simp [runF, sSeq, sIf, sNext, sDrop, sRet, sRetN, sAsg, ofRes, ofB, bName, bNil, bCons, bTup, bLst, bSubL, mTest, mOp, mVar, mC, mChain, mAnd, mOr, mNot, mIf, mAndV, mOrV, mNotV, mNeg, mCons, mNil, mTup, mLst, newL, mCall, mFn, arity, g1, g2, gLen, gInt, gAbs, gMax2, gMin2, gIx, seqOf, lsqOf, lstOf, Res.bind, ofO, gAdd_ok, gSub_ok, gEq_int, gNe_int, gLt_int, gLe_int, gGt_int, gGe_int, gEq_bl, gNe_bl, gEq_str, gNe_str, mIsi, mIsiT, tyD, kitL, kitTab, atI_c0, atI_c1, atI_c2, atI_c3, atI_c4, sForR1, int1, int2, mMeth, mMake, mFld, sFldM, gIs, gIsNot, isNon_t, sRaise, gList, newLO, lk_rows, eL, e1, eo1, e2, ne2, e3, ne3, e4, eo4, e5, ne5]
theorem s9_ok (k : WOK w) (la : LandAt h s l p v w O) (gr : O[r]? = some (.lst (LR.rowsD w))) : ∃ O', S9 (LA sc (encW w) h r q y6 y7 y8 y9 y10 y11 y12 y13) O = .ret (.bl true) O' := by
  have kl := k.srt
  obtain ⟨rr, O1, e1, g1', f1, _⟩ := LR.rows_ok la kl (LR.like_self kl)
  rw [← y_rows] at e1
  have okr := LR.okRows (LR.ok13 k)
  have eq1 : gEq O1 (.hdl rr) (.hdl r) = some (.bl true, O1) := gEq_of (by rw [eqD_hl g1', eqD_hr (f1.at gr), eqD_pd okr okr (.inl rfl), eqv_self okr])
  have eo := la.eo
  obtain ⟨q2, O2, hn, R, f, O3, e2, e3, eq, _⟩ := both_ok k (la.fr f1.fr)
  have eq2 : gEq O3 (.hdl q2) (.hdl f) = some (.bl true, O3) := gEq_of eq
  refine ⟨O3, ?_⟩
  generalize encW w = ew at *
  simp [S9, runF, sSeq, sIf, sNext, sDrop, sRet, sRetN, sAsg, ofRes, ofB, bName, bNil, bCons, bTup, bLst, bSubL, mTest, mOp, mVar, mC, mChain, mAnd, mOr, mNot, mIf, mAndV, mOrV, mNotV, mNeg, mCons, mNil, mTup, mLst, newL, mCall, mFn, arity, g1, g2, gLen, gInt, gAbs, gMax2, gMin2, gIx, seqOf, lsqOf, lstOf, Res.bind, ofO, gAdd_ok, gSub_ok, gEq_int, gNe_int, gLt_int, gLe_int, gGt_int, gGe_int, gEq_bl, gNe_bl, gEq_str, gNe_str, mIsi, mIsiT, tyD, kitL, kitTab, atI_c0, atI_c1, atI_c2, atI_c3, atI_c4, sForR1, int1, int2, mMeth, mMake, mFld, sFldM, gIs, gIsNot, isNon_t, sRaise, gList, newLO, lk_rows, eo, e1, eq1, e2, e3, eq2]
end
theorem law_holds (ns : List Int) (hns : ns.length ≤ 63) : ∃ O, f_law [.rol (ns.map .int)] [] = .ok (.bl true) O := by
  obtain ⟨sc, hsc⟩ : ∃ sc, D.rol (ns.map .int) = sc := ⟨_, rfl⟩
  have g0' : S0 [some sc, none, none, none, none, none, none, none, none, none, none, none, none, none] [] = .next [some sc, some (.hdl 0), none, none, none, none, none, none, none, none, none, none, none, none] [.lst [sc, .int 0, .int 0]] := by
    simp [S0, runF, sSeq, sIf, sNext, sDrop, sRet, sRetN, sAsg, ofRes, ofB, bName, bNil, bCons, bTup, bLst, bSubL, mTest, mOp, mVar, mC, mChain, mAnd, mOr, mNot, mIf, mAndV, mOrV, mNotV, mNeg, mCons, mNil, mTup, mLst, newL, mCall, mFn, arity, g1, g2, gLen, gInt, gAbs, gMax2, gMin2, gIx, seqOf, lsqOf, lstOf, Res.bind, ofO, gAdd_ok, gSub_ok, gEq_int, gNe_int, gLt_int, gLe_int, gGt_int, gGe_int, gEq_bl, gNe_bl, gEq_str, gNe_str, mIsi, mIsiT, tyD, kitL, kitTab, atI_c0, atI_c1, atI_c2, atI_c3, atI_c4, sForR1, int1, int2, mMeth, mMake, mFld, sFldM, gIs, gIsNot, isNon_t, sRaise, gList, newLO]
  have t0 : Take 0 0 [Ob.lst [.rol (ns.map D.int), .int 0, .int 0]] := ⟨ns, 0, 0, rfl, by omega, by omega, by omega, by omega⟩
  rw [hsc] at t0
  obtain ⟨w, O1, e1, k, t1, f1⟩ := world_ok t0 (by omega)
  obtain ⟨h, s, l, p, v, O2, e2, a2, f2, _⟩ := build_ok (O := O1) k t1.len
  rw [← z_world] at e1
  rw [← y_build] at e2
  have t2 := t1.fz f2
  have eo2 := a2.eo
  have kl := k.srt
  obtain ⟨r, O3, e3, gr3, f3, hr⟩ := LR.rows_ok a2 kl (LR.like_self kl)
  rw [← y_rows] at e3
  have a3 := a2.fr f3.fr
  obtain ⟨q, O4, hn, R, f, O5, e4, e5, eq5, gq5, gh5, f5⟩ := both_ok k a3
  have ne5 : gNe O5 (.hdl q) (.hdl f) = some (.bl false, O5) := gNe_of eq5
  have s6 := k.st6
  have kl6 : (rtsN w.st R).length ≤ 100 := Nat.le_trans (List.length_filter_le _ _) (by omega)
  obtain ⟨y6, O6, e6, f6⟩ := s6_ok (sc := sc) (ew := encW w) (h := h) (r := r) (y6 := none) (y7 := none) (y8 := none) (y9 := none) (y10 := none) (y11 := none) (y12 := none) (y13 := none) gq5 (fun x hx => ⟨⟨_, (gh5 x hx).1, by rw [List.length_map]; exact Nat.le_trans (List.length_filter_le _ _) (by omega)⟩, (gh5 x hx).2⟩) f5 kl6
  have t6 := (t2.fz f3).fz f6
  have a6 := a3.fr f6.fr
  have gr6 := f6.at gr3
  obtain ⟨y7, y8, y9, y10, y11, y12, y13, O7, e7, f7⟩ := s7_ok (sc := sc) (r := r) (q := q) (y6 := y6) (y7 := none) (y8 := none) (y9 := none) (y10 := none) (y11 := none) (y12 := none) (y13 := none) k a6 t6 (by omega)
  have a7 := a6.fr f7
  have gr7 := f7.at (by have := t2.len; omega) gr6
  obtain ⟨O8, e8, f8⟩ := s8_ok (sc := sc) (q := q) (y6 := y6) (y7 := y7) (y8 := y8) (y9 := y9) (y10 := y10) (y11 := y11) (y12 := y12) (y13 := y13) k a7 gr7
  obtain ⟨O9, e9⟩ := s9_ok (sc := sc) (q := q) (y6 := y6) (y7 := y7) (y8 := y8) (y9 := y9) (y10 := y10) (y11 := y11) (y12 := y12) (y13 := y13) k (a7.fr f8.fr) (f8.at gr7)
  have g1' : S1 [some sc, some (.hdl 0), none, none, none, none, none, none, none, none, none, none, none, none] [.lst [sc, .int 0, .int 0]] = .next [some sc, some (.hdl 0), some (encW w), none, none, none, none, none, none, none, none, none, none, none] O1 := by
    simp [S1, runF, sSeq, sIf, sNext, sDrop, sRet, sRetN, sAsg, ofRes, ofB, bName, bNil, bCons, bTup, bLst, bSubL, mTest, mOp, mVar, mC, mChain, mAnd, mOr, mNot, mIf, mAndV, mOrV, mNotV, mNeg, mCons, mNil, mTup, mLst, newL, mCall, mFn, arity, g1, g2, gLen, gInt, gAbs, gMax2, gMin2, gIx, seqOf, lsqOf, lstOf, Res.bind, ofO, gAdd_ok, gSub_ok, gEq_int, gNe_int, gLt_int, gLe_int, gGt_int, gGe_int, gEq_bl, gNe_bl, gEq_str, gNe_str, mIsi, mIsiT, tyD, kitL, kitTab, atI_c0, atI_c1, atI_c2, atI_c3, atI_c4, sForR1, int1, int2, mMeth, mMake, mFld, sFldM, gIs, gIsNot, isNon_t, sRaise, gList, newLO, e1]
  have g2' : S2 [some sc, some (.hdl 0), some (encW w), none, none, none, none, none, none, none, none, none, none, none] O1 = .next [some sc, some (.hdl 0), some (encW w), some (.hdl h), none, none, none, none, none, none, none, none, none, none] O2 := by
    generalize encW w = ew at *
    simp [S2, runF, sSeq, sIf, sNext, sDrop, sRet, sRetN, sAsg, ofRes, ofB, bName, bNil, bCons, bTup, bLst, bSubL, mTest, mOp, mVar, mC, mChain, mAnd, mOr, mNot, mIf, mAndV, mOrV, mNotV, mNeg, mCons, mNil, mTup, mLst, newL, mCall, mFn, arity, g1, g2, gLen, gInt, gAbs, gMax2, gMin2, gIx, seqOf, lsqOf, lstOf, Res.bind, ofO, gAdd_ok, gSub_ok, gEq_int, gNe_int, gLt_int, gLe_int, gGt_int, gGe_int, gEq_bl, gNe_bl, gEq_str, gNe_str, mIsi, mIsiT, tyD, kitL, kitTab, atI_c0, atI_c1, atI_c2, atI_c3, atI_c4, sForR1, int1, int2, mMeth, mMake, mFld, sFldM, gIs, gIsNot, isNon_t, sRaise, gList, newLO, e2]
  have g3' : S3 [some sc, some (.hdl 0), some (encW w), some (.hdl h), none, none, none, none, none, none, none, none, none, none] O2 = .next [some sc, some (.hdl 0), some (encW w), some (.hdl h), some (.hdl r), none, none, none, none, none, none, none, none, none] O3 := by
    generalize encW w = ew at *
    simp [S3, runF, sSeq, sIf, sNext, sDrop, sRet, sRetN, sAsg, ofRes, ofB, bName, bNil, bCons, bTup, bLst, bSubL, mTest, mOp, mVar, mC, mChain, mAnd, mOr, mNot, mIf, mAndV, mOrV, mNotV, mNeg, mCons, mNil, mTup, mLst, newL, mCall, mFn, arity, g1, g2, gLen, gInt, gAbs, gMax2, gMin2, gIx, seqOf, lsqOf, lstOf, Res.bind, ofO, gAdd_ok, gSub_ok, gEq_int, gNe_int, gLt_int, gLe_int, gGt_int, gGe_int, gEq_bl, gNe_bl, gEq_str, gNe_str, mIsi, mIsiT, tyD, kitL, kitTab, atI_c0, atI_c1, atI_c2, atI_c3, atI_c4, sForR1, int1, int2, mMeth, mMake, mFld, sFldM, gIs, gIsNot, isNon_t, sRaise, gList, newLO, lk_rows, eo2, e3]
  have g4' : S4 [some sc, some (.hdl 0), some (encW w), some (.hdl h), some (.hdl r), none, none, none, none, none, none, none, none, none] O3 = .next (LA sc (encW w) h r q none none none none none none none none) O4 := by
    generalize encW w = ew at *
    simp [S4, runF, sSeq, sIf, sNext, sDrop, sRet, sRetN, sAsg, ofRes, ofB, bName, bNil, bCons, bTup, bLst, bSubL, mTest, mOp, mVar, mC, mChain, mAnd, mOr, mNot, mIf, mAndV, mOrV, mNotV, mNeg, mCons, mNil, mTup, mLst, newL, mCall, mFn, arity, g1, g2, gLen, gInt, gAbs, gMax2, gMin2, gIx, seqOf, lsqOf, lstOf, Res.bind, ofO, gAdd_ok, gSub_ok, gEq_int, gNe_int, gLt_int, gLe_int, gGt_int, gGe_int, gEq_bl, gNe_bl, gEq_str, gNe_str, mIsi, mIsiT, tyD, kitL, kitTab, atI_c0, atI_c1, atI_c2, atI_c3, atI_c4, sForR1, int1, int2, mMeth, mMake, mFld, sFldM, gIs, gIsNot, isNon_t, sRaise, gList, newLO, e4]
  have g5' : S5 (LA sc (encW w) h r q none none none none none none none none) O4 = .next (LA sc (encW w) h r q none none none none none none none none) O5 := by
    generalize encW w = ew at *
    simp [S5, runF, sSeq, sIf, sNext, sDrop, sRet, sRetN, sAsg, ofRes, ofB, bName, bNil, bCons, bTup, bLst, bSubL, mTest, mOp, mVar, mC, mChain, mAnd, mOr, mNot, mIf, mAndV, mOrV, mNotV, mNeg, mCons, mNil, mTup, mLst, newL, mCall, mFn, arity, g1, g2, gLen, gInt, gAbs, gMax2, gMin2, gIx, seqOf, lsqOf, lstOf, Res.bind, ofO, gAdd_ok, gSub_ok, gEq_int, gNe_int, gLt_int, gLe_int, gGt_int, gGe_int, gEq_bl, gNe_bl, gEq_str, gNe_str, mIsi, mIsiT, tyD, kitL, kitTab, atI_c0, atI_c1, atI_c2, atI_c3, atI_c4, sForR1, int1, int2, mMeth, mMake, mFld, sFldM, gIs, gIsNot, isNon_t, sRaise, gList, newLO, e5, ne5]
  refine ⟨O9, ?_⟩
  rw [hsc]
  show runF 14 b_law [sc] [] = _
  unfold runF
  rw [show ([sc].map some ++ List.replicate (14 - [sc].length) none : Loc) = [some sc, none, none, none, none, none, none, none, none, none, none, none, none, none] from rfl, b_law_is, seq_nx g0', seq_nx g1', seq_nx g2', seq_nx g3', seq_nx g4', seq_nx g5', seq_nx e6, seq_nx e7, seq_nx e8, e9]
end DK.k41
end
theorem PySem.Challenge.cw_darkrise_k41_pieces_sectors_and_ties_holds : PySem.Challenge.rw_darkrise_k41_pieces_sectors_and_ties.Holds := by
  exact DK.k41.core DK.k41.law_holds
