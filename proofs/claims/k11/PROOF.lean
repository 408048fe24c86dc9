import PyProof.Rows.All
import Wide.All
import OpenK.AllK
import Wide.FinOn
import HandS.ForMost
import HandS.ForExc
import HandS.IsInst
import HandS.Wide
import HandS.CallSlots
import HandS.ExcIs
import HandS.Small
import HandS.RaiseMore
import HandS.TupAny
import HandS.SortOrd
import HandS.Flow
import HandS.Deep
import HandS.Defaults
import HandS.Head0
import HandS.Head1
import HandS.Head2
import HandS.HeadEnd
import HandS.HeadHook1
import HandS.HeadHook2
import HandS.HeadHook3
import HandS.HeadHook4
import KE.KExcSuper
import HandS.ExcInit
import HandS.ExcField
import PyProof.ExcBaseAll.ValueError
import HandS.Text
import HandS.Iter
import HandS.Replace
import HandS.StrMore
import HandS.More
import HandS.Dict
import HandS.Conv
import HandS.SortInts
import HandS.DictTup
import HandS.Rev
import PyProof.ListRange
import HandS.OwnEq
import KE.DataFind
import HandS.TryMany
import KE.SortData
import KE.DataMinMax
import HandS.DictComp
import HandS.Strs
import HandS.SetBool
import HandS.Style
import KE.DataCmp
import KE.DataEq
import HandS.DeepEq
import HandS.SetKeys
import PyProof.NeKinds
import HandS.ListEq
import HandS.ReplaceLit
import PyProof.StrLaws
import PyProof.StrLawsChain
import PyProof.StrLawsTight
import PyProof.StrLawsReplace
import KE.IntTextLaws
import PySem.Challenge.RW_darkrise_k11_lines_and_words
section
set_option Elab.async false
set_option linter.all false
set_option autoImplicit false
set_option maxRecDepth 100000
set_option maxHeartbeats 4000000
/-! DKCore: values D, stores of objects, results; readings that are told by functions (mirrors). -/
namespace DK
open PySem L2
/-- a value of the mirror: lst, tup stand as they are for good; hdl n is the n-th object of the store -/
inductive D where
  | non
  | bl (b : Bool)
  | int (i : Int)
  | str (s : Str)
  | lst (xs : List D)
  | rol (xs : List D)
  | tup (xs : List D)
  | hdl (n : Nat)
inductive Ob where
  | lst (xs : List D)
  | dct (kvs : List (Key × D))
  | ins (c : Str) (fs : List (Str × D))
  | dead
  | fdc (kvs : List (Key × D))
abbrev Store := List Ob
abbrev Loc := List (Option D)
structure Exn where
  cls : Str
  fs : Option (List (Str × D)) := none
inductive Res (α : Type) where
  | ok (a : α) (O : Store)
  | exc (x : Exn) (O : Store)
  | bad
def Res.bind {α β : Type} (x : Res α) (f : α → Store → Res β) : Res β := match x with
  | .ok a O => f a O
  | .exc e O => .exc e O
  | .bad => .bad
abbrev EM := Loc → Store → Res D
abbrev TM := Loc → Store → Res Bool
abbrev AM := Loc → Store → Res (List D)
abbrev FM := List D → Store → Res D
inductive SR where
  | next (L : Loc) (O : Store)
  | ret (d : D) (O : Store)
  | brk (L : Loc) (O : Store)
  | cnt (L : Loc) (O : Store)
  | exc (x : Exn) (L : Loc) (O : Store)
  | bad
abbrev SM := Loc → Store → SR
/-- where the objects of the store stand; what else is kept -/
structure Rg where
  l : List Addr
  fr : Hp
def Rg.push (r : Rg) (p : Addr) : Rg := ⟨r.l ++ [p], r.fr⟩
/-! ### what stands for what -/
section
variable (K : PySem.W.Frag) (S : Hp) (r : Rg)
mutual
def Rp : D → V → Prop
  | .non, v => v = .non
  | .bl b, v => v = .bl b
  | .int i, v => v = .int i
  | .str s, v => v = .str s
  | .lst ds, v => ∃ a vs, v = .ref a ∧ S a = some (.lst vs) ∧ RpAll ds vs
  | .rol ds, v => ∃ a vs, v = .ref a ∧ SqL K S a vs ∧ RpAll ds vs
  | .tup ds, v => ∃ a vs, v = .ref a ∧ SqT K S a vs ∧ RpAll ds vs
  | .hdl n, v => ∃ a, v = .ref a ∧ r.l[n]? = some a
def RpAll : List D → List V → Prop
  | [], vs => vs = []
  | d :: ds, vs => ∃ v vr, vs = v :: vr ∧ Rp d v ∧ RpAll ds vr
end
def RpP {κ : Type} : List (κ × D) → List (κ × V) → Prop
  | [], ks => ks = []
  | kd :: kds, ks => ∃ v kr, ks = (kd.1, v) :: kr ∧ Rp K S r kd.2 v ∧ RpP kds kr
end
/-- the state grows -/
structure Ext (S : Hp) (r : Rg) (S' : Hp) (r' : Rg) : Prop where
  s : Same S S'
  f : r'.fr = r.fr
  r : r.l <+: r'.l
theorem Ext.refl (S : Hp) (r : Rg) : Ext S r S r := ⟨Same.refl S, rfl, List.prefix_rfl⟩
theorem Ext.trans {S S1 S2 : Hp} {r r1 r2 : Rg} (a : Ext S r S1 r1) (b : Ext S1 r1 S2 r2) : Ext S r S2 r2 := ⟨a.s.trans b.s, b.f.trans a.f, a.r.trans b.r⟩
theorem Ext.new {S : Hp} {r : Rg} {p : Addr} {o : HO} (h : S p = none) : Ext S r (upd S p o) r :=
  ⟨fun b u e => by rw [upd_ne (ne_of_none e h)]; exact e, rfl, List.prefix_rfl⟩
theorem rd_same {S S' : Hp} {a : Addr} {u : HO} (e : Same S S') (h : Rd S a u) : Rd S' a u := by
  rcases h with h | ⟨o, h⟩
  · exact .inl (e _ _ h)
  · exact .inr ⟨o, e _ _ h⟩
theorem sqL_same {K : PySem.W.Frag} {S S' : Hp} {a : Addr} {xs : List V} (e : Same S S') (h : SqL K S a xs) : SqL K S' a xs := by
  rcases h with h | h
  · exact .inl (rd_same e h)
  · exact .inr h
theorem sqT_same {K : PySem.W.Frag} {S S' : Hp} {a : Addr} {xs : List V} (e : Same S S') (h : SqT K S a xs) : SqT K S' a xs := by
  rcases h with h | h
  · exact .inl (rd_same e h)
  · exact .inr h
theorem pre_get {α : Type} {l m : List α} {n : Nat} {x : α} (p : l <+: m) (h : l[n]? = some x) : m[n]? = some x := by
  obtain ⟨t, rfl⟩ := p
  rw [List.getElem?_append_left (List.getElem?_eq_some_iff.mp h).1]
  exact h
section
variable {K : PySem.W.Frag} {S S' : Hp} {r r' : Rg}
mutual
theorem Rp.monoW (s : Same S S') (l : r.l <+: r'.l) : ∀ (d : D) (v : V), Rp K S r d v → Rp K S' r' d v
  | .non, v, h => h
  | .bl b, v, h => h
  | .int i, v, h => h
  | .str z, v, h => h
  | .lst ds, v, h => by
    obtain ⟨a, vs, q1, q2, q3⟩ := h
    exact ⟨a, vs, q1, s _ _ q2, RpAll.monoW s l ds vs q3⟩
  | .rol ds, v, h => by
    obtain ⟨a, vs, q1, q2, q3⟩ := h
    exact ⟨a, vs, q1, sqL_same s q2, RpAll.monoW s l ds vs q3⟩
  | .tup ds, v, h => by
    obtain ⟨a, vs, q1, q2, q3⟩ := h
    exact ⟨a, vs, q1, sqT_same s q2, RpAll.monoW s l ds vs q3⟩
  | .hdl n, v, h => by
    obtain ⟨a, q1, q2⟩ := h
    exact ⟨a, q1, pre_get l q2⟩
theorem RpAll.monoW (s : Same S S') (l : r.l <+: r'.l) : ∀ (ds : List D) (vs : List V), RpAll K S r ds vs → RpAll K S' r' ds vs
  | [], vs, h => h
  | d :: ds, vs, h => by
    obtain ⟨v, vr, q1, q2, q3⟩ := h
    exact ⟨v, vr, q1, Rp.monoW s l d v q2, RpAll.monoW s l ds vr q3⟩
end
theorem Rp.mono (e : Ext S r S' r') (d : D) (v : V) (h : Rp K S r d v) : Rp K S' r' d v := Rp.monoW e.s e.r d v h
theorem RpAll.mono (e : Ext S r S' r') (ds : List D) (vs : List V) (h : RpAll K S r ds vs) : RpAll K S' r' ds vs := RpAll.monoW e.s e.r ds vs h
theorem RpP.monoW {κ : Type} (s : Same S S') (l : r.l <+: r'.l) : ∀ (ds : List (κ × D)) (vs : List (κ × V)), RpP K S r ds vs → RpP K S' r' ds vs
  | [], vs, h => h
  | d :: ds, vs, h => by
    obtain ⟨v, vr, q1, q2, q3⟩ := h
    exact ⟨v, vr, q1, Rp.monoW s l d.2 v q2, RpP.monoW s l ds vr q3⟩
theorem RpP.mono {κ : Type} (e : Ext S r S' r') (ds : List (κ × D)) (vs : List (κ × V)) (h : RpP K S r ds vs) : RpP K S' r' ds vs := RpP.monoW e.s e.r ds vs h
theorem RpAll.length : ∀ {ds : List D} {vs : List V}, RpAll K S r ds vs → vs.length = ds.length
  | [], vs, h => by rw [show vs = [] from h]; rfl
  | d :: ds, vs, h => by
    obtain ⟨v, vr, rfl, _, q3⟩ := h
    rw [List.length_cons, List.length_cons, RpAll.length q3]
theorem RpAll.get : ∀ {ds : List D} {vs : List V} {i : Nat} {d : D}, RpAll K S r ds vs → ds[i]? = some d → ∃ v, vs[i]? = some v ∧ Rp K S r d v
  | [], _, i, d, _, e => by simp at e
  | x :: ds, vs, 0, d, h, e => by
    obtain ⟨v, vr, rfl, q, _⟩ := h
    obtain rfl : x = d := by simpa using e
    exact ⟨v, rfl, q⟩
  | x :: ds, vs, i + 1, d, h, e => by
    obtain ⟨v, vr, rfl, _, q⟩ := h
    exact RpAll.get (i := i) q (by simpa using e)
/-- from the other side -/
theorem RpAll.back : ∀ {ds : List D} {vs : List V} {i : Nat} {v : V}, RpAll K S r ds vs → vs[i]? = some v → ∃ d, ds[i]? = some d ∧ Rp K S r d v
  | [], vs, i, v, h, e => by
    rw [show vs = [] from h] at e
    simp at e
  | x :: ds, vs, 0, d, h, e => by
    obtain ⟨v, vr, rfl, q, _⟩ := h
    obtain rfl : v = d := by simpa using e
    exact ⟨x, rfl, q⟩
  | x :: ds, vs, i + 1, d, h, e => by
    obtain ⟨v, vr, rfl, _, q⟩ := h
    exact RpAll.back (i := i) q (by simpa using e)
theorem RpAll.append : ∀ {ds es : List D} {vs us : List V}, RpAll K S r ds vs → RpAll K S r es us → RpAll K S r (ds ++ es) (vs ++ us)
  | [], es, vs, us, h, g => by
    rw [show vs = [] from h]
    exact g
  | d :: ds, es, vs, us, h, g => by
    obtain ⟨v, vr, rfl, q, q2⟩ := h
    exact ⟨v, vr ++ us, rfl, q, q2.append g⟩
theorem RpAll.take : ∀ {ds : List D} {vs : List V} (n : Nat), RpAll K S r ds vs → RpAll K S r (ds.take n) (vs.take n)
  | ds, vs, 0, h => by
    rw [List.take_zero, List.take_zero]
    exact rfl
  | [], vs, n + 1, h => by
    rw [show vs = [] from h]
    exact rfl
  | d :: ds, vs, n + 1, h => by
    obtain ⟨v, vr, rfl, q, q2⟩ := h
    exact ⟨v, vr.take n, rfl, q, q2.take n⟩
theorem RpAll.drop : ∀ {ds : List D} {vs : List V} (n : Nat), RpAll K S r ds vs → RpAll K S r (ds.drop n) (vs.drop n)
  | ds, vs, 0, h => by
    rw [List.drop_zero, List.drop_zero]
    exact h
  | [], vs, n + 1, h => by
    rw [show vs = [] from h]
    exact rfl
  | d :: ds, vs, n + 1, h => by
    obtain ⟨v, vr, rfl, q, q2⟩ := h
    exact q2.drop n
theorem RpAll.set : ∀ {ds : List D} {vs : List V} {d : D} {v : V} (i : Nat), RpAll K S r ds vs → Rp K S r d v → RpAll K S r (ds.set i d) (vs.set i v)
  | [], vs, d, v, i, h, _ => by
    rw [show vs = [] from h]
    exact rfl
  | x :: ds, vs, d, v, 0, h, g => by
    obtain ⟨u, vr, rfl, q, q2⟩ := h
    exact ⟨v, vr, rfl, g, q2⟩
  | x :: ds, vs, d, v, i + 1, h, g => by
    obtain ⟨u, vr, rfl, q, q2⟩ := h
    exact ⟨u, vr.set i v, rfl, q, q2.set i g⟩
theorem RpAll.nil : RpAll K S r [] [] := rfl
theorem RpAll.cons {d : D} {v : V} {ds : List D} {vs : List V} (h : Rp K S r d v) (g : RpAll K S r ds vs) : RpAll K S r (d :: ds) (v :: vs) := ⟨v, vs, rfl, h, g⟩
end
/-! ### the state -/
section
variable (K : PySem.W.Frag) (ad : Str → Addr) (S : Hp) (r : Rg)
def RO (H : Hp) (a : Addr) : Ob → Prop
  | .lst ds => S a = none ∧ ∃ vs, H a = some (.lst vs) ∧ RpAll K S r ds vs
  | .dct kvs => S a = none ∧ ∃ ks, H a = some (.dK ks) ∧ RpP K S r kvs ks
  | .ins c fs => S a = none ∧ ∃ dx gs, H a = some (.ins (ad c) dx gs) ∧ RpP K S r fs gs
  | .dead => ∃ o, H a = some o
  | .fdc kvs => ∃ od ks, S a = some (.frz od (.dK ks)) ∧ H a = some (.frz od (.dK ks)) ∧ RpP K S r kvs ks
structure Rs (O : Store) (H : Hp) : Prop where
  sub : Same S H
  len : r.l.length = O.length
  nd : r.l.Nodup
  ob : ∀ (n : Nat) (a : Addr) (o : Ob), r.l[n]? = some a → O[n]? = some o → RO K ad S r H a o
  fr : Same r.fr H
  off : ∀ (a : Addr) (o : HO), r.fr a = some o → S a = none ∧ a ∉ r.l
/-- the slots -/
structure Rl (L : Loc) (σ : St) : Prop where
  len : σ.length = L.length
  at_ : ∀ (i : Nat) (d : D), L[i]? = some (some d) → ∃ v, σ[i]? = some (some v) ∧ Rp K S r d v
/-- an exception: its own dict stands for good -/
def ExR (x : Exn) (d : Option Addr) : Prop := match x.fs with
  | none => d = none
  | some fs => ∃ dd gs, d = some dd ∧ S dd = some (.xd gs) ∧ RpP K S r fs gs
end
section
variable {K : PySem.W.Frag} {ad : Str → Addr} {S S' : Hp} {r r' : Rg} {L : Loc} {σ : St} {O : Store} {H : Hp}
theorem Rl.mono (e : Ext S r S' r') (h : Rl K S r L σ) : Rl K S' r' L σ := ⟨h.len, fun i d q => by
  obtain ⟨v, q1, q2⟩ := h.at_ i d q
  exact ⟨v, q1, Rp.mono e d v q2⟩⟩
theorem RO.there {a : Addr} {o : Ob} (h : RO K ad S r H a o) : ∃ u, H a = some u := by
  cases o with
  | lst ds => obtain ⟨_, vs, q, _⟩ := h; exact ⟨_, q⟩
  | dct kvs => obtain ⟨_, vs, q, _⟩ := h; exact ⟨_, q⟩
  | ins c fs => obtain ⟨_, _, vs, q, _⟩ := h; exact ⟨_, q⟩
  | dead => exact h
  | fdc kvs => obtain ⟨od, ks, z, q, p⟩ := h; exact ⟨_, q⟩
theorem Rs.fresh (h : Rs K ad S r O H) {p : Addr} (hp : H p = none) : S p = none := h.sub.free hp
theorem Rs.notin (h : Rs K ad S r O H) {p : Addr} (hp : H p = none) : p ∉ r.l := fun hm => by
  obtain ⟨n, hn, e⟩ := List.getElem_of_mem hm
  have hO : n < O.length := by rw [← h.len]; exact hn
  obtain ⟨u, q⟩ := (h.ob n p O[n] (by rw [List.getElem?_eq_getElem hn, e]) (List.getElem?_eq_getElem hO)).there
  rw [hp] at q
  cases q
theorem RO.mono {a : Addr} {o : Ob} {H' : Hp} (e : Ext S r S' r') (k : ∀ u, H a = some u → H' a = some u) (n : S a = none → S' a = none) (h : RO K ad S r H a o) : RO K ad S' r' H' a o := by
  cases o with
  | lst ds => obtain ⟨z, vs, q, p⟩ := h; exact ⟨n z, vs, k _ q, RpAll.mono e _ _ p⟩
  | dct kvs => obtain ⟨z, vs, q, p⟩ := h; exact ⟨n z, vs, k _ q, RpP.mono e _ _ p⟩
  | ins c fs => obtain ⟨z, dx, vs, q, p⟩ := h; exact ⟨n z, dx, vs, k _ q, RpP.mono e _ _ p⟩
  | dead => obtain ⟨u, q⟩ := h; exact ⟨u, k _ q⟩
  | fdc kvs => obtain ⟨od, ks, z, q, p⟩ := h; exact ⟨od, ks, e.s _ _ z, k _ q, RpP.mono e _ _ p⟩
theorem same_upd {H' : Hp} {p : Addr} {o : HO} (h : Same H' H) (hp : H' p = none) : Same H' (upd H p o) := fun b u e => by
  rw [upd_ne (ne_of_none e hp)]
  exact h b u e
/-- a new thing that stands for good -/
theorem Rs.seal {p : Addr} {o : HO} (h : Rs K ad S r O H) (hp : H p = none) : Rs K ad (upd S p o) r O (upd H p o) where
  sub := fun b u e => by
    by_cases hb : b = p
    · rw [hb, upd_same] at e ⊢; exact e
    · rw [upd_ne hb] at e ⊢; exact h.sub b u e
  len := h.len
  nd := h.nd
  ob := fun n a ob e1 e2 => by
    have ne : a ≠ p := fun z => h.notin hp (by rw [← z]; exact List.mem_of_getElem? e1)
    exact (h.ob n a ob e1 e2).mono (Ext.new (h.fresh hp)) (fun u q => by rw [upd_ne ne]; exact q) (fun q => by rw [upd_ne ne]; exact q)
  fr := same_upd h.fr (h.fr.free hp)
  off := fun a u e => by
    have ne : a ≠ p := ne_of_none e (h.fr.free hp)
    rw [upd_ne ne]
    exact h.off a u e
/-- a thing that nobody knows -/
theorem Rs.junk {p : Addr} {o : HO} (h : Rs K ad S r O H) (hp : H p = none) : Rs K ad S r O (upd H p o) where
  sub := same_upd h.sub (h.fresh hp)
  len := h.len
  nd := h.nd
  ob := fun n a ob e1 e2 => by
    have ne : a ≠ p := fun z => h.notin hp (by rw [← z]; exact List.mem_of_getElem? e1)
    exact (h.ob n a ob e1 e2).mono (Ext.refl S r) (fun u q => by rw [upd_ne ne]; exact q) (fun q => q)
  fr := same_upd h.fr (h.fr.free hp)
  off := h.off
theorem Ext.push (S : Hp) (r : Rg) (p : Addr) : Ext S r S (r.push p) := ⟨Same.refl S, rfl, List.prefix_append r.l [p]⟩
theorem RO.grow {a p : Addr} {o : Ob} (h : RO K ad S r H a o) : RO K ad S (r.push p) H a o :=
  h.mono (Ext.push S r p) (fun _ q => q) (fun q => q)
/-- a new object of the store -/
theorem Rs.push {p : Addr} {u : HO} {o : Ob} (h : Rs K ad S r O H) (hp : H p = none) (ho : RO K ad S (r.push p) (upd H p u) p o) : Rs K ad S (r.push p) (O ++ [o]) (upd H p u) where
  sub := (h.junk (o := u) hp).sub
  len := by
    show (r.l ++ [p]).length = _
    rw [List.length_append, List.length_append, h.len]; rfl
  nd := by
    show (r.l ++ [p]).Nodup
    rw [List.nodup_append]
    refine ⟨h.nd, by simp, fun a ha b hb => ?_⟩
    obtain rfl : b = p := by simpa using hb
    exact fun z => h.notin hp (z ▸ ha)
  ob := fun n a ob e1 e2 => by
    replace e1 : (r.l ++ [p])[n]? = some a := e1
    by_cases hn : n < r.l.length
    · rw [List.getElem?_append_left hn] at e1
      rw [List.getElem?_append_left (by rw [← h.len]; exact hn)] at e2
      exact ((h.junk (o := u) hp).ob n a ob e1 e2).grow
    · have hn' : n = r.l.length := by
        have := (List.getElem?_eq_some_iff.mp e1).1
        rw [List.length_append] at this
        simp at this
        omega
      subst hn'
      rw [List.getElem?_append_right (Nat.le_refl _)] at e1
      rw [h.len, List.getElem?_append_right (Nat.le_refl _)] at e2
      simp at e1 e2
      subst e1 e2
      exact ho
  fr := same_upd h.fr (h.fr.free hp)
  off := fun a u e => ⟨(h.off a u e).1, fun hm => by
    rcases List.mem_append.mp (show a ∈ r.l ++ [p] from hm) with hm | hm
    · exact (h.off a u e).2 hm
    · obtain rfl : a = p := by simpa using hm
      replace e : r.fr a = some u := e
      rw [show r.fr a = none from h.fr.free hp] at e
      cases e⟩
theorem nd_get {l : List Addr} (h : l.Nodup) {i j : Nat} {a : Addr} (x : l[i]? = some a) (y : l[j]? = some a) : i = j := by
  obtain ⟨h1, e1⟩ := List.getElem?_eq_some_iff.mp x
  obtain ⟨h2, e2⟩ := List.getElem?_eq_some_iff.mp y
  exact (List.getElem_inj h).mp (e1.trans e2.symm)
theorem Rs.nofr (h : Rs K ad S r O H) {n : Nat} {a : Addr} (hn : r.l[n]? = some a) : r.fr a = none := by
  cases e : r.fr a with
  | none => rfl
  | some o => exact absurd (List.mem_of_getElem? hn) (h.off a o e).2
/-- an object of the store is written -/
theorem Rs.write {n : Nat} {a : Addr} {u : HO} {o : Ob} (h : Rs K ad S r O H) (hn : r.l[n]? = some a) (hz : S a = none) (ho : RO K ad S r (upd H a u) a o) : Rs K ad S r (O.set n o) (upd H a u) where
  sub := same_upd h.sub hz
  len := by rw [List.length_set]; exact h.len
  nd := h.nd
  ob := fun m b ob e1 e2 => by
    by_cases hm : m = n
    · subst hm
      rw [hn] at e1
      cases e1
      rw [List.getElem?_set_self (by rw [← h.len]; exact (List.getElem?_eq_some_iff.mp hn).1)] at e2
      cases e2
      exact ho
    · rw [List.getElem?_set_ne (Ne.symm hm)] at e2
      have ne : b ≠ a := fun z => hm (nd_get h.nd e1 (z ▸ hn))
      exact (h.ob m b ob e1 e2).mono (Ext.refl S r) (fun w q => by rw [upd_ne ne]; exact q) (fun q => q)
  fr := same_upd h.fr (h.nofr hn)
  off := h.off
def Rg.at (r : Rg) (f : Hp) : Rg := ⟨r.l, f⟩
theorem RO.at_ {a : Addr} {o : Ob} {f : Hp} (h : RO K ad S r H a o) : RO K ad S (r.at f) H a o := by
  have l : r.l <+: (r.at f).l := List.prefix_rfl
  cases o with
  | lst ds => obtain ⟨z, vs, q, p⟩ := h; exact ⟨z, vs, q, RpAll.monoW (Same.refl S) l _ _ p⟩
  | dct kvs => obtain ⟨z, vs, q, p⟩ := h; exact ⟨z, vs, q, RpP.monoW (Same.refl S) l _ _ p⟩
  | ins c fs => obtain ⟨z, dx, vs, q, p⟩ := h; exact ⟨z, dx, vs, q, RpP.monoW (Same.refl S) l _ _ p⟩
  | dead => obtain ⟨u, q⟩ := h; exact ⟨u, q⟩
  | fdc kvs => obtain ⟨od, ks, z, q, p⟩ := h; exact ⟨od, ks, z, q, RpP.monoW (Same.refl S) l _ _ p⟩
/-- a new thing is kept for a while -/
theorem Rs.hold {p : Addr} {o : HO} (h : Rs K ad S r O H) (hp : H p = none) : Rs K ad S (r.at (upd r.fr p o)) O (upd H p o) where
  sub := (h.junk (o := o) hp).sub
  len := h.len
  nd := h.nd
  ob := fun n a u e1 e2 => ((h.junk (o := o) hp).ob n a u e1 e2).at_
  fr := fun b u e => by
    replace e : upd r.fr p o b = some u := e
    by_cases hb : b = p
    · rw [hb, upd_same] at e ⊢; exact e
    · rw [upd_ne hb] at e ⊢; exact h.fr b u e
  off := fun a u e => by
    replace e : upd r.fr p o a = some u := e
    by_cases hb : a = p
    · rw [hb]; exact ⟨h.fresh hp, h.notin hp⟩
    · rw [upd_ne hb] at e; exact h.off a u e
/-- what is held changes -/
theorem Rs.rehold {p : Addr} {o u : HO} {f : Hp} (h : Rs K ad S (r.at (upd f p o)) O H) : Rs K ad S (r.at (upd f p u)) O (upd H p u) where
  sub := same_upd h.sub (h.off p o upd_same).1
  len := h.len
  nd := h.nd
  ob := fun n a w e1 e2 => by
    have ne : a ≠ p := fun z => (h.off p o upd_same).2 (z ▸ List.mem_of_getElem? e1)
    have q := h.ob n a w e1 e2
    have q1 : RO K ad S r H a w := RO.at_ (r := r.at (upd f p o)) (f := r.fr) q
    exact (q1.mono (Ext.refl S r) (fun w q => by rw [upd_ne ne]; exact q) (fun q => q)).at_
  fr := fun b w e => by
    replace e : upd f p u b = some w := e
    by_cases hb : b = p
    · rw [hb, upd_same] at e ⊢; exact e
    · rw [upd_ne hb] at e ⊢
      exact h.fr b w (by show upd f p o b = some w; rw [upd_ne hb]; exact e)
  off := fun a w e => by
    replace e : upd f p u a = some w := e
    by_cases hb : a = p
    · rw [hb]; exact h.off p o upd_same
    · rw [upd_ne hb] at e
      exact h.off a w (by show upd f p o a = some w; rw [upd_ne hb]; exact e)
/-- it is let go -/
theorem Rs.unhold {p : Addr} {o : HO} (h : Rs K ad S (r.at (upd r.fr p o)) O H) (hf : r.fr p = none) : Rs K ad S r O H ∧ H p = some o ∧ S p = none ∧ p ∉ r.l := by
  refine ⟨⟨h.sub, h.len, h.nd, fun n a w e1 e2 => RO.at_ (r := r.at (upd r.fr p o)) (f := r.fr) (h.ob n a w e1 e2), fun b w e => ?_, fun a w e => ?_⟩, h.fr p o upd_same, (h.off p o upd_same).1, (h.off p o upd_same).2⟩
  · exact h.fr b w (by show upd r.fr p o b = some w; rw [upd_ne (ne_of_none e hf)]; exact e)
  · exact h.off a w (by show upd r.fr p o a = some w; rw [upd_ne (ne_of_none e hf)]; exact e)
/-- .. sealed -/
theorem Rs.sealAt {p : Addr} {o : HO} (h : Rs K ad S r O H) (hH : H p = some o) (hS : S p = none) (hl : p ∉ r.l) (hf : r.fr p = none) : Rs K ad (upd S p o) r O H where
  sub := fun b u e => by
    by_cases hb : b = p
    · rw [hb, upd_same] at e; rw [hb, hH]; exact e
    · rw [upd_ne hb] at e; exact h.sub b u e
  len := h.len
  nd := h.nd
  ob := fun n a ob e1 e2 => by
    have ne : a ≠ p := fun z => hl (by rw [← z]; exact List.mem_of_getElem? e1)
    exact (h.ob n a ob e1 e2).mono (Ext.new hS) (fun u q => q) (fun q => by rw [upd_ne ne]; exact q)
  fr := h.fr
  off := fun a u e => ⟨by rw [upd_ne (ne_of_none e hf)]; exact (h.off a u e).1, (h.off a u e).2⟩
/-- .. put into the store -/
theorem Rs.pushAt {p : Addr} {o : Ob} (h : Rs K ad S r O H) (ho : RO K ad S (r.push p) H p o) (hl : p ∉ r.l) (hf : r.fr p = none) : Rs K ad S (r.push p) (O ++ [o]) H where
  sub := h.sub
  len := by
    show (r.l ++ [p]).length = _
    rw [List.length_append, List.length_append, h.len]; rfl
  nd := by
    show (r.l ++ [p]).Nodup
    rw [List.nodup_append]
    refine ⟨h.nd, by simp, fun a ha b hb => ?_⟩
    obtain rfl : b = p := by simpa using hb
    exact fun z => hl (z ▸ ha)
  ob := fun n a ob e1 e2 => by
    replace e1 : (r.l ++ [p])[n]? = some a := e1
    by_cases hn : n < r.l.length
    · rw [List.getElem?_append_left hn] at e1
      rw [List.getElem?_append_left (by rw [← h.len]; exact hn)] at e2
      exact (h.ob n a ob e1 e2).grow
    · have hn' : n = r.l.length := by
        have := (List.getElem?_eq_some_iff.mp e1).1
        rw [List.length_append] at this
        simp at this
        omega
      subst hn'
      rw [List.getElem?_append_right (Nat.le_refl _)] at e1
      rw [h.len, List.getElem?_append_right (Nat.le_refl _)] at e2
      simp at e1 e2
      subst e1 e2
      exact ho
  fr := h.fr
  off := fun a u e => ⟨(h.off a u e).1, fun hm => by
    rcases List.mem_append.mp (show a ∈ r.l ++ [p] from hm) with hm | hm
    · exact (h.off a u e).2 hm
    · obtain rfl : a = p := by simpa using hm
      replace e : r.fr a = some u := e
      rw [hf] at e
      cases e⟩
end
/-- what else holds of the slots and of what stands for good -/
structure JP where
  p : St → Hp → Prop
  mono : ∀ {σ : St} {S S' : Hp}, Same S S' → p σ S → p σ S'
/-! ### posts -/
section
variable (K : PySem.W.Frag) (ad : Str → Addr)
def Post {α β : Type} (rep : Hp → Rg → α → β → Prop) (W : WX) (σ : St) (S : Hp) (r : Rg) (Q : β → Hp → Prop) : Res α → Prop
  | .ok a O => ∀ S' r' H v, Ext S r S' r' → Rs K ad S' r' O H → rep S' r' a v → Q v H
  | .exc x O => ∀ S' r' H d, Ext S r S' r' → Rs K ad S' r' O H → ExR K S' r' x d → W (.ref (ad x.cls)) d σ H
  | .bad => False
def tE (J : JP) (W : WX) (m : EM) : TE := fun σ H Q => ∃ S r L O, J.p σ S ∧ Rl K S r L σ ∧ Rs K ad S r O H ∧ Post K ad (fun S r => Rp K S r) W σ S r Q (m L O)
def tT (J : JP) (W : WX) (m : TM) : TT := fun σ H Q => ∃ S r L O, J.p σ S ∧ Rl K S r L σ ∧ Rs K ad S r O H ∧ Post K ad (fun _ _ a v => v = a) W σ S r Q (m L O)
def tA (J : JP) (W : WX) (m : AM) : TA := fun σ H Q => ∃ S r L O, J.p σ S ∧ Rl K S r L σ ∧ Rs K ad S r O H ∧ Post K ad (fun S r => RpAll K S r) W σ S r Q (m L O)
def PostS (J : JP) (W : WX) (S : Hp) (r : Rg) (En : Ends) : SR → Prop
  | .next L O => ∀ S' r' σ H, Ext S r S' r' → J.p σ S' → Rl K S' r' L σ → Rs K ad S' r' O H → En.nx σ H
  | .ret d O => ∀ S' r' H v, Ext S r S' r' → Rs K ad S' r' O H → Rp K S' r' d v → En.rt v H
  | .brk L O => ∀ S' r' σ H, Ext S r S' r' → J.p σ S' → Rl K S' r' L σ → Rs K ad S' r' O H → En.bk σ H
  | .cnt L O => ∀ S' r' σ H, Ext S r S' r' → J.p σ S' → Rl K S' r' L σ → Rs K ad S' r' O H → En.ct σ H
  | .exc x L O => ∀ S' r' σ H d, Ext S r S' r' → J.p σ S' → Rl K S' r' L σ → Rs K ad S' r' O H → ExR K S' r' x d → W (.ref (ad x.cls)) d σ H
  | .bad => False
def tS (J : JP) (W : WX) (m : SM) : TS := fun En σ H => ∃ S r L O, J.p σ S ∧ Rl K S r L σ ∧ Rs K ad S r O H ∧ PostS K ad J W S r En (m L O)
/-- the promise of a def that its mirror tells -/
def spM (n : Nat) (m : FM) : Sp := fun vs H Q E => ∃ S r O ds, ds.length = n ∧ Rs K ad S r O H ∧ RpAll K S r ds vs ∧ Post K ad (fun S r => Rp K S r) (fun c d _ H' => E c d H') [] S r Q (m ds O)
end
section
variable {K : PySem.W.Frag} {ad : Str → Addr} {α β γ δ : Type} {rep : Hp → Rg → α → β → Prop} {rep2 : Hp → Rg → γ → δ → Prop} {W : WX} {σ : St} {S S' : Hp} {r r' : Rg} {Q Q' : β → Hp → Prop} {x : Res α}
theorem Post.mono (e : Ext S r S' r') (h : Post K ad rep W σ S r Q x) : Post K ad rep W σ S' r' Q x := by
  cases x with
  | ok a O => exact fun S2 r2 H v e2 => h S2 r2 H v (e.trans e2)
  | exc a O => exact fun S2 r2 H v e2 => h S2 r2 H v (e.trans e2)
  | bad => exact h
theorem Post.imp (h : Post K ad rep W σ S r Q x) (k : ∀ v H, Q v H → Q' v H) : Post K ad rep W σ S r Q' x := by
  cases x with
  | ok a O => exact fun S2 r2 H v e2 s p => k _ _ (h S2 r2 H v e2 s p)
  | exc a O => exact h
  | bad => exact h
theorem Post.bind {R : δ → Hp → Prop} {f : α → Store → Res γ} (h : Post K ad rep2 W σ S r R (x.bind f)) :
    Post K ad rep W σ S r (fun v H => ∃ S' r' a O, Ext S r S' r' ∧ Rs K ad S' r' O H ∧ rep S' r' a v ∧ Post K ad rep2 W σ S' r' R (f a O)) x := by
  cases x with
  | ok a O => exact fun S2 r2 H v e2 s p => ⟨S2, r2, a, O, e2, s, p, Post.mono e2 h⟩
  | exc a O => exact h
  | bad => exact h
end
theorem pe_imp {X : Cx} {e : Expr} {t t' : TE} (h : PE X e t) (k : ∀ σ H Q, t' σ H Q → t σ H Q) : PE X e t' := ⟨fun pins s σ H Q I q => h.run pins s σ H Q I (k σ H Q q)⟩
theorem pt_imp {X : Cx} {e : Expr} {t t' : TT} (h : PT X e t) (k : ∀ σ H Q, t' σ H Q → t σ H Q) : PT X e t' := ⟨fun pins s σ H Q I q => h.run pins s σ H Q I (k σ H Q q)⟩
theorem pa_imp {X : Cx} {e : List Expr} {t t' : TA} (h : PA X e t) (k : ∀ σ H Q, t' σ H Q → t σ H Q) : PA X e t' := ⟨fun pos pins s σ H Q I q => h.run pos pins s σ H Q I (k σ H Q q)⟩
theorem ps_imp {X : Cx} {e : Stmt} {t t' : TS} (h : PS X e t) (k : ∀ En σ H, t' En σ H → t En σ H) : PS X e t' := ⟨fun pins s σ H En I q => h.run pins s σ H En I (k En σ H q)⟩
theorem pss_imp {X : Cx} {e : List Stmt} {t t' : TS} (h : PSs X e t) (k : ∀ En σ H, t' En σ H → t En σ H) : PSs X e t' := ⟨fun pins s σ H En I q => h.run pins s σ H En I (k En σ H q)⟩
end DK
end
section
set_option Elab.async false
set_option linter.all false
set_option autoImplicit false
set_option maxRecDepth 100000
set_option maxHeartbeats 4000000
/-! DKExp: expressions and tests, by mirrors. -/
namespace DK
open PySem L2
def ofO {α : Type} : Option (α × Store) → Res α
  | some (z, O) => .ok z O
  | none => .bad
/-! ### mirrors -/
def mVar (i : Nat) : EM := fun L O => match L[i]? with
  | some (some d) => .ok d O
  | _ => .bad
def mC (d : D) : EM := fun _ O => .ok d O
def mOp (g : Store → D → D → Option (D × Store)) (a b : EM) : EM := fun L O => (a L O).bind fun x O1 => (b L O1).bind fun y O2 => ofO (g O2 x y)
def mChain (g g' : Store → D → D → Option (D × Store)) (a b c : EM) : EM := fun L O => (a L O).bind fun x O1 => (b L O1).bind fun y O2 => (ofO (g O2 x y)).bind fun z O3 => match z with
  | .bl true => (c L O3).bind fun w O4 => ofO (g' O4 y w)
  | .bl false => .ok (.bl false) O3
  | _ => .bad
def mTest (a : EM) : TM := fun L O => (a L O).bind fun x O1 => match x with
  | .bl b => .ok b O1
  | _ => .bad
def mAnd (a b : TM) : TM := fun L O => (a L O).bind fun c O1 => if c = true then b L O1 else .ok false O1
def mOr (a b : TM) : TM := fun L O => (a L O).bind fun c O1 => if c = true then .ok true O1 else b L O1
def mNot (a : TM) : TM := fun L O => (a L O).bind fun c O1 => .ok (!c) O1
def mIf (t : TM) (a b : EM) : EM := fun L O => (t L O).bind fun c O1 => if c = true then a L O1 else b L O1
/-- and, or, not of bools, as values -/
def mAndV (a b : EM) : EM := fun L O => (a L O).bind fun c O1 => match c with
  | .bl true => b L O1
  | .bl false => .ok (.bl false) O1
  | _ => .bad
def mOrV (a b : EM) : EM := fun L O => (a L O).bind fun c O1 => match c with
  | .bl true => .ok (.bl true) O1
  | .bl false => b L O1
  | _ => .bad
def mNotV (a : EM) : EM := fun L O => (a L O).bind fun c O1 => match c with
  | .bl b => .ok (.bl (!b)) O1
  | _ => .bad
def mNil : AM := fun _ O => .ok [] O
def mCons (a : EM) (t : AM) : AM := fun L O => (a L O).bind fun x O1 => (t L O1).bind fun xs O2 => .ok (x :: xs) O2
def mTup (t : AM) : EM := fun L O => (t L O).bind fun xs O1 => if xs.length ≤ 1000000 then .ok (.tup xs) O1 else .bad
/-- a new list: for good, or one of the store -/
def newL (h : Bool) (xs : List D) (O : Store) : Res D := if xs.length ≤ 1000000 then (if h = true then .ok (.hdl O.length) (O ++ [.lst xs]) else .ok (.lst xs) O) else .bad
def mLst (h : Bool) (t : AM) : EM := fun L O => (t L O).bind fun xs O1 => newL h xs O1
def mCall (g : Store → List D → Option (D × Store)) (t : AM) : EM := fun L O => (t L O).bind fun xs O1 => ofO (g O1 xs)
def mFn (f : FM) (ds : List D) (t : AM) : EM := fun L O => (t L O).bind fun xs O1 => f (xs ++ ds) O1
/-! ### the state's lists -/
def seqOf (O : Store) : D → Option (List D)
  | .lst xs => some xs
  | .rol xs => some xs
  | .tup xs => some xs
  | .hdl n => match O[n]? with
    | some (.lst xs) => some xs
    | _ => none
  | _ => none
/-- lists that are tracked -/
def lstOf (O : Store) : D → Option (List D)
  | .lst xs => some xs
  | .hdl n => match O[n]? with
    | some (.lst xs) => some xs
    | _ => none
  | _ => none
section
variable {K : PySem.W.Frag} {ad : Str → Addr} {S : Hp} {r : Rg} {O : Store} {H : Hp} {d : D} {x : V} {xs : List D}
theorem hdl_at (s : Rs K ad S r O H) {n : Nat} {o : Ob} (p : Rp K S r (.hdl n) x) (h : O[n]? = some o) : ∃ a, x = .ref a ∧ r.l[n]? = some a ∧ RO K ad S r H a o := by
  obtain ⟨a, e, q⟩ := p
  exact ⟨a, e, q, s.ob n a o q h⟩
theorem seqOf_ok (s : Rs K ad S r O H) (p : Rp K S r d x) (h : seqOf O d = some xs) : ∃ a vs, x = .ref a ∧ (SqL K H a vs ∨ SqT K H a vs) ∧ RpAll K S r xs vs := by
  cases d with
  | lst ds =>
    obtain rfl : ds = xs := Option.some.inj h
    obtain ⟨a, vs, e, q, w⟩ := p
    exact ⟨a, vs, e, .inl (.of (s.sub _ _ q)), w⟩
  | rol ds =>
    obtain rfl : ds = xs := Option.some.inj h
    obtain ⟨a, vs, e, q, w⟩ := p
    exact ⟨a, vs, e, .inl (sqL_same s.sub q), w⟩
  | tup ds =>
    obtain rfl : ds = xs := Option.some.inj h
    obtain ⟨a, vs, e, q, w⟩ := p
    exact ⟨a, vs, e, .inr (sqT_same s.sub q), w⟩
  | hdl n =>
    have h' : (match O[n]? with | some (Ob.lst xs) => some xs | _ => none) = some xs := h
    split at h'
    · rename_i zs e
      obtain rfl : zs = xs := Option.some.inj h'
      obtain ⟨a, e1, e2, _, vs, e3, e4⟩ := hdl_at s p e
      exact ⟨a, vs, e1, .inl (.of e3), e4⟩
    · cases h'
  | non => cases h
  | bl b => cases h
  | int i => cases h
  | str z => cases h
theorem lstOf_ok (s : Rs K ad S r O H) (p : Rp K S r d x) (h : lstOf O d = some xs) : ∃ a vs, x = .ref a ∧ H a = some (.lst vs) ∧ RpAll K S r xs vs := by
  cases d with
  | lst ds =>
    obtain rfl : ds = xs := Option.some.inj h
    obtain ⟨a, vs, e, q, w⟩ := p
    exact ⟨a, vs, e, s.sub _ _ q, w⟩
  | hdl n =>
    have h' : (match O[n]? with | some (Ob.lst xs) => some xs | _ => none) = some xs := h
    split at h'
    · rename_i zs e
      obtain rfl : zs = xs := Option.some.inj h'
      obtain ⟨a, e1, e2, _, vs, e3, e4⟩ := hdl_at s p e
      exact ⟨a, vs, e1, e3, e4⟩
    · cases h'
  | rol ds => cases h
  | tup ds => cases h
  | non => cases h
  | bl b => cases h
  | int i => cases h
  | str z => cases h
theorem million {n : Nat} (h : n ≤ 1000000) : n ≤ sizeLine := Nat.le_trans h (by decide)
theorem million_lt {n : Nat} (h : n ≤ 1000000) : n < sizeLine := Nat.lt_of_le_of_lt h (by decide)
/-- a new list comes -/
theorem newL_post {W : WX} {σ : L2.St} {hm : Bool} {Q : VK} {vs : List V} (s : Rs K ad S r O H) (p : RpAll K S r xs vs) (q : Post K ad (fun S r => Rp K S r) W σ S r Q (newL hm xs O)) : vs.length ≤ sizeLine ∧ ∀ l, H l = none → Q (.ref l) (upd H l (.lst vs)) := by
  unfold newL at q
  split at q
  · rename_i hl
    refine ⟨by rw [p.length]; exact million hl, fun l hn => ?_⟩
    cases hm with
    | true =>
      rw [if_pos rfl] at q
      refine q S (r.push l) _ _ (Ext.push S r l) (s.push hn ⟨s.fresh hn, vs, upd_same, RpAll.mono (Ext.push S r l) _ _ p⟩) ⟨l, rfl, ?_⟩
      show (r.l ++ [l])[O.length]? = some l
      rw [← s.len, List.getElem?_append_right (Nat.le_refl _)]
      simp
    | false =>
      rw [if_neg Bool.false_ne_true] at q
      exact q _ r _ _ (Ext.new (s.fresh hn)) (s.seal hn) ⟨l, vs, rfl, upd_same, RpAll.mono (Ext.new (s.fresh hn)) _ _ p⟩
  · exact q.elim
/-- a new tuple comes -/
theorem newT_post {W : WX} {σ : L2.St} {Q : VK} {vs : List V} (s : Rs K ad S r O H) (p : RpAll K S r xs vs) (q : Post K ad (fun S r => Rp K S r) W σ S r Q (.ok (.tup xs) O)) : ∀ l, H l = none → Q (.ref l) (upd H l (.tup vs)) := fun l hn =>
  q _ r _ _ (Ext.new (s.fresh hn)) (s.seal hn) ⟨l, vs, rfl, .of upd_same, RpAll.mono (Ext.new (s.fresh hn)) _ _ p⟩
end
/-! ### operators by values -/
structure OpD (X : Cx) (ad : Str → Addr) (f : Value → Value → Sem Value) (g : Store → D → D → Option (D × Store)) : Prop where
  ok : ∃ rr, OpR X f rr ∧ ∀ (S : Hp) (r : Rg) (O : Store) (H : Hp) (x y : V) (d e : D) (W : WX) (σ : L2.St) (Q : VK), Rs X.K ad S r O H → Rp X.K S r d x → Rp X.K S r e y →
    Post X.K ad (fun S r => Rp X.K S r) W σ S r Q (ofO (g O d e)) → rr x y H Q
structure CallD (X : Cx) (ad : Str → Addr) (f : Value) (g : Store → List D → Option (D × Store)) : Prop where
  ok : ∃ rr, CallR X f rr ∧ ∀ (S : Hp) (r : Rg) (O : Store) (H : Hp) (vs : List V) (ds : List D) (W : WX) (σ : L2.St) (Q : VK), Rs X.K ad S r O H → RpAll X.K S r ds vs →
    Post X.K ad (fun S r => Rp X.K S r) W σ S r Q (ofO (g O ds)) → rr vs H Q
section
variable {X : Cx} {ad : Str → Addr} {J : JP} {W : WX} {pos : Pos} {a b c e : Expr} {es : List Expr} {ma mb mc : EM} {ta tb : TM} {mt : AM} {op op' : CmpOp} {bop : Operator}
  {g g' : Store → D → D → Option (D × Store)}
theorem de_var {x : Str} {i : Nat} (h : PE X (.Name x pos) (tVar i)) : PE X (.Name x pos) (tE X.K ad J W (mVar i)) := by
  refine pe_imp h ?_
  rintro σ H Q ⟨S, r, L, O, j, rl, rs, p⟩
  unfold mVar at p
  split at p
  · rename_i d q
    obtain ⟨v, q1, q2⟩ := rl.at_ i d q
    exact ⟨v, q1, p S r H v (Ext.refl S r) rs q2⟩
  · exact p.elim
theorem de_c {v : V} {d : D} (h : PE X e (tC v)) (k : ∀ S r, Rp X.K S r d v) : PE X e (tE X.K ad J W (mC d)) := by
  refine pe_imp h ?_
  rintro σ H Q ⟨S, r, L, O, j, rl, rs, p⟩
  exact p S r H v (Ext.refl S r) rs (k S r)
theorem de_int {i : Int} {j : Nat} : PE X (.Constant (.int i) j pos) (tE X.K ad J W (mC (.int i))) := de_c pe_int fun _ _ => rfl
theorem de_bl {i : Bool} {j : Nat} : PE X (.Constant (.bool i) j pos) (tE X.K ad J W (mC (.bl i))) := de_c pe_bl fun _ _ => rfl
theorem de_str {i : Str} {j : Nat} : PE X (.Constant (.str i) j pos) (tE X.K ad J W (mC (.str i))) := de_c pe_str fun _ _ => rfl
theorem de_op (ho : OpD X ad (binaryOp bop) g) (ha : PE X a (tE X.K ad J W ma)) (hb : PE X b (tE X.K ad J W mb)) : PE X (.BinOp a bop b pos) (tE X.K ad J W (mOp g ma mb)) := by
  obtain ⟨rr, h1, h2⟩ := ho.ok
  refine pe_imp (pe_op h1 ha hb) ?_
  rintro σ H Q ⟨S, r, L, O, j, rl, rs, p⟩
  refine ⟨S, r, L, O, j, rl, rs, (Post.bind p).imp ?_⟩
  rintro x H1 ⟨S1, r1, d, O1, e1, s1, p1, q1⟩
  refine ⟨S1, r1, L, O1, J.mono e1.s j, rl.mono e1, s1, (Post.bind q1).imp ?_⟩
  rintro y H2 ⟨S2, r2, e, O2, e2, s2, p2, q2⟩
  exact h2 S2 r2 O2 H2 x y d e W σ Q s2 (Rp.mono e2 d x p1) p2 q2
theorem de_cmp (ho : OpD X ad (compareOp op) g) (ha : PE X a (tE X.K ad J W ma)) (hb : PE X b (tE X.K ad J W mb)) (hm : behindInMarks op b = false) : PE X (.Compare a [op] [b] pos) (tE X.K ad J W (mOp g ma mb)) := by
  obtain ⟨rr, h1, h2⟩ := ho.ok
  refine pe_imp (pe_cmpR h1 ha hb hm) ?_
  rintro σ H Q ⟨S, r, L, O, j, rl, rs, p⟩
  refine ⟨S, r, L, O, j, rl, rs, (Post.bind p).imp ?_⟩
  rintro x H1 ⟨S1, r1, d, O1, e1, s1, p1, q1⟩
  refine ⟨S1, r1, L, O1, J.mono e1.s j, rl.mono e1, s1, (Post.bind q1).imp ?_⟩
  rintro y H2 ⟨S2, r2, e, O2, e2, s2, p2, q2⟩
  exact h2 S2 r2 O2 H2 x y d e W σ Q s2 (Rp.mono e2 d x p1) p2 q2
theorem test_imp {t : TE} {m : EM} (h : ∀ σ H Q, tE X.K ad J W m σ H Q → t σ H Q) : ∀ σ H Q, tT X.K ad J W (mTest m) σ H Q → tTest t σ H Q := by
  rintro σ H Q ⟨S, r, L, O, j, rl, rs, p⟩
  refine h σ H _ ⟨S, r, L, O, j, rl, rs, (Post.bind p).imp ?_⟩
  rintro x H1 ⟨S1, r1, d, O1, e1, s1, p1, q1⟩
  cases d with
  | bl b => exact ⟨b, p1, q1 S1 r1 H1 b (Ext.refl _ _) s1 rfl⟩
  | non => exact q1.elim
  | int i => exact q1.elim
  | str s => exact q1.elim
  | lst s => exact q1.elim
  | rol s => exact q1.elim
  | tup s => exact q1.elim
  | hdl s => exact q1.elim
theorem dt_cmp (ho : OpD X ad (compareOp op) g) (ha : PE X a (tE X.K ad J W ma)) (hb : PE X b (tE X.K ad J W mb)) (hm : behindInMarks op b = false) : PT X (.Compare a [op] [b] pos) (tT X.K ad J W (mTest (mOp g ma mb))) := by
  obtain ⟨rr, h1, h2⟩ := ho.ok
  refine pt_imp (pt_cmpR h1 ha hb hm) (test_imp ?_)
  rintro σ H Q ⟨S, r, L, O, j, rl, rs, p⟩
  refine ⟨S, r, L, O, j, rl, rs, (Post.bind p).imp ?_⟩
  rintro x H1 ⟨S1, r1, d, O1, e1, s1, p1, q1⟩
  refine ⟨S1, r1, L, O1, J.mono e1.s j, rl.mono e1, s1, (Post.bind q1).imp ?_⟩
  rintro y H2 ⟨S2, r2, e, O2, e2, s2, p2, q2⟩
  exact h2 S2 r2 O2 H2 x y d e W σ Q s2 (Rp.mono e2 d x p1) p2 q2
theorem dt_val (h : PE X e (tE X.K ad J W ma)) (he : ∀ whole, isTrue e X.env whole = (do let v ← whole; standAt e.pos; holding [v] (truthy v)) := by intro _; rfl) : PT X e (tT X.K ad J W (mTest ma)) := by
  refine pt_imp (pt_val h he) ?_
  intro σ H Q q
  exact test_imp (J := J) (W := W) (fun _ _ _ z => z) σ H Q q
theorem PW.imp' {t t' : TT} (h : PW X e t) (k : ∀ σ H Q, t' σ H Q → t σ H Q) : PW X e t' := ⟨fun wh pins s σ H Q I q => h.run wh pins s σ H Q I (k σ H Q q)⟩
theorem or_imp : ∀ σ H Q, tT X.K ad J W (mOr ta tb) σ H Q → tOr (tT X.K ad J W ta) (tT X.K ad J W tb) σ H Q := by
  rintro σ H Q ⟨S, r, L, O, j, rl, rs, p⟩
  refine ⟨S, r, L, O, j, rl, rs, (Post.bind p).imp ?_⟩
  rintro k H1 ⟨S1, r1, d, O1, e1, s1, rfl, q1⟩
  cases k with
  | false =>
    rw [if_neg Bool.false_ne_true] at q1 ⊢
    exact ⟨S1, r1, L, O1, J.mono e1.s j, rl.mono e1, s1, q1⟩
  | true =>
    rw [if_pos rfl] at q1 ⊢
    exact q1 S1 r1 H1 true (Ext.refl _ _) s1 rfl
theorem dw_or1 (ha : PT X a (tT X.K ad J W ta)) : PW X (.BoolOp .Or [a] pos) (tT X.K ad J W ta) := pw_or1 ha
theorem dw_or (ha : PT X a (tT X.K ad J W ta)) (hb : PW X (.BoolOp .Or (b :: es) pos) (tT X.K ad J W tb)) : PW X (.BoolOp .Or (a :: b :: es) pos) (tT X.K ad J W (mOr ta tb)) := PW.imp' (pw_or ha hb) or_imp
theorem dt_not (ha : PT X a (tT X.K ad J W ta)) : PT X (.UnaryOp .Not a pos) (tT X.K ad J W (mNot ta)) := by
  refine pt_imp (pt_not ha) ?_
  rintro σ H Q ⟨S, r, L, O, j, rl, rs, p⟩
  refine ⟨S, r, L, O, j, rl, rs, (Post.bind p).imp ?_⟩
  rintro k H1 ⟨S1, r1, d, O1, e1, s1, rfl, q1⟩
  exact q1 S1 r1 H1 _ (Ext.refl _ _) s1 rfl
theorem de_if (hc : PT X c (tT X.K ad J W ta)) (ha : PE X a (tE X.K ad J W ma)) (hb : PE X b (tE X.K ad J W mb)) : PE X (.IfExp c a b pos) (tE X.K ad J W (mIf ta ma mb)) := by
  refine pe_imp (pe_ifExp hc ha hb) ?_
  rintro σ H Q ⟨S, r, L, O, j, rl, rs, p⟩
  refine ⟨S, r, L, O, j, rl, rs, (Post.bind p).imp ?_⟩
  rintro k H1 ⟨S1, r1, d, O1, e1, s1, rfl, q1⟩
  cases k with
  | false =>
    rw [if_neg Bool.false_ne_true] at q1 ⊢
    exact ⟨S1, r1, L, O1, J.mono e1.s j, rl.mono e1, s1, q1⟩
  | true =>
    rw [if_pos rfl] at q1 ⊢
    exact ⟨S1, r1, L, O1, J.mono e1.s j, rl.mono e1, s1, q1⟩
theorem de_and1 (ha : PE X a (tE X.K ad J W ma)) {bo : BoolOp} : PE X (.BoolOp bo [a] pos) (tE X.K ad J W ma) := pe_one ha
theorem de_and (ha : PE X a (tE X.K ad J W ma)) (hb : PE X (.BoolOp .And (b :: es) pos) (tE X.K ad J W mb)) : PE X (.BoolOp .And (a :: b :: es) pos) (tE X.K ad J W (mAndV ma mb)) := by
  refine pe_imp (pe_and ha hb) ?_
  rintro σ H Q ⟨S, r, L, O, j, rl, rs, p⟩
  refine ⟨S, r, L, O, j, rl, rs, (Post.bind p).imp ?_⟩
  rintro x H1 ⟨S1, r1, d, O1, e1, s1, p1, q1⟩
  cases d with
  | bl k =>
    refine ⟨k, p1, ?_⟩
    cases k with
    | true =>
      rw [if_pos rfl]
      exact ⟨S1, r1, L, O1, J.mono e1.s j, rl.mono e1, s1, q1⟩
    | false =>
      rw [if_neg Bool.false_ne_true]
      exact q1 S1 r1 H1 _ (Ext.refl _ _) s1 rfl
  | non => exact q1.elim
  | int i => exact q1.elim
  | str s => exact q1.elim
  | lst s => exact q1.elim
  | rol s => exact q1.elim
  | tup s => exact q1.elim
  | hdl s => exact q1.elim
theorem da_nil : PA X [] (tA X.K ad J W mNil) := by
  refine pa_imp pa_nil ?_
  rintro σ H Q ⟨S, r, L, O, j, rl, rs, p⟩
  exact p S r H [] (Ext.refl _ _) rs rfl
theorem da_cons (he : PE X e (tE X.K ad J W ma)) (ht : PA X es (tA X.K ad J W mt)) (hs : starEach (e :: es) X.env = (false, eval e X.env) :: starEach es X.env := by rfl) : PA X (e :: es) (tA X.K ad J W (mCons ma mt)) := by
  refine pa_imp (pa_cons he ht hs) ?_
  rintro σ H Q ⟨S, r, L, O, j, rl, rs, p⟩
  refine ⟨S, r, L, O, j, rl, rs, (Post.bind p).imp ?_⟩
  rintro x H1 ⟨S1, r1, d, O1, e1, s1, p1, q1⟩
  refine ⟨S1, r1, L, O1, J.mono e1.s j, rl.mono e1, s1, (Post.bind q1).imp ?_⟩
  rintro xs H2 ⟨S2, r2, ds, O2, e2, s2, p2, q2⟩
  exact q2 S2 r2 H2 _ (Ext.refl _ _) s2 (.cons (Rp.mono e2 d x p1) p2)
theorem de_lst {hm : Bool} (h : PA X es (tA X.K ad J W mt)) : PE X (.List es pos) (tE X.K ad J W (mLst hm mt)) := by
  refine pe_imp (pe_lst h) ?_
  rintro σ H Q ⟨S, r, L, O, j, rl, rs, p⟩
  refine ⟨S, r, L, O, j, rl, rs, (Post.bind p).imp ?_⟩
  rintro xs H1 ⟨S1, r1, ds, O1, e1, s1, p1, q1⟩
  exact newL_post s1 p1 q1
theorem de_callB {gc : Store → List D → Option (D × Store)} {x : Str} {id : String} {p : Pos} (hc : CallD X ad (.builtin id) gc) (hg : Gl X x) (hm : X.mg x = none) (hv : bootBuiltins x = some (.builtin id)) (ha : PA X (e :: es) (tA X.K ad J W mt))
    (hn : x ≠ "__name__" := by decide) (hdb : (x == ("__debug__" : Str)) = false := by decide)
    (he : starEach (e :: es) X.env = (false, eval e X.env) :: starEach es X.env := by rfl) (hpl : (backTo pos (starEach es X.env)).any (·.1) = false := by rfl) : PE X (.Call (.Name x p) (e :: es) [] pos) (tE X.K ad J W (mCall gc mt)) := by
  obtain ⟨rr, h1, h2⟩ := hc.ok
  refine pe_imp (pe_callB h1 hg hm hv ha hn hdb he hpl) ?_
  rintro σ H Q ⟨S, r, L, O, j, rl, rs, p⟩
  refine ⟨S, r, L, O, j, rl, rs, (Post.bind p).imp ?_⟩
  rintro xs H1 ⟨S1, r1, ds, O1, e1, s1, p1, q1⟩
  exact h2 S1 r1 O1 H1 xs ds W σ Q s1 p1 q1
theorem de_callTy {gc : Store → List D → Option (D × Store)} {x : Str} {T : String} {p : Pos} (hc : CallD X ad (.type T) gc) (hg : Gl X x) (hm : X.mg x = none) (hv : bootBuiltins x = some (.type T)) (ha : PA X (e :: es) (tA X.K ad J W mt))
    (hn : x ≠ "__name__" := by decide) (hdb : (x == ("__debug__" : Str)) = false := by decide)
    (he : starEach (e :: es) X.env = (false, eval e X.env) :: starEach es X.env := by rfl) (hpl : (backTo pos (starEach es X.env)).any (·.1) = false := by rfl) : PE X (.Call (.Name x p) (e :: es) [] pos) (tE X.K ad J W (mCall gc mt)) := by
  obtain ⟨rr, h1, h2⟩ := hc.ok
  refine pe_imp (pe_callTy h1 hg hm hv ha hn hdb he hpl) ?_
  rintro σ H Q ⟨S, r, L, O, j, rl, rs, p⟩
  refine ⟨S, r, L, O, j, rl, rs, (Post.bind p).imp ?_⟩
  rintro xs H1 ⟨S1, r1, ds, O1, e1, s1, p1, q1⟩
  exact h2 S1 r1 O1 H1 xs ds W σ Q s1 p1 q1
/-- a def of the text is called -/
theorem spM_of {n : Nat} {f : FM} {S : Hp} {r : Rg} {O : Store} {H : Hp} {ds : List D} {vs : List V} {σ : L2.St} {Q : VK} (hl : ds.length = n) (s : Rs X.K ad S r O H) (p : RpAll X.K S r ds vs) (q : Post X.K ad (fun S r => Rp X.K S r) W σ S r Q (f ds O)) : spM X.K ad n f vs H Q (WE W σ) := by
  refine ⟨S, r, O, ds, hl, s, p, ?_⟩
  generalize f ds O = z at q
  cases z with
  | ok a O => exact q
  | exc x O => exact q
  | bad => exact q
/-- the number of arguments is checked by the mirror -/
def arity (n : Nat) (f : FM) : FM := fun ds O => if ds.length = n then f ds O else .bad
theorem spM_ar {n : Nat} {f : FM} {S : Hp} {r : Rg} {O : Store} {H : Hp} {ds : List D} {vs : List V} {σ : L2.St} {Q : VK} (s : Rs X.K ad S r O H) (p : RpAll X.K S r ds vs) (q : Post X.K ad (fun S r => Rp X.K S r) W σ S r Q (arity n f ds O)) : spM X.K ad n f vs H Q (WE W σ) := by
  unfold arity at q
  split at q
  · rename_i hl
    exact spM_of hl s p q
  · exact q.elim
theorem de_call {k n : Nat} {f : Addr} {fd : FuncData} {ps : List Str} {m : FM} {dvs : List V} {dds : List D} {ds : List Value} {x : Str} {p : Pos} (F : FnOk X.prog X.w X.K X.mg X.base (L2.CX X.prog X.w) k f fd ps (spM X.K ad n m)) (hr : Room k X.A) (hg : Gl X x) (hm : X.mg x = some (.ref f)) (hk : PySem.W.keepIn X.K (.ref f) = true)
    (hb : Binds X.K fd ps ds) (hd : Vals dvs ds) (hdd : ∀ S r, RpAll X.K S r dds dvs) (tk : Takes X W) (ha : PA X (e :: es) (tA X.K ad J W mt)) (hdb : (x == ("__debug__" : Str)) = false := by decide)
    (he : starEach (e :: es) X.env = (false, eval e X.env) :: starEach es X.env := by rfl) (hpl : (backTo pos (starEach es X.env)).any (·.1) = false := by rfl) :
    PE X (.Call (.Name x p) (e :: es) [] pos) (tE X.K ad J W (mFn (arity n m) dds mt)) := by
  refine pe_imp (pe_callSD F hr hg hm hk hb hd (fun σ => passAt tk σ) ha hdb he hpl) ?_
  rintro σ H Q ⟨S, r, L, O, j, rl, rs, p⟩
  refine ⟨S, r, L, O, j, rl, rs, (Post.bind p).imp ?_⟩
  rintro xs H1 ⟨S1, r1, ds, O1, e1, s1, p1, q1⟩
  exact spM_ar s1 (p1.append (hdd S1 r1)) q1
end
end DK
end
section
set_option Elab.async false
set_option linter.all false
set_option autoImplicit false
set_option maxRecDepth 100000
set_option maxHeartbeats 4000000
/-! DKStm: statements, loops, defs, by mirrors. -/
namespace DK
open PySem L2
def ofRes {α : Type} (L : Loc) (x : Res α) (f : α → Store → SR) : SR := match x with
  | .ok a O => f a O
  | .exc x O => .exc x L O
  | .bad => .bad
def sNext : SM := fun L O => .next L O
def sSeq (a b : SM) : SM := fun L O => match a L O with
  | .next L1 O1 => b L1 O1
  | .ret d O1 => .ret d O1
  | .brk L1 O1 => .brk L1 O1
  | .cnt L1 O1 => .cnt L1 O1
  | .exc x L1 O1 => .exc x L1 O1
  | .bad => .bad
def sDrop (m : EM) : SM := fun L O => ofRes L (m L O) fun _ O1 => .next L O1
def sRet (m : EM) : SM := fun L O => ofRes L (m L O) fun d O1 => .ret d O1
def sRetN : SM := fun _ O => .ret .non O
def sIf (t : TM) (a b : SM) : SM := fun L O => ofRes L (t L O) fun c O1 => if c = true then a L O1 else b L O1
/-- a target: what a value makes of slots and store -/
abbrev BM := D → Loc → Store → Option (Loc × Store)
abbrev BsM := List D → Loc → Store → Option (Loc × Store)
def bName (i : Nat) : BM := fun d L O => some (L.set i (some d), O)
def bNil : BsM := fun ds L O => match ds with
  | [] => some (L, O)
  | _ => none
def bCons (b : BM) (c : BsM) : BsM := fun ds L O => match ds with
  | d :: ds => (b d L O).bind fun p => c ds p.1 p.2
  | [] => none
def bTup (n : Nat) (c : BsM) : BM := fun d L O => match d with
  | .tup ds => if ds.length = n then c ds L O else none
  | _ => none
def ofB : Option (Loc × Store) → SR
  | some p => .next p.1 p.2
  | none => .bad
def sAsg (m : EM) (b : BM) : SM := fun L O => ofRes L (m L O) fun d O1 => ofB (b d L O1)
/-- a turn of a loop -/
def turnOf (b : BM) (body : SM) (d : D) : SM := fun L O => match b d L O with
  | some p => body p.1 p.2
  | none => .bad
def loopD (turn : D → SM) : List D → SM
  | [], L, O => .next L O
  | d :: ds, L, O => match turn d L O with
    | .next L1 O1 => loopD turn ds L1 O1
    | .cnt L1 O1 => loopD turn ds L1 O1
    | .brk L1 O1 => .next L1 O1
    | .ret d O1 => .ret d O1
    | .exc x L1 O1 => .exc x L1 O1
    | .bad => .bad
def rangeD (lo : Int) (n : Nat) : List D := (List.range n).map fun (i : Nat) => .int (lo + (i : Int))
def int1 : List D → Option Int
  | [.int j] => if -1000000000000 ≤ j ∧ j ≤ 1000000000000 then some j else none
  | _ => none
def int2 : List D → Option (Int × Int)
  | [.int i, .int j] => if (-1000000000000 ≤ i ∧ i ≤ 1000000000000) ∧ (-1000000000000 ≤ j ∧ j ≤ 1000000000000) then some (i, j) else none
  | _ => none
theorem int1_ok {ds : List D} {j : Int} (h : int1 ds = some j) : ds = [.int j] ∧ -1000000000000 ≤ j ∧ j ≤ 1000000000000 := by
  unfold int1 at h
  split at h
  · split at h
    · cases h; exact ⟨rfl, by assumption⟩
    · cases h
  · cases h
def sForR1 (t : AM) (b : BM) (body : SM) : SM := fun L O => ofRes L (t L O) fun ds O1 => match int1 ds with
  | some j => loopD (turnOf b body) (rangeD 0 j.toNat) L O1
  | none => .bad
/-- a def by its body -/
def runF (n : Nat) (b : SM) : FM := fun ds O => match b (ds.map some ++ List.replicate (n - ds.length) none) O with
  | .next _ O1 => .ok .non O1
  | .ret d O1 => .ok d O1
  | .exc x _ O1 => .exc x O1
  | _ => .bad
section
variable {K : PySem.W.Frag} {ad : Str → Addr} {J : JP} {W : WX} {S S' : Hp} {r r' : Rg} {En : Ends} {L : Loc} {σ : L2.St} {α β : Type} {rep : Hp → Rg → α → β → Prop}
theorem PostS.mono {x : SR} (e : Ext S r S' r') (h : PostS K ad J W S r En x) : PostS K ad J W S' r' En x := by
  cases x with
  | next L O => exact fun S2 r2 σ H e2 => h S2 r2 σ H (e.trans e2)
  | ret d O => exact fun S2 r2 H v e2 => h S2 r2 H v (e.trans e2)
  | brk L O => exact fun S2 r2 σ H e2 => h S2 r2 σ H (e.trans e2)
  | cnt L O => exact fun S2 r2 σ H e2 => h S2 r2 σ H (e.trans e2)
  | exc x L O => exact fun S2 r2 σ H d e2 => h S2 r2 σ H d (e.trans e2)
  | bad => exact h
theorem bindS {x : Res α} {f : α → Store → SR} (j : J.p σ S) (rl : Rl K S r L σ) (h : PostS K ad J W S r En (ofRes L x f)) :
    Post K ad rep W σ S r (fun v H => ∃ S' r' a O, Ext S r S' r' ∧ Rs K ad S' r' O H ∧ rep S' r' a v ∧ PostS K ad J W S' r' En (f a O)) x := by
  cases x with
  | ok a O => exact fun S2 r2 H v e2 s p => ⟨S2, r2, a, O, e2, s, p, PostS.mono e2 h⟩
  | exc a O => exact fun S2 r2 H d e2 s p => h S2 r2 σ H d e2 (J.mono e2.s j) (rl.mono e2) s p
  | bad => exact h
theorem Rl.set {d : D} {v : V} (i : Nat) (h : Rl K S r L σ) (p : Rp K S r d v) : Rl K S r (L.set i (some d)) (σ.set i (some v)) where
  len := by rw [List.length_set, List.length_set]; exact h.len
  at_ := fun j e q => by
    by_cases hj : i = j
    · subst hj
      by_cases hl : i < L.length
      · rw [List.getElem?_set_self hl] at q
        cases q
        exact ⟨v, List.getElem?_set_self (by rw [h.len]; exact hl), p⟩
      · rw [List.getElem?_eq_none (by rw [List.length_set]; omega)] at q
        cases q
    · rw [List.getElem?_set_ne hj] at q
      rw [List.getElem?_set_ne hj]
      exact h.at_ j e q
theorem Rl.wipe (i : Nat) (o : Option V) (h : Rl K S r L σ) : Rl K S r (L.set i none) (σ.set i o) where
  len := by rw [List.length_set, List.length_set]; exact h.len
  at_ := fun j e q => by
    by_cases hj : i = j
    · subst hj
      by_cases hl : i < L.length
      · rw [List.getElem?_set_self hl] at q
        cases q
      · rw [List.getElem?_eq_none (by rw [List.length_set]; omega)] at q
        cases q
    · rw [List.getElem?_set_ne hj] at q
      rw [List.getElem?_set_ne hj]
      exact h.at_ j e q
end
abbrev JT : JP := ⟨fun _ _ => True, fun _ _ => trivial⟩
/-! ### small statements -/
section
variable {X : Cx} {ad : Str → Addr} {J : JP} {W : WX} {pos : Pos} {a b c e tg iter : Expr} {es : List Expr} {m : EM} {mt : AM} {tm : TM} {st : Stmt} {rest body els : List Stmt} {s1 s2 : SM} {bm : BM} {bs : BsM}
theorem dss_nil : PSs X [] (tS X.K ad J W sNext) := by
  refine pss_imp pss_nil ?_
  rintro En σ H ⟨S, r, L, O, j, rl, rs, p⟩
  exact p S r σ H (Ext.refl _ _) j rl rs
theorem dss_cons (h1 : PS X st (tS X.K ad J W s1)) (h2 : PSs X rest (tS X.K ad J W s2)) : PSs X (st :: rest) (tS X.K ad J W (sSeq s1 s2)) := by
  refine pss_imp (pss_cons h1 h2) ?_
  rintro En σ H ⟨S, r, L, O, j, rl, rs, p⟩
  refine ⟨S, r, L, O, j, rl, rs, ?_⟩
  unfold sSeq at p
  generalize s1 L O = z at p
  cases z with
  | next L1 O1 => exact fun S1 r1 σ1 H1 e1 j1 l1 q1 => ⟨S1, r1, L1, O1, j1, l1, q1, PostS.mono e1 p⟩
  | ret d O1 => exact p
  | brk L1 O1 => exact p
  | cnt L1 O1 => exact p
  | exc x L1 O1 => exact p
  | bad => exact p
theorem dss_one (h1 : PS X st (tS X.K ad J W s1)) : PSs X [st] (tS X.K ad J W s1) := pss_one h1
theorem ds_expr (he : PE X e (tE X.K ad J W m)) (hs : swapsWith e none pos.line X.env = pure false := by rfl) : PS X (.Expr e pos) (tS X.K ad J W (sDrop m)) := by
  refine ps_imp (ps_expr he hs) ?_
  rintro En σ H ⟨S, r, L, O, j, rl, rs, p⟩
  refine ⟨S, r, L, O, j, rl, rs, (bindS j rl p).imp ?_⟩
  rintro x H1 ⟨S1, r1, d, O1, e1, q1, p1, k1⟩
  exact k1 S1 r1 σ H1 (Ext.refl _ _) (J.mono e1.s j) (rl.mono e1) q1
theorem ds_ret (he : PE X e (tE X.K ad J W m)) : PS X (.Return (some e) pos) (tS X.K ad J W (sRet m)) := by
  refine ps_imp (ps_ret he) ?_
  rintro En σ H ⟨S, r, L, O, j, rl, rs, p⟩
  refine ⟨S, r, L, O, j, rl, rs, (bindS j rl p).imp ?_⟩
  rintro x H1 ⟨S1, r1, d, O1, e1, q1, p1, k1⟩
  exact k1 S1 r1 H1 x (Ext.refl _ _) q1 p1
theorem ds_if (hc : PT X c (tT X.K ad J W tm)) (ha : PSs X body (tS X.K ad J W s1)) (hb : PSs X els (tS X.K ad J W s2)) : PS X (.If c body els pos) (tS X.K ad J W (sIf tm s1 s2)) := by
  refine ps_imp (ps_if hc ha hb) ?_
  rintro En σ H ⟨S, r, L, O, j, rl, rs, p⟩
  refine ⟨S, r, L, O, j, rl, rs, (bindS j rl p).imp ?_⟩
  rintro k H1 ⟨S1, r1, d, O1, e1, q1, rfl, k1⟩
  cases k with
  | true =>
    rw [if_pos rfl] at k1 ⊢
    exact ⟨S1, r1, L, O1, J.mono e1.s j, rl.mono e1, q1, k1⟩
  | false =>
    rw [if_neg Bool.false_ne_true] at k1 ⊢
    exact ⟨S1, r1, L, O1, J.mono e1.s j, rl.mono e1, q1, k1⟩
/-! ### targets -/
def PostB (K : PySem.W.Frag) (ad : Str → Addr) (J : JP) (S : Hp) (r : Rg) (Q : L2.St → Hp → Prop) : Option (Loc × Store) → Prop
  | some p => ∀ S' r' σ H, Ext S r S' r' → J.p σ S' → Rl K S' r' p.1 σ → Rs K ad S' r' p.2 H → Q σ H
  | none => False
def tG (K : PySem.W.Frag) (ad : Str → Addr) (J : JP) (b : BM) : TG := fun v σ H Q => ∃ S r L O d, J.p σ S ∧ Rl K S r L σ ∧ Rs K ad S r O H ∧ Rp K S r d v ∧ PostB K ad J S r Q (b d L O)
theorem PostB.mono {S S' : Hp} {r r' : Rg} {Q : L2.St → Hp → Prop} {x : Option (Loc × Store)} (e : Ext S r S' r') (h : PostB X.K ad J S r Q x) : PostB X.K ad J S' r' Q x := by
  cases x with
  | some p => exact fun S2 r2 σ H e2 => h S2 r2 σ H (e.trans e2)
  | none => exact h
theorem pg_imp {t t' : TG} (h : PG X tg t) (k : ∀ v σ H Q, t' v σ H Q → t v σ H Q) : PG X tg t' := ⟨fun pins s σ H v u Q I r q => h.run pins s σ H v u Q I r (k v σ H Q q)⟩
theorem dg_name {i : Nat} {x : Str} (hN : X.N.Nodup) (hi : X.N[i]? = some x) (hx : L2.Loc X.env.scope x) (hJ : ∀ (σ : L2.St) (v : V) (S : Hp), J.p σ S → J.p (σ.set i (some v)) S := by intro _ _ _ _; trivial) (hf : X.fn x = true ∨ X.env.scope.names.lookup x = some .local := by first | exact .inl rfl | exact .inr rfl | assumption) :
    PG X (.Name x pos) (tG X.K ad J (bName i)) := by
  refine pg_imp (pg_name hN hi hx hf) ?_
  rintro v σ H Q ⟨S, r, L, O, d, j, rl, rs, rp, p⟩
  exact p S r _ H (Ext.refl _ _) (hJ _ _ _ j) (rl.set i rp) rs
theorem asg_imp {t : TG} (hg : ∀ v σ H Q, tG X.K ad J bm v σ H Q → t v σ H Q) : ∀ En σ H, tS X.K ad J W (sAsg m bm) En σ H → tAsg (tE X.K ad J W m) t En σ H := by
  rintro En σ H ⟨S, r, L, O, j, rl, rs, p⟩
  refine ⟨S, r, L, O, j, rl, rs, (bindS j rl p).imp ?_⟩
  rintro x H1 ⟨S1, r1, d, O1, e1, q1, p1, k1⟩
  refine hg _ _ _ _ ⟨S1, r1, L, O1, d, J.mono e1.s j, rl.mono e1, q1, p1, ?_⟩
  generalize bm d L O1 = z at k1
  cases z with
  | none => exact k1
  | some z => exact k1
theorem ds_asg (he : PE X e (tE X.K ad J W m)) (hg : PG X tg (tG X.K ad J bm)) (hs : swapsWithSole [tg] e pos.line X.env = pure false := by rfl) (hw : swappedStores [tg] e X.env = pure none := by rfl)
    (h1 : (assignEach [tg] X.env).map (·.2) = [assign tg X.env] := by rfl) : PS X (.Assign [tg] e pos) (tS X.K ad J W (sAsg m bm)) :=
  ps_imp (ps_asg he hg hs hw h1) (asg_imp fun _ _ _ _ z => z)
theorem ds_set {i : Nat} {x : Str} {pos' : Pos} (hN : X.N.Nodup) (hi : X.N[i]? = some x) (hx : L2.Loc X.env.scope x) (he : PE X e (tE X.K ad J W m)) (hJ : ∀ (σ : L2.St) (v : Option V) (S : Hp), J.p σ S → J.p (σ.set i v) S := by intro _ _ _ _; trivial) (hs : swapsWith e (some (.Name x pos')) pos.line X.env = pure false := by rfl)
    (hf : X.fn x = true ∨ X.env.scope.names.lookup x = some .local := by first | exact .inl rfl | exact .inr rfl | assumption) : PS X (.Assign [.Name x pos'] e pos) (tS X.K ad J W (sAsg m (bName i))) := by
  refine ps_imp (ps_set hN hi hx he hs hf) (asg_imp ?_)
  rintro v σ H Q ⟨S, r, L, O, d, j, rl, rs, rp, p⟩
  exact p S r _ H (Ext.refl _ _) (hJ _ _ _ j) (rl.set i rp) rs
/-- one turn, then the rest f -/
def afterT (x : SR) (f : SM) : SR := match x with
  | .next L1 O1 => f L1 O1
  | .cnt L1 O1 => f L1 O1
  | .brk L1 O1 => .next L1 O1
  | .ret d O1 => .ret d O1
  | .exc x L1 O1 => .exc x L1 O1
  | .bad => .bad
theorem turn_post {S : Hp} {r : Rg} {En : Ends} {x : SR} {f : SM} (h : PostS X.K ad J W S r En (afterT x f)) :
    PostS X.K ad J W S r { En with nx := fun σ H => ∃ S' r' L' O', Ext S r S' r' ∧ J.p σ S' ∧ Rl X.K S' r' L' σ ∧ Rs X.K ad S' r' O' H ∧ PostS X.K ad J W S' r' En (f L' O'), ct := fun σ H => ∃ S' r' L' O', Ext S r S' r' ∧ J.p σ S' ∧ Rl X.K S' r' L' σ ∧ Rs X.K ad S' r' O' H ∧ PostS X.K ad J W S' r' En (f L' O'), bk := En.nx } x := by
  cases x with
  | next L O => exact fun S2 r2 σ H e2 j l s => ⟨S2, r2, L, O, e2, j, l, s, PostS.mono e2 h⟩
  | ret d O => exact h
  | brk L O => exact h
  | cnt L O => exact fun S2 r2 σ H e2 j l s => ⟨S2, r2, L, O, e2, j, l, s, PostS.mono e2 h⟩
  | exc x L O => exact h
  | bad => exact h
theorem loopD_cons {turn : D → SM} {d : D} {ds : List D} {L : Loc} {O : Store} : loopD turn (d :: ds) L O = afterT (turn d L O) (loopD turn ds) := by
  show (match turn d L O with
    | .next L1 O1 => loopD turn ds L1 O1
    | .cnt L1 O1 => loopD turn ds L1 O1
    | .brk L1 O1 => .next L1 O1
    | .ret d O1 => .ret d O1
    | .exc x L1 O1 => .exc x L1 O1
    | .bad => .bad) = _
  cases turn d L O <;> rfl
/-- the body of a turn -/
theorem turn_of {S : Hp} {r : Rg} {En : Ends} {L : Loc} {O : Store} {σ : L2.St} {H : Hp} {d : D} {v : V} (j : J.p σ S) (rl : Rl X.K S r L σ) (rs : Rs X.K ad S r O H) (rp : Rp X.K S r d v) (h : PostS X.K ad J W S r En (turnOf bm s1 d L O)) :
    tG X.K ad J bm v σ H fun σ2 H2 => tS X.K ad J W s1 En σ2 H2 := by
  refine ⟨S, r, L, O, d, j, rl, rs, rp, ?_⟩
  unfold turnOf at h
  generalize bm d L O = z at h
  cases z with
  | none => exact h
  | some z => exact fun S2 r2 σ2 H2 e2 j2 l2 q2 => ⟨S2, r2, z.1, z.2, j2, l2, q2, PostS.mono e2 h⟩
/-- a loop over things that stand still -/
theorem for_still {It' : It} {vs : List V} (ds : List D) {S0 : Hp} {r0 : Rg} (hp : RpAll X.K S0 r0 ds vs)
    (go : ∀ (i : Nat) (H : Hp) (S : Hp) (x : V), Same S0 S → Same S H → vs[i]? = some x → It'.go i H) (yl : ∀ (i : Nat) (H : Hp) (S : Hp) (x y : V) (H' : Hp), Same S0 S → Same S H → vs[i]? = some x → It'.yld i H y H' → y = x ∧ H' = H)
    (sp : ∀ (i : Nat) (H : Hp) (S : Hp), Same S0 S → Same S H → vs.length ≤ i → It'.stop i H) {L : Loc} {O : Store} {σ : L2.St} {H : Hp} {En : Ends} (j : J.p σ S0) (rl : Rl X.K S0 r0 L σ) (rs : Rs X.K ad S0 r0 O H) (h : PostS X.K ad J W S0 r0 En (loopD (turnOf bm s1) ds L O)) :
    ∃ W' : Nat → Nat → L2.St → Hp → Prop, (∃ m, W' 0 m σ H) ∧ ∀ i m σ H, W' i m σ H →
      (It'.stop i H ∧ En.nx σ H) ∨ (It'.go i H ∧ ∃ N : L2.St → Hp → Prop, (∀ σ' H', N σ' H' → ∃ m', m' < m ∧ W' (i + 1) m' σ' H') ∧ ∀ x H', It'.yld i H x H' → tG X.K ad J bm x σ H' fun σ2 H2 => tS X.K ad J W s1 { En with nx := N, ct := N, bk := En.nx } σ2 H2) := by
  refine ⟨fun i m σ H => m = vs.length - i ∧ i ≤ vs.length ∧ ∃ S r L O, Ext S0 r0 S r ∧ J.p σ S ∧ Rl X.K S r L σ ∧ Rs X.K ad S r O H ∧ PostS X.K ad J W S r En (loopD (turnOf bm s1) (ds.drop i) L O), ⟨_, rfl, Nat.zero_le _, S0, r0, L, O, Ext.refl _ _, j, rl, rs, h⟩, ?_⟩
  rintro i m σ H ⟨rfl, hi, S, r, L, O, e, j, rl, rs, h⟩
  by_cases hlt : i < vs.length
  · have hx : vs[i]? = some vs[i] := List.getElem?_eq_getElem hlt
    obtain ⟨d, hd, pd⟩ := RpAll.back hp hx
    have hdrop : ds.drop i = d :: ds.drop (i + 1) := by
      obtain ⟨h1, h2⟩ := List.getElem?_eq_some_iff.mp hd
      rw [List.drop_eq_getElem_cons h1, h2]
    rw [hdrop, loopD_cons] at h
    refine .inr ⟨go i H S _ e.s rs.sub hx, fun σ' H' => ∃ S' r' L' O', Ext S r S' r' ∧ J.p σ' S' ∧ Rl X.K S' r' L' σ' ∧ Rs X.K ad S' r' O' H' ∧ PostS X.K ad J W S' r' En (loopD (turnOf bm s1) (ds.drop (i + 1)) L' O'), ?_, fun x H' hy => ?_⟩
    · rintro σ' H' ⟨S', r', L', O', e', j', l', q', h'⟩
      exact ⟨_, by omega, rfl, hlt, S', r', L', O', e.trans e', j', l', q', h'⟩
    · obtain ⟨rfl, rfl⟩ := yl i H S _ x H' e.s rs.sub hx hy
      exact turn_of j rl rs (Rp.mono e d _ pd) (turn_post h)
  · have e2 : ds.drop i = [] := List.drop_eq_nil_of_le (by rw [← hp.length]; omega)
    rw [e2] at h
    exact .inl ⟨sp i H S e.s rs.sub (by omega), h S r σ H (Ext.refl _ _) j rl rs⟩
theorem range_rp {S : Hp} {r : Rg} (lo : Int) (n : Nat) : RpAll X.K S r (rangeD lo n) ((List.range n).map fun (i : Nat) => V.int (lo + (i : Int))) := by
  unfold rangeD
  generalize List.range n = l
  induction l with
  | nil => exact rfl
  | cons a l ih => exact ⟨_, _, rfl, rfl, ih⟩
theorem for_range_post {lo : Int} {n : Nat} {S0 : Hp} {r0 : Rg} {L : Loc} {O : Store} {σ : L2.St} {H : Hp} {En : Ends} (j : J.p σ S0) (rl : Rl X.K S0 r0 L σ) (rs : Rs X.K ad S0 r0 O H) (h : PostS X.K ad J W S0 r0 En (loopD (turnOf bm s1) (rangeD lo n) L O)) :
    ∃ W' : Nat → Nat → L2.St → Hp → Prop, (∃ m, W' 0 m σ H) ∧ ∀ i m σ H, W' i m σ H →
      ((Itr lo n).stop i H ∧ En.nx σ H) ∨ ((Itr lo n).go i H ∧ ∃ N : L2.St → Hp → Prop, (∀ σ' H', N σ' H' → ∃ m', m' < m ∧ W' (i + 1) m' σ' H') ∧ ∀ x H', (Itr lo n).yld i H x H' → tG X.K ad J bm x σ H' fun σ2 H2 => tS X.K ad J W s1 { En with nx := N, ct := N, bk := En.nx } σ2 H2) := by
  have hlen : ((List.range n).map fun (i : Nat) => V.int (lo + (i : Int))).length = n := by rw [List.length_map, List.length_range]
  refine for_still (rangeD lo n) (range_rp lo n) (fun i H S x e e' hx => ?_) (fun i H S x y H' e e' hx hy => ?_) (fun i H S e e' hl => ?_) j rl rs h
  · have := (List.getElem?_eq_some_iff.mp hx).1
    rw [hlen] at this
    exact this
  · have hi := (List.getElem?_eq_some_iff.mp hx).1
    rw [hlen] at hi
    rw [List.getElem?_map, List.getElem?_range hi] at hx
    exact ⟨hy.2.trans (Option.some.inj hx), hy.1⟩
  · rw [hlen] at hl
    exact hl
theorem ds_forR1 {p q : Pos} (hp : PassesOwn (model X.prog X.w) X.A X.env X.xe) (hc : X.calm = true) (hg0 : Gl X "range") (hm : X.mg "range" = none) (ha : PA X [a] (tA X.K ad J W mt)) (hg : PG X tg (tG X.K ad J bm)) (hb : PSs X body (tS X.K ad J W s1))
    (hs0 : starEach [a] X.env = [(false, eval a X.env)] := by rfl) (hs : ∀ x, foldedSetIterable (.Call (.Name "range" p) [a] [] q) X.env x = pure x := by intro _; rfl) : PS X (.For tg (.Call (.Name "range" p) [a] [] q) body [] pos) (tS X.K ad J W (sForR1 mt bm s1)) := by
  refine ps_imp (ps_for hp hc (pi_range1 hg0 hm ha hs0) hg hb hs) ?_
  rintro En σ H ⟨S, r, L, O, j, rl, rs, p⟩
  refine ⟨S, r, L, O, j, rl, rs, (bindS j rl p).imp ?_⟩
  rintro vs H1 ⟨S1, r1, ds, O1, e1, q1, p1, k1⟩
  have k2 : PostS X.K ad J W S1 r1 En (match int1 ds with | some j => loopD (turnOf bm s1) (rangeD 0 j.toNat) L O1 | none => .bad) := k1
  clear k1
  revert k2
  cases hj : int1 ds with
  | none => exact fun k2 => k2.elim
  | some jj =>
    intro k1
    obtain ⟨rfl, b1, b2⟩ := int1_ok hj
    obtain ⟨v, vr, rfl, rfl, rfl⟩ := p1
    exact ⟨jj, rfl, by omega, by omega, for_range_post (J.mono e1.s j) (rl.mono e1) q1 k1⟩
end
/-! ### a def -/
section
variable {P : Program} {w : World} {K : PySem.W.Frag} {mg : Str → Option Value} {base : Heap} {ad : Str → Addr}
theorem start_rl {S : Hp} {r : Rg} {N : List Str} {ds : List D} {vs : List V} (hl : vs.length ≤ N.length) (h : RpAll K S r ds vs) : Rl K S r (ds.map some ++ List.replicate (N.length - ds.length) none) (L2.start N vs) where
  len := by
    unfold L2.start
    rw [List.length_append, List.length_append, List.length_map, List.length_map, List.length_replicate, List.length_replicate, h.length]
  at_ := fun i d q => by
    by_cases hi : i < ds.length
    · rw [List.getElem?_append_left (by rw [List.length_map]; exact hi), List.getElem?_map] at q
      cases e : ds[i]? with
      | none => rw [e] at q; cases q
      | some d' =>
        rw [e] at q
        obtain rfl : d' = d := Option.some.inj (Option.some.inj q)
        obtain ⟨v, hv, p⟩ := h.get e
        refine ⟨v, ?_, p⟩
        unfold L2.start
        rw [List.getElem?_append_left (by rw [List.length_map, h.length]; exact hi), List.getElem?_map, hv]
        rfl
    · rw [List.getElem?_append_right (by rw [List.length_map]; omega), List.getElem?_replicate] at q
      split at q <;> cases q
theorem fn_def {x qual : Str} {params : Arguments} {bd : List Stmt} {scope : Scope} {dvs : List V} {kws : List (Str × V)} {f : Addr} {fd : FuncData} {N ps : List Str} {k : Nat} {b : SM} (F : FunD K x qual params bd scope dvs kws f fd) (sc : FnScope N ps scope)
    (hb : ∀ (cdv : Value) (A : Around) (outer : List Env) (s : Shared) (H : Hp) (E : XK), Room k (A.deeper (PyProof.Rows.envOfC qual scope s.heap.objs.size f cdv)) →
      PSs (cxOf (L2.CX P w) P w K mg base N qual scope f cdv A outer s H E) bd (tS K ad JT (fun c d _ H => E c d H) b)) :
    FnOk P w K mg base (L2.CX P w) (k + 1) f fd ps (spM K ad ps.length (runF N.length b)) := by
  have hpl : ps.length ≤ N.length := by have := congrArg List.length sc.pre; rw [List.length_take] at this; omega
  refine F.ok sc (fun vs H Q E h => ?_) (fun cdv A outer s H vs Q E hr h => ?_)
  · obtain ⟨S, r, O, ds, hl, _, hp, _⟩ := h
    rw [hp.length, hl]
  · refine ⟨_, hb cdv A outer s H E hr, ?_⟩
    obtain ⟨S, r, O, ds, hl, rs, hp, p⟩ := h
    refine ⟨S, r, _, O, trivial, start_rl (by rw [hp.length, hl]; exact hpl) hp, rs, ?_⟩
    unfold runF at p
    generalize b (ds.map some ++ List.replicate (N.length - ds.length) none) O = z at p
    cases z with
    | next L O => exact fun S' r' σ H e _ _ q => p S' r' H .non e q rfl
    | ret d O => exact p
    | brk L O => exact p.elim
    | cnt L O => exact p.elim
    | exc x L O => exact fun S' r' σ H d e _ _ q g => p S' r' H d e q g
    | bad => exact p
end
end DK
end
section
set_option Elab.async false
set_option linter.all false
set_option autoImplicit false
set_option maxRecDepth 100000
set_option maxHeartbeats 4000000
/-! DKOps: operators, subscripts, built-ins, by mirrors. -/
namespace DK
open PySem L2
def newLO (h : Bool) (xs : List D) (O : Store) : Option (D × Store) := if xs.length ≤ 1000000 then (if h = true then some (.hdl O.length, O ++ [.lst xs]) else some (.lst xs, O)) else none
theorem ofO_newLO (h : Bool) (xs : List D) (O : Store) : ofO (newLO h xs O) = newL h xs O := by
  unfold newLO newL
  split
  · split <;> rfl
  · rfl
/-! ### + and others -/
def gAdd (h : Bool) : Store → D → D → Option (D × Store) := fun O x y => match x, y with
  | .int i, .int j => some (.int (i + j), O)
  | .str a, .str b => if a.length + b.length ≤ 1000000 then some (.str (a ++ b), O) else none
  | .tup a, .tup b => if a.length + b.length ≤ 1000000 then some (.tup (a ++ b), O) else none
  | _, _ => match lstOf O x, lstOf O y with
    | some a, some b => newLO h (a ++ b) O
    | _, _ => none
def gI (f : Int → Int → D) (C : Int → Int → Bool) : Store → D → D → Option (D × Store) := fun O x y => match x, y with
  | .int i, .int j => if C i j = true then some (f i j, O) else none
  | _, _ => none
def gSub := gI (fun i j => .int (i - j)) (fun _ _ => true)
def gMul := gI (fun i j => .int (i * j)) (fun i j => decide (i.natAbs.log2 + j.natAbs.log2 < 1000000))
def gFdiv := gI (fun i j => .int (i / j)) (fun _ j => decide (0 < j ∧ j.natAbs.log2 < 9000))
def gMod := gI (fun i j => .int (i % j)) (fun _ j => decide (0 < j))
def gPow := gI (fun i j => .int (i ^ j.toNat)) (fun i j => decide (0 ≤ j ∧ j ≤ 1000000 ∧ i.natAbs < 2 ^ 64))
section
variable {X : Cx} {ad : Str → Addr}
theorem catL {S : Hp} {r : Rg} {O : Store} {H : Hp} {x y : V} {d e : D} {W : WX} {σ : L2.St} {Q : VK} {h : Bool} (rs : Rs X.K ad S r O H) (px : Rp X.K S r d x) (py : Rp X.K S r e y)
    (p : Post X.K ad (fun S r => Rp X.K S r) W σ S r Q (ofO (match lstOf O d, lstOf O e with | some a, some b => newLO h (a ++ b) O | _, _ => none))) : rCat x y H Q := by
  split at p
  · rename_i a b ha hb
    obtain ⟨l, vs, rfl, q1, q2⟩ := lstOf_ok rs px ha
    obtain ⟨m, us, rfl, q3, q4⟩ := lstOf_ok rs py hb
    rw [ofO_newLO] at p
    obtain ⟨h1, h2⟩ := newL_post rs (q2.append q4) p
    exact ⟨l, m, vs, us, rfl, rfl, q1, q3, by rw [List.length_append] at h1; exact h1, h2⟩
  · exact p.elim
theorem od_add (h : Bool) : OpD X ad (binaryOp .Add) (gAdd h) where
  ok := by
    refine ⟨_, OpR.or op_add (OpR.or op_add_str (OpR.or op_catA op_cat)), ?_⟩
    intro S r O H x y d e W σ Q rs px py p
    unfold gAdd at p
    split at p
    · rename_i i j
      rw [show x = .int i from px, show y = .int j from py]
      exact .inl ⟨i, j, rfl, rfl, p S r H _ (Ext.refl _ _) rs rfl⟩
    · rename_i a b
      rw [show x = .str a from px, show y = .str b from py]
      split at p
      · rename_i hl
        exact .inr (.inl ⟨a, b, rfl, rfl, million hl, p S r H _ (Ext.refl _ _) rs rfl⟩)
      · exact p.elim
    · rename_i a b
      split at p
      · rename_i hl
        obtain ⟨l, vs, rfl, q1, q2⟩ := px
        obtain ⟨m, us, rfl, q3, q4⟩ := py
        refine .inr (.inr (.inl ⟨l, m, vs, us, rfl, rfl, sqT_same rs.sub q1, sqT_same rs.sub q3, by rw [q2.length, q4.length]; exact million hl, fun e => ?_, fun e1 e2 => ?_, fun e1 e2 => ?_⟩))
        · refine p S r H _ (Ext.refl _ _) rs ⟨m, us, rfl, q3, ?_⟩
          have q5 := q2.append q4
          rw [e] at q5
          exact q5
        · refine p S r H _ (Ext.refl _ _) rs ⟨l, vs, rfl, q1, ?_⟩
          have q5 := q2.append q4
          rw [e2, List.append_nil] at q5
          exact q5
        · exact newT_post rs (q2.append q4) p
      · exact p.elim
    · exact .inr (.inr (.inr (catL rs px py p)))
theorem od_I {bop : Value → Value → Sem Value} {f : Int → Int → V} {g : Int → Int → D} {C : Int → Int → Prop} {c : Int → Int → Bool} (ho : OpR X bop (rI C f)) (hc : ∀ i j, c i j = true → C i j) (hg : ∀ i j S r, Rp X.K S r (g i j) (f i j)) : OpD X ad bop (gI g c) where
  ok := by
    refine ⟨_, ho, ?_⟩
    intro S r O H x y d e W σ Q rs px py p
    unfold gI at p
    split at p
    · rename_i i j
      rw [show x = .int i from px, show y = .int j from py]
      split at p
      · rename_i hcc
        exact ⟨i, j, rfl, rfl, hc i j hcc, p S r H _ (Ext.refl _ _) rs (hg i j S r)⟩
      · exact p.elim
    · exact p.elim
theorem od_mul : OpD X ad (binaryOp .Mult) gMul := od_I op_mulW (fun i j h => (of_decide_eq_true h : i.natAbs.log2 + j.natAbs.log2 < 1000000)) fun _ _ _ _ => rfl
theorem od_fdiv : OpD X ad (binaryOp .FloorDiv) gFdiv := od_I op_fdivW (fun i j h => (of_decide_eq_true h : 0 < j ∧ j.natAbs.log2 < 9000)) fun _ _ _ _ => rfl
theorem od_mod : OpD X ad (binaryOp .Mod) gMod := od_I op_mod (fun i j h => of_decide_eq_true h) fun _ _ _ _ => rfl
theorem od_pow : OpD X ad (binaryOp .Pow) gPow := od_I op_pow (fun i j h => (of_decide_eq_true h : 0 ≤ j ∧ j ≤ 1000000 ∧ i.natAbs < 2 ^ 64)) fun _ _ _ _ => rfl
/-! ### comparisons -/
/-- ints, texts -/
def gCmp (f : Int → Int → Bool) (g : Str → Str → Bool) : Store → D → D → Option (D × Store) := fun O x y => match x, y with
  | .int i, .int j => some (.bl (f i j), O)
  | .str i, .str j => some (.bl (g i j), O)
  | _, _ => none
def gLt := gCmp (fun i j => decide (i < j)) (fun i j => decide (i.cps.toList < j.cps.toList))
def gLe := gCmp (fun i j => decide (i ≤ j)) (fun i j => !decide (j.cps.toList < i.cps.toList))
def gGt := gCmp (fun i j => decide (j < i)) (fun i j => decide (j.cps.toList < i.cps.toList))
def gGe := gCmp (fun i j => decide (j ≤ i)) (fun i j => !decide (i.cps.toList < j.cps.toList))
theorem od_cmp {bop : Value → Value → Sem Value} {f : Int → Int → Bool} {g : Str → Str → Bool} (h1 : OpR X bop (rI0 fun i j => .bl (f i j))) (h2 : OpR X bop (fun x y H Q => ∃ i j, x = .str i ∧ y = .str j ∧ Q (.bl (g i j)) H)) : OpD X ad bop (gCmp f g) where
  ok := by
    refine ⟨_, OpR.or h1 h2, ?_⟩
    intro S r O H x y d e W σ Q rs px py p
    unfold gCmp at p
    split at p
    · rename_i i j
      rw [show x = .int i from px, show y = .int j from py]
      exact .inl ⟨i, j, rfl, rfl, p S r H _ (Ext.refl _ _) rs rfl⟩
    · rename_i i j
      rw [show x = .str i from px, show y = .str j from py]
      exact .inr ⟨i, j, rfl, rfl, p S r H _ (Ext.refl _ _) rs rfl⟩
    · exact p.elim
theorem od_lt : OpD X ad (compareOp .Lt) gLt := od_cmp op_lt op_lt_str
theorem od_gt : OpD X ad (compareOp .Gt) gGt := od_cmp op_gt op_gt_str
theorem od_ge : OpD X ad (compareOp .GtE) gGe := od_cmp op_ge op_ge_str
/-- flat values -/
def flatOf : D → Option V
  | .non => some .non
  | .bl b => some (.bl b)
  | .int i => some (.int i)
  | .str s => some (.str s)
  | _ => none
theorem flatOf_ok {K : PySem.W.Frag} {S : Hp} {r : Rg} {d : D} {v x : V} (h : flatOf d = some v) (p : Rp K S r d x) : x = v ∧ flatV v = true := by
  cases d <;> first | (cases h; done) | (have e := Option.some.inj h; subst e; exact ⟨p, rfl⟩)
/-- a value read through, for == -/
def deep (O : Store) : Nat → D → Option PyData
  | 0, _ => none
  | n + 1, .non => some .none
  | n + 1, .bl b => some (.bool b)
  | n + 1, .int i => some (.int i)
  | n + 1, .str s => some (.str s)
  | n + 1, .lst xs => (xs.mapM (deep O n)).map .list
  | n + 1, .rol xs => (xs.mapM (deep O n)).map .list
  | n + 1, .tup xs => (xs.mapM (deep O n)).map .tuple
  | n + 1, .hdl k => match O[k]? with
    | some (.lst xs) => (xs.mapM (deep O n)).map .list
    | _ => none
theorem mapM_cons {α β : Type} {f : α → Option β} {x : α} {xs : List α} : (x :: xs).mapM f = (f x).bind fun y => (xs.mapM f).bind fun ys => some (y :: ys) := by
  simp [List.mapM_cons]
theorem deepAll_ok {K : PySem.W.Frag} {S : Hp} {r : Rg} {H : Hp} {g : D → Option PyData} (hg : ∀ d v p, Rp K S r d v → g d = some p → Dp K H v p) : ∀ {ds : List D} {vs : List V} {ps : List PyData}, RpAll K S r ds vs → ds.mapM g = some ps → DpAll K H vs ps
  | [], vs, ps, h, e => by
    rw [show vs = [] from h]
    have e : some [] = some ps := by rw [List.mapM_nil] at e; exact e
    cases e
    exact .nil
  | d :: ds, vs, ps, h, e => by
    obtain ⟨v, vr, rfl, h1, h2⟩ := h
    rw [mapM_cons] at e
    cases e1 : g d with
    | none => rw [e1] at e; cases e
    | some p =>
      rw [e1] at e
      cases e2 : ds.mapM g with
      | none =>
        rw [e2] at e
        cases e
      | some qs =>
        rw [e2] at e
        cases e
        exact .cons (hg d v p h1 e1) (deepAll_ok hg h2 e2)
theorem deep_ok {K : PySem.W.Frag} {S : Hp} {r : Rg} {O : Store} {H : Hp} (rs : Rs K ad S r O H) : ∀ (n : Nat) (d : D) (v : V) (p : PyData), Rp K S r d v → deep O n d = some p → Dp K H v p
  | 0, d, v, p, h, e => by cases e
  | n + 1, .non, v, p, h, e => by cases e; rw [show v = .non from h]; exact .non
  | n + 1, .bl b, v, p, h, e => by cases e; rw [show v = .bl b from h]; exact .bl b
  | n + 1, .int i, v, p, h, e => by cases e; rw [show v = .int i from h]; exact .int i
  | n + 1, .str s, v, p, h, e => by cases e; rw [show v = .str s from h]; exact .str s
  | n + 1, .lst xs, v, p, h, e => by
    obtain ⟨a, vs, rfl, q1, q2⟩ := h
    obtain ⟨ps, e1, rfl⟩ := Option.map_eq_some_iff.mp (show (xs.mapM (deep O n)).map .list = some p from e)
    exact .lst (.of (rs.sub _ _ q1)) (deepAll_ok (deep_ok rs n) q2 e1)
  | n + 1, .rol xs, v, p, h, e => by
    obtain ⟨a, vs, rfl, q1, q2⟩ := h
    obtain ⟨ps, e1, rfl⟩ := Option.map_eq_some_iff.mp (show (xs.mapM (deep O n)).map .list = some p from e)
    exact .lst (sqL_same rs.sub q1) (deepAll_ok (deep_ok rs n) q2 e1)
  | n + 1, .tup xs, v, p, h, e => by
    obtain ⟨a, vs, rfl, q1, q2⟩ := h
    obtain ⟨ps, e1, rfl⟩ := Option.map_eq_some_iff.mp (show (xs.mapM (deep O n)).map .tuple = some p from e)
    exact .tup (sqT_same rs.sub q1) (deepAll_ok (deep_ok rs n) q2 e1)
  | n + 1, .hdl k, v, p, h, e => by
    have e : (match O[k]? with | some (.lst xs) => (xs.mapM (deep O n)).map .list | _ => none) = some p := e
    split at e
    · rename_i xs hx
      obtain ⟨a, rfl, q1, _, vs, q3, q4⟩ := hdl_at rs h hx
      obtain ⟨ps, e1, rfl⟩ := Option.map_eq_some_iff.mp e
      exact .lst (.of q3) (deepAll_ok (deep_ok rs n) q4 e1)
    · cases e
/-- == -/
def eqD (O : Store) (x y : D) : Option Bool := match flatOf x, flatOf y with
  | some v, some u => if scal v u = true then some (decide (v = u)) else match deep O 2 x, deep O 2 y with
    | some p, some q => if SeqAt.shaped p = true ∧ SeqAt.shaped q = true then some (PyData.eqv p q) else none
    | _, _ => none
  | _, _ => match deep O 30 x, deep O 30 y with
    | some p, some q => if SeqAt.shaped p = true ∧ SeqAt.shaped q = true then some (PyData.eqv p q) else none
    | _, _ => none
def gEq : Store → D → D → Option (D × Store) := fun O x y => match eqD O x y with
  | some b => some (.bl b, O)
  | none => none
def gNe : Store → D → D → Option (D × Store) := fun O x y => match eqD O x y with
  | some b => some (.bl (!b), O)
  | none => none
theorem eqD_ok {S : Hp} {r : Rg} {O : Store} {H : Hp} {x y : V} {d e : D} {b : Bool} (rs : Rs X.K ad S r O H) (px : Rp X.K S r d x) (py : Rp X.K S r e y) (h : eqD O d e = some b) :
    (scal x y = true ∧ decide (x = y) = b) ∨ (∃ p q, Dp X.K H x p ∧ Dp X.K H y q ∧ SeqAt.shaped p = true ∧ SeqAt.shaped q = true ∧ PyData.eqv p q = b) := by
  have deepCase : ∀ n, (match deep O n d, deep O n e with | some p, some q => if SeqAt.shaped p = true ∧ SeqAt.shaped q = true then some (PyData.eqv p q) else none | _, _ => none) = some b →
      (∃ p q, Dp X.K H x p ∧ Dp X.K H y q ∧ SeqAt.shaped p = true ∧ SeqAt.shaped q = true ∧ PyData.eqv p q = b) := fun n h => by
    split at h
    · rename_i p q e1 e2
      split at h
      · rename_i hs
        exact ⟨p, q, deep_ok rs n d x p px e1, deep_ok rs n e y q py e2, hs.1, hs.2, Option.some.inj h⟩
      · cases h
    · cases h
  unfold eqD at h
  split at h
  · rename_i v u e1 e2
    split at h
    · rename_i hs
      obtain ⟨rfl, _⟩ := flatOf_ok e1 px
      obtain ⟨rfl, _⟩ := flatOf_ok e2 py
      exact .inl ⟨hs, Option.some.inj h⟩
    · exact .inr (deepCase 2 h)
  · exact .inr (deepCase 30 h)
theorem od_eq (hu : X.A.units + 64 < cLine) : OpD X ad (compareOp .Eq) gEq where
  ok := by
    refine ⟨_, OpR.or op_eq (op_eqD hu), ?_⟩
    intro S r O H x y d e W σ Q rs px py p
    unfold gEq at p
    split at p
    · rename_i b hb
      have q := p S r H (.bl b) (Ext.refl _ _) rs rfl
      rcases eqD_ok rs px py hb with ⟨h1, h2⟩ | ⟨p1, p2, h1, h2, h3, h4, h5⟩
      · exact .inl ⟨h1, by rw [h2]; exact q⟩
      · exact .inr ⟨p1, p2, h1, h2, h3, h4, by rw [h5]; exact q⟩
    · exact p.elim
theorem od_ne (hu : X.A.units + 64 < cLine) : OpD X ad (compareOp .NotEq) gNe where
  ok := by
    refine ⟨_, OpR.or op_ne (op_neD hu), ?_⟩
    intro S r O H x y d e W σ Q rs px py p
    unfold gNe at p
    split at p
    · rename_i b hb
      have q := p S r H (.bl (!b)) (Ext.refl _ _) rs rfl
      rcases eqD_ok rs px py hb with ⟨h1, h2⟩ | ⟨p1, p2, h1, h2, h3, h4, h5⟩
      · exact .inl ⟨h1, by rw [h2]; exact q⟩
      · exact .inr ⟨p1, p2, h1, h2, h3, h4, by rw [h5]; exact q⟩
    · exact p.elim
def isNon : D → Bool
  | .non => true
  | _ => false
def gIs : Store → D → D → Option (D × Store) := fun O x y => match y with
  | .non => some (.bl (isNon x), O)
  | _ => none
def gIsNot : Store → D → D → Option (D × Store) := fun O x y => match y with
  | .non => some (.bl (!isNon x), O)
  | _ => none
end
/-! ### subscripts -/
/-- xs[i], t[i], s[i] -/
def gIx : Store → D → D → Option (D × Store) := fun O x y => match y with
  | .int i => match x with
    | .str s => if s.length ≤ 1000000 then (match atI s.cps.toList i with
      | some c => some (.str ⟨#[c]⟩, O)
      | none => none) else none
    | _ => match seqOf O x with
      | some ds => match atI ds i with
        | some d => some (d, O)
        | none => none
      | none => none
  | _ => none
section
variable {X : Cx} {ad : Str → Addr} {J : JP} {W : WX} {pos p2 : Pos} {a b e : Expr} {ma mb : EM}
theorem atI_rp {K : PySem.W.Frag} {S : Hp} {r : Rg} {ds : List D} {vs : List V} {i : Int} {d : D} (h : RpAll K S r ds vs) (e : atI ds i = some d) : ∃ v, atI vs i = some v ∧ Rp K S r d v := by
  unfold atI at e ⊢
  rw [h.length]
  cases hj : ixN ds.length i with
  | none => rw [hj] at e; cases e
  | some j =>
    rw [hj] at e
    exact h.get e
theorem de_ix (ha : PE X a (tE X.K ad J W ma)) (hb : PE X b (tE X.K ad J W mb)) (hs : PlainIx b) : PE X (.Subscript a b pos) (tE X.K ad J W (mOp gIx ma mb)) := by
  refine pe_imp (pe_ix ix_seq ha hb hs) ?_
  rintro σ H Q ⟨S, r, L, O, j, rl, rs, p⟩
  refine ⟨S, r, L, O, j, rl, rs, (Post.bind p).imp ?_⟩
  rintro x H1 ⟨S1, r1, d, O1, e1, s1, p1, q1⟩
  refine ⟨S1, r1, L, O1, J.mono e1.s j, rl.mono e1, s1, (Post.bind q1).imp ?_⟩
  rintro y H2 ⟨S2, r2, e, O2, e2, s2, p2, q2⟩
  replace p1 := Rp.mono e2 d x p1
  replace q2 : Post X.K ad (fun S r => Rp X.K S r) W σ S2 r2 Q (ofO (gIx O2 d e)) := q2
  unfold gIx at q2
  split at q2
  · rename_i i
    rw [show y = .int i from p2]
    split at q2
    · rename_i s
      rw [show x = .str s from p1]
      split at q2
      · rename_i hl
        split at q2
        · rename_i c hc
          exact .inr (.inr ⟨s, i, c, rfl, rfl, million hl, hc, q2 S2 r2 H2 _ (Ext.refl _ _) s2 rfl⟩)
        · exact q2.elim
      · exact q2.elim
    · split at q2
      · rename_i ds hds
        split at q2
        · rename_i z hz
          obtain ⟨l, vs, rfl, h1, h2⟩ := seqOf_ok s2 p1 hds
          obtain ⟨v, hv, pv⟩ := atI_rp h2 hz
          have q := q2 S2 r2 H2 v (Ext.refl _ _) s2 pv
          rcases h1 with h1 | h1
          · exact .inl ⟨l, vs, i, v, rfl, rfl, h1, hv, q⟩
          · exact .inr (.inl ⟨l, vs, i, v, rfl, rfl, h1, hv, q⟩)
        · exact q2.elim
      · exact q2.elim
  · exact q2.elim
end
/-- lists alone -/
def lsqOf (O : Store) : D → Option (List D)
  | .lst xs => some xs
  | .rol xs => some xs
  | .hdl n => match O[n]? with
    | some (.lst xs) => some xs
    | _ => none
  | _ => none
theorem lsqOf_ok {K : PySem.W.Frag} {ad : Str → Addr} {S : Hp} {r : Rg} {O : Store} {H : Hp} {d : D} {x : V} {xs : List D} (s : Rs K ad S r O H) (p : Rp K S r d x) (h : lsqOf O d = some xs) : ∃ a vs, x = .ref a ∧ SqL K H a vs ∧ RpAll K S r xs vs := by
  cases d with
  | lst ds =>
    obtain rfl : ds = xs := Option.some.inj h
    obtain ⟨a, vs, e, q, w⟩ := p
    exact ⟨a, vs, e, .of (s.sub _ _ q), w⟩
  | rol ds =>
    obtain rfl : ds = xs := Option.some.inj h
    obtain ⟨a, vs, e, q, w⟩ := p
    exact ⟨a, vs, e, sqL_same s.sub q, w⟩
  | tup ds => cases h
  | hdl n =>
    replace h : (match O[n]? with | some (Ob.lst xs) => some xs | _ => none) = some xs := h
    split at h
    · rename_i zs e
      obtain rfl : zs = xs := Option.some.inj h
      obtain ⟨a, e1, e2, _, vs, e3, e4⟩ := hdl_at s p e
      exact ⟨a, vs, e1, .of e3, e4⟩
    · cases h
  | non => cases h
  | bl b => cases h
  | int i => cases h
  | str z => cases h
/-- a slice's ends -/
abbrev OM := Loc → Store → Res (Option Int)
def oNone : OM := fun _ O => .ok none O
def oSome (m : EM) : OM := fun L O => (m L O).bind fun d O1 => match d with
  | .int i => .ok (some i) O1
  | _ => .bad
def cutD {α : Type} (xs : List α) (lo hi : Option Int) : List α := (xs.drop (HT.sIx xs.length 0 lo)).take (HT.sIx xs.length xs.length hi - HT.sIx xs.length 0 lo)
def gSl (h : Bool) (x : D) (lo hi : Option Int) (O : Store) : Res D := match x with
  | .str s => if s.length ≤ 1000000 then .ok (.str (cutS s lo hi)) O else .bad
  | .tup ds => .ok (.tup (cutD ds lo hi)) O
  | _ => match lsqOf O x with
    | some ds => newL h (cutD ds lo hi) O
    | none => .bad
def mSl (h : Bool) (m : EM) (lo hi : OM) : EM := fun L O => (m L O).bind fun x O1 => (lo L O1).bind fun i O2 => (hi L O2).bind fun j O3 => gSl h x i j O3
section
variable {X : Cx} {ad : Str → Addr} {J : JP} {W : WX} {pos p2 : Pos} {a e : Expr} {ma : EM} {lo hi : Option Expr} {ml mh : OM}
def tO (K : PySem.W.Frag) (ad : Str → Addr) (J : JP) (W : WX) (m : OM) : TO := fun σ H Q => ∃ S r L O, J.p σ S ∧ Rl K S r L σ ∧ Rs K ad S r O H ∧ Post K ad (fun _ _ a v => v = a) W σ S r Q (m L O)
theorem po_imp {t t' : TO} (h : PO X lo t) (k : ∀ σ H Q, t' σ H Q → t σ H Q) : PO X lo t' := ⟨fun pins s σ H Q I q => h.run pins s σ H Q I (k σ H Q q)⟩
theorem do_none : PO X none (tO X.K ad J W oNone) := by
  refine po_imp po_none ?_
  rintro σ H Q ⟨S, r, L, O, j, rl, rs, p⟩
  exact p S r H none (Ext.refl _ _) rs rfl
theorem do_some (he : PE X e (tE X.K ad J W ma)) : PO X (some e) (tO X.K ad J W (oSome ma)) := by
  refine po_imp (po_some he) ?_
  rintro σ H Q ⟨S, r, L, O, j, rl, rs, p⟩
  refine ⟨S, r, L, O, j, rl, rs, (Post.bind p).imp ?_⟩
  rintro x H1 ⟨S1, r1, d, O1, e1, s1, p1, q1⟩
  cases d with
  | int i => exact ⟨i, p1, q1 S1 r1 H1 _ (Ext.refl _ _) s1 rfl⟩
  | non => exact q1.elim
  | bl i => exact q1.elim
  | str s => exact q1.elim
  | lst s => exact q1.elim
  | rol s => exact q1.elim
  | tup s => exact q1.elim
  | hdl s => exact q1.elim
theorem cut_rp {K : PySem.W.Frag} {S : Hp} {r : Rg} {ds : List D} {vs : List V} (h : RpAll K S r ds vs) (lo hi : Option Int) : RpAll K S r (cutD ds lo hi) (cutV vs lo hi) := by
  unfold cutD cutV
  rw [h.length]
  exact (h.drop _).take _
theorem de_sl {hm : Bool} (ha : PE X a (tE X.K ad J W ma)) (hl : PO X lo (tO X.K ad J W ml)) (hh : PO X hi (tO X.K ad J W mh)) : PE X (.Subscript a (.Slice lo hi none p2) pos) (tE X.K ad J W (mSl hm ma ml mh)) := by
  refine pe_imp (pe_slice (SlR.or sl_list (SlR.or sl_tupA sl_str)) ha hl hh) ?_
  rintro σ H Q ⟨S, r, L, O, j, rl, rs, p⟩
  refine ⟨S, r, L, O, j, rl, rs, (Post.bind p).imp ?_⟩
  rintro x H1 ⟨S1, r1, d, O1, e1, s1, p1, q1⟩
  refine ⟨S1, r1, L, O1, J.mono e1.s j, rl.mono e1, s1, (Post.bind q1).imp ?_⟩
  rintro i H2 ⟨S2, r2, i', O2, e2, s2, rfl, q2⟩
  refine ⟨S2, r2, L, O2, J.mono (e1.trans e2).s j, rl.mono (e1.trans e2), s2, (Post.bind q2).imp ?_⟩
  rintro k H3 ⟨S3, r3, k', O3, e3, s3, rfl, q3⟩
  replace p1 := Rp.mono (e2.trans e3) d x p1
  unfold gSl at q3
  split at q3
  · rename_i s
    rw [show x = .str s from p1]
    split at q3
    · rename_i hl
      exact .inr (.inr ⟨s, rfl, million hl, q3 S3 r3 H3 _ (Ext.refl _ _) s3 rfl⟩)
    · exact q3.elim
  · rename_i ds
    obtain ⟨l, vs, rfl, h1, h2⟩ := p1
    have h3 := cut_rp h2 i k
    refine .inr (.inl ⟨l, vs, rfl, sqT_same s3.sub h1, fun ⟨z1, z2⟩ => ?_, fun _ => newT_post s3 h3 q3⟩)
    refine q3 S3 r3 H3 _ (Ext.refl _ _) s3 ⟨l, vs, rfl, h1, ?_⟩
    have e4 : cutV vs i k = vs := by
      unfold cutV
      rw [z1, z2, List.drop_zero, Nat.sub_zero, List.take_length]
    rw [e4] at h3
    exact h3
  · split at q3
    · rename_i ds hds
      obtain ⟨l, vs, rfl, h1, h2⟩ := lsqOf_ok s3 p1 hds
      exact .inl ⟨l, vs, rfl, h1, (newL_post s3 (cut_rp h2 i k) q3).2⟩
    · exact q3.elim
end
end DK
end
section
set_option Elab.async false
set_option linter.all false
set_option autoImplicit false
set_option maxRecDepth 100000
set_option maxHeartbeats 4000000
/-! DKCall: built-ins, methods, fields, objects, by mirrors. -/
namespace DK
open PySem L2
def g1 (f : Store → D → Option (D × Store)) : Store → List D → Option (D × Store) := fun O ds => match ds with
  | [d] => f O d
  | _ => none
def g2 (f : Store → D → D → Option (D × Store)) : Store → List D → Option (D × Store) := fun O ds => match ds with
  | [d, e] => f O d e
  | _ => none
/-! ### len, int, abs, str, list, .. -/
def gLen : Store → D → Option (D × Store) := fun O d => match d with
  | .str s => if s.length ≤ 1000000 then some (.int s.length, O) else none
  | .hdl n => match O[n]? with
    | some (.lst xs) => some (.int xs.length, O)
    | some (.dct xs) => some (.int xs.length, O)
    | _ => none
  | _ => match seqOf O d with
    | some xs => some (.int xs.length, O)
    | none => none
def gInt : Store → D → Option (D × Store) := fun O d => match d with
  | .int i => some (.int i, O)
  | .bl b => some (.int (if b then 1 else 0), O)
  | .str s => if s.length ≤ 640 then (match PySem.intText? s with
    | some n => some (.int n, O)
    | none => none) else none
  | _ => none
def gAbs : Store → D → Option (D × Store) := fun O d => match d with
  | .int i => some (.int (if i < 0 then -i else i), O)
  | _ => none
def gMax2 : Store → D → D → Option (D × Store) := fun O d e => match d, e with
  | .int i, .int j => some (.int (if j > i then j else i), O)
  | _, _ => none
def gMin2 : Store → D → D → Option (D × Store) := fun O d e => match d, e with
  | .int i, .int j => some (.int (if j < i then j else i), O)
  | _, _ => none
def gStr : Store → D → Option (D × Store) := fun O d => match d with
  | .int i => if i.natAbs.log2 < 1920 then some (.str (toString i), O) else none
  | .str s => some (.str s, O)
  | _ => none
def gList (h : Bool) : Store → D → Option (D × Store) := fun O d => match seqOf O d with
  | some xs => newLO h xs O
  | none => none
section
variable {X : Cx} {ad : Str → Addr}
theorem cd_1 {f : Value} {rr : List V → Hp → VK → Prop} {g : Store → D → Option (D × Store)} (hc : CallR X f rr)
    (h : ∀ (S : Hp) (r : Rg) (O : Store) (H : Hp) (x : V) (d : D) (W : WX) (σ : L2.St) (Q : VK), Rs X.K ad S r O H → Rp X.K S r d x → Post X.K ad (fun S r => Rp X.K S r) W σ S r Q (ofO (g O d)) → rr [x] H Q) : CallD X ad f (g1 g) where
  ok := by
    refine ⟨rr, hc, fun S r O H vs ds W σ Q rs p q => ?_⟩
    unfold g1 at q
    split at q
    · rename_i d
      obtain ⟨v, vr, rfl, h1, rfl⟩ := p
      exact h S r O H v d W σ Q rs h1 q
    · exact q.elim
theorem cd_len : CallD X ad (.builtin "len") (g1 gLen) := cd_1 (CallR.or call_len call_lenD) fun S r O H x d W σ Q rs p q => by
  have seqCase : ∀ {xs : List D}, seqOf O d = some xs → Post X.K ad (fun S r => Rp X.K S r) W σ S r Q (ofO (some (D.int xs.length, O))) → ((∃ y n, [x] = [y] ∧ LenV X.K y H n ∧ Q (.int n) H) ∨ (∃ a kvs, [x] = [V.ref a] ∧ H a = some (.dK kvs) ∧ Q (.int kvs.length) H)) := fun {xs} e q => by
    obtain ⟨a, vs, rfl, h1, h2⟩ := seqOf_ok rs p e
    refine .inl ⟨_, vs.length, rfl, ?_, by rw [h2.length]; exact q S r H _ (Ext.refl _ _) rs rfl⟩
    rcases h1 with h1 | h1
    · exact .inl ⟨vs, h1, rfl⟩
    · exact .inr ⟨vs, h1, rfl⟩
  unfold gLen at q
  split at q
  · rename_i s
    rw [show x = .str s from p]
    split at q
    · rename_i hl
      exact .inl ⟨_, s.length, rfl, ⟨million hl, rfl⟩, q S r H _ (Ext.refl _ _) rs rfl⟩
    · exact q.elim
  · rename_i n
    split at q
    · rename_i xs hx
      refine seqCase ?_ q
      show (match O[n]? with | some (Ob.lst xs) => some xs | _ => none) = some xs
      rw [hx]
    · rename_i xs hx
      obtain ⟨a, rfl, h1, _, vs, h2, h3⟩ := hdl_at rs p hx
      have hl : ∀ {ks : List (Key × D)} {us : List (Key × V)}, RpP X.K S r ks us → us.length = ks.length := fun {ks} => by
        induction ks with
        | nil => intro us h; rw [show us = [] from h]; rfl
        | cons k ks ih => intro us h; obtain ⟨_, _, rfl, _, h⟩ := h; rw [List.length_cons, List.length_cons, ih h]
      exact .inr ⟨a, vs, rfl, h2, by rw [hl h3]; exact q S r H _ (Ext.refl _ _) rs rfl⟩
    · exact q.elim
  · split at q
    · rename_i xs hx
      exact seqCase hx q
    · exact q.elim
theorem cd_int : CallD X ad (.type "int") (g1 gInt) := cd_1 (CallR.or call_int1 call_int_str) fun S r O H x d W σ Q rs p q => by
  unfold gInt at q
  split at q
  · rename_i i
    rw [show x = .int i from p]
    exact .inl (.inl ⟨i, rfl, q S r H _ (Ext.refl _ _) rs rfl⟩)
  · rename_i b
    rw [show x = .bl b from p]
    exact .inl (.inr ⟨b, rfl, q S r H _ (Ext.refl _ _) rs rfl⟩)
  · rename_i s
    rw [show x = .str s from p]
    split at q
    · rename_i hl
      split at q
      · rename_i n hn
        exact .inr ⟨s, n, rfl, hn, hl, q S r H _ (Ext.refl _ _) rs rfl⟩
      · exact q.elim
    · exact q.elim
  · exact q.elim
theorem cd_abs : CallD X ad (.builtin "abs") (g1 gAbs) := cd_1 call_abs fun S r O H x d W σ Q rs p q => by
  unfold gAbs at q
  split at q
  · rename_i i
    rw [show x = .int i from p]
    exact ⟨i, rfl, q S r H _ (Ext.refl _ _) rs rfl⟩
  · exact q.elim
theorem cd_str : CallD X ad (.type "str") (g1 gStr) := cd_1 (CallR.or call_str_int SkE.call_str_str) fun S r O H x d W σ Q rs p q => by
  unfold gStr at q
  split at q
  · rename_i i
    rw [show x = .int i from p]
    split at q
    · rename_i hl
      exact .inl ⟨i, rfl, hl, q S r H _ (Ext.refl _ _) rs rfl⟩
    · exact q.elim
  · rename_i i
    rw [show x = .str i from p]
    exact .inr ⟨i, rfl, q S r H _ (Ext.refl _ _) rs rfl⟩
  · exact q.elim
end
def mNeg (m : EM) : EM := fun L O => (m L O).bind fun d O1 => match d with
  | .int i => .ok (.int (-i)) O1
  | _ => .bad
/-! ### isinstance -/
def tyD (O : Store) : D → Option String
  | .non => some "NoneType"
  | .bl _ => some "bool"
  | .int _ => some "int"
  | .str _ => some "str"
  | .lst _ => some "list"
  | .rol _ => some "list"
  | .tup _ => some "tuple"
  | .hdl n => match O[n]? with
    | some (.lst _) => some "list"
    | some (.dct _) => some "dict"
    | _ => none
/-- isinstance(x, T) -/
def mIsi (T : String) (m : EM) : EM := fun L O => (m L O).bind fun d O1 => match tyD O1 d with
  | some t => match kitB t T with
    | some b => .ok (.bl b) O1
    | none => .bad
  | none => .bad
def kitL (t : String) : List String → Option Bool
  | [] => some false
  | T :: Ts => match kitB t T with
    | some true => some true
    | some false => kitL t Ts
    | none => none
def mIsiT (Ts : List String) (m : EM) : EM := fun L O => (m L O).bind fun d O1 => match tyD O1 d with
  | some t => match kitL t Ts with
    | some b => .ok (.bl b) O1
    | none => .bad
  | none => .bad
section
variable {X : Cx} {ad : Str → Addr} {J : JP} {W : WX} {pos p p2 p3 p4 p5 : Pos} {a b e : Expr} {es : List Expr} {m : EM} {mt : AM}
theorem tyD_ok {S : Hp} {r : Rg} {O : Store} {H : Hp} {d : D} {x : V} {t : String} (rs : Rs X.K ad S r O H) (px : Rp X.K S r d x) (h : tyD O d = some t) : TyX X.K H x (.type t) := by
  cases d with
  | non => cases h; rw [show x = .non from px]; exact .base .non
  | bl b => cases h; rw [show x = .bl b from px]; exact .base (.bl b)
  | int b => cases h; rw [show x = .int b from px]; exact .base (.int b)
  | str b => cases h; rw [show x = .str b from px]; exact .base (.str b)
  | lst s =>
    cases h
    obtain ⟨a, vs, rfl, q, _⟩ := px
    exact .base (.lst (rs.sub _ _ q))
  | rol s =>
    cases h
    obtain ⟨a, vs, rfl, q, _⟩ := px
    rcases sqL_same rs.sub q with (q | ⟨o, q⟩) | ⟨o, its, n, q, c, _⟩
    · exact .base (.lst q)
    · exact .base (.frz q)
    · exact .kList q c
  | tup s =>
    cases h
    obtain ⟨a, vs, rfl, q, _⟩ := px
    rcases sqT_same rs.sub q with (q | ⟨o, q⟩) | ⟨o, its, n, q, c, _⟩
    · exact .base (.tup q)
    · exact .fTuple q
    · exact .kTuple q c
  | hdl n =>
    replace h : (match O[n]? with | some (Ob.lst _) => some "list" | some (Ob.dct _) => some "dict" | _ => none) = some t := h
    split at h
    · rename_i zs e
      cases h
      obtain ⟨a, rfl, _, _, vs, q, _⟩ := hdl_at rs px e
      exact .base (.lst q)
    · rename_i zs e
      cases h
      obtain ⟨a, rfl, _, _, vs, q, _⟩ := hdl_at rs px e
      exact .base (.dK q)
    · cases h
theorem de_isi {T : String} {x : Str} (hg : Gl X "isinstance") (hm : X.mg "isinstance" = none) (hv : bootBuiltins "isinstance" = some (.builtin "isinstance")) (hg2 : Gl X x) (hm2 : X.mg x = none) (hv2 : bootBuiltins x = some (.type T)) (he : PE X e (tE X.K ad J W m))
    (hn : x ≠ "__name__" := by decide) (hd : (x == ("__debug__" : Str)) = false := by decide)
    (hs1 : starEach (e :: [.Name x p2]) X.env = (false, eval e X.env) :: starEach [.Name x p2] X.env := by rfl) (hs2 : starEach (.Name x p2 :: []) X.env = (false, eval (.Name x p2) X.env) :: starEach [] X.env := by rfl)
    (hpl : (backTo pos (starEach [.Name x p2] X.env)).any (·.1) = false := by rfl) : PE X (.Call (.Name "isinstance" p) [e, .Name x p2] [] pos) (tE X.K ad J W (mIsi T m)) := by
  refine pe_imp (pe_callB call_isi hg hm hv (pa_cons he (pa_cons (pe_bltn (v := .ty T) hg2 hm2 hv2 rfl hn hd) pa_nil hs2) hs1) (by decide) (by decide) hs1 hpl) ?_
  rintro σ H Q ⟨S, r, L, O, j, rl, rs, q⟩
  refine ⟨S, r, L, O, j, rl, rs, (Post.bind q).imp ?_⟩
  rintro x H1 ⟨S1, r1, d, O1, e1, s1, p1, q1⟩
  split at q1
  · rename_i t ht
    split at q1
    · rename_i b hb
      exact ⟨x, .ty T, _, .type T, b, rfl, .ty T, tyD_ok s1 p1 ht, kit_ty hb, q1 S1 r1 H1 _ (Ext.refl _ _) s1 rfl⟩
    · exact q1.elim
  · exact q1.elim
theorem de_neg (ha : PE X a (tE X.K ad J W m)) : PE X (.UnaryOp .USub a pos) (tE X.K ad J W (mNeg m)) := by
  refine pe_imp (pe_un un_neg ha) ?_
  rintro σ H Q ⟨S, r, L, O, j, rl, rs, q⟩
  refine ⟨S, r, L, O, j, rl, rs, (Post.bind q).imp ?_⟩
  rintro x H1 ⟨S1, r1, d, O1, e1, s1, p1, q1⟩
  cases d with
  | int i => exact ⟨i, p1, q1 S1 r1 H1 _ (Ext.refl _ _) s1 rfl⟩
  | non => exact q1.elim
  | bl i => exact q1.elim
  | str s => exact q1.elim
  | lst s => exact q1.elim
  | rol s => exact q1.elim
  | tup s => exact q1.elim
  | hdl s => exact q1.elim
end
end DK
end
section
set_option Elab.async false
set_option linter.all false
set_option autoImplicit false
set_option maxRecDepth 100000
set_option maxHeartbeats 4000000
/-! DKObj: lists that change, objects, exceptions, comprehensions, by mirrors. -/
namespace DK
open PySem L2
/-! ### lists that change -/
/-- xs.append(e), the list one of the store -/
def mApp (m e : EM) : EM := fun L O => (m L O).bind fun x O1 => match x with
  | .hdl n => match lstOf O1 (.hdl n) with
    | some _ => (e L O1).bind fun y O2 => match lstOf O2 (.hdl n) with
      | some xs => if xs.length ≤ 1000000 then .ok .non (O2.set n (.lst (xs ++ [y]))) else .bad
      | none => .bad
    | none => .bad
  | _ => .bad
/-- o[i] = v, the list one of the store -/
def bSubL (mo mi : EM) : BM := fun d L O => match mo L O with
  | .ok (.hdl n) O1 => match mi L O1 with
    | .ok (.int i) O2 => match lstOf O2 (.hdl n) with
      | some xs => match ixN xs.length i with
        | some k => some (L, O2.set n (.lst (xs.set k d)))
        | none => none
      | none => none
    | _ => none
  | _ => none
section
variable {X : Cx} {ad : Str → Addr} {J : JP} {W : WX} {pos p p2 apos cpos : Pos} {a b e o : Expr} {es : List Expr} {m me mo mi : EM} {mt : AM}
theorem hdl_lst {S : Hp} {r : Rg} {O : Store} {H : Hp} {n : Nat} {a : Addr} {xs : List D} (rs : Rs X.K ad S r O H) (hr : r.l[n]? = some a) (h : lstOf O (.hdl n) = some xs) : S a = none ∧ ∃ vs, H a = some (.lst vs) ∧ RpAll X.K S r xs vs := by
  replace h : (match O[n]? with | some (Ob.lst xs) => some xs | _ => none) = some xs := h
  split at h
  · rename_i zs hz
    obtain rfl : zs = xs := Option.some.inj h
    exact rs.ob n a _ hr hz
  · cases h
theorem set_lst {S : Hp} {r : Rg} {O : Store} {H : Hp} {n : Nat} {a : Addr} {vs us : List V} {ys : List D} (rs : Rs X.K ad S r O H) (hr : r.l[n]? = some a) (hz : S a = none) (h : RpAll X.K S r ys us) : Rs X.K ad S r (O.set n (.lst ys)) (upd H a (.lst us)) :=
  rs.write hr hz ⟨hz, us, upd_same, h⟩
theorem de_app (hm : PE X o (tE X.K ad J W m)) (he : PE X e (tE X.K ad J W me)) (hbase : attributeBase o "append" X.env (eval o X.env) = eval o X.env := by rfl)
    (hfew : ((backTo cpos (starEach (e :: []) X.env)).all (fun x => !x.1) && (backToKw cpos (keywordEach [] X.env)).all (fun x => x.1.isSome)
      && decide ((e :: []).length + ([] : List Keyword).length + (if ([] : List Keyword).isEmpty then 0 else 1) < 30)) = true := by rfl)
    (hline : (apos.endLine == cpos.line) = true := by rfl) (hs : starEach (e :: []) X.env = (false, eval e X.env) :: starEach [] X.env := by rfl) (hplain : (backTo cpos (starEach [] X.env)).any (·.1) = false := by rfl) :
    PE X (.Call (.Attribute o "append" apos) [e] [] cpos) (tE X.K ad J W (mApp m me)) := by
  refine pe_imp (pe_bm PySem.F.plainAttrs_list PySem.F.slot_list_append PySem.F.type_list_append mt_append hm (pa_cons he pa_nil hs) hbase hfew hline hs hplain) ?_
  rintro σ H Q ⟨S, r, L, O, j, rl, rs, q⟩
  refine ⟨S, r, L, O, j, rl, rs, (Post.bind q).imp ?_⟩
  rintro x H1 ⟨S1, r1, d, O1, e1, s1, p1, q1⟩
  cases d with
  | hdl n =>
    obtain ⟨l, rfl, hl⟩ := p1
    replace q1 : Post X.K ad (fun S r => Rp X.K S r) W σ S1 r1 Q (match lstOf O1 (.hdl n) with
      | some _ => (me L O1).bind fun y O2 => match lstOf O2 (.hdl n) with
        | some xs => if xs.length ≤ 1000000 then .ok .non (O2.set n (.lst (xs ++ [y]))) else .bad
        | none => .bad
      | none => .bad) := q1
    split at q1
    · rename_i zs hz
      obtain ⟨_, vs, g1, g2⟩ := hdl_lst s1 hl hz
      refine ⟨.inl ⟨rfl, vs, .of g1⟩, S1, r1, L, O1, J.mono e1.s j, rl.mono e1, s1, (Post.bind q1).imp ?_⟩
      rintro y H2 ⟨S2, r2, d, O2, e2, s2, p2, q2⟩
      have hl2 := pre_get e2.r hl
      replace q2 : Post X.K ad (fun S r => Rp X.K S r) W σ S2 r2 Q (match lstOf O2 (.hdl n) with | some xs => if xs.length ≤ 1000000 then .ok .non (O2.set n (.lst (xs ++ [d]))) else .bad | none => .bad) := q2
      split at q2
      · rename_i xs hx
        obtain ⟨z2, us, g3, g4⟩ := hdl_lst s2 hl2 hx
        split at q2
        · rename_i hlen
          exact ⟨l, us, y, rfl, rfl, g3, by rw [g4.length]; exact million_lt hlen, q2 S2 r2 _ _ (Ext.refl _ _) (set_lst (vs := us) s2 hl2 z2 (g4.append (.cons p2 .nil))) rfl⟩
        · exact q2.elim
      · exact q2.elim
    · exact q1.elim
  | non => exact q1.elim
  | bl i => exact q1.elim
  | int i => exact q1.elim
  | str s => exact q1.elim
  | lst s => exact q1.elim
  | rol s => exact q1.elim
  | tup s => exact q1.elim
theorem dg_subL (ho : PE X o (tE X.K ad J W mo)) (hi : PE X e (tE X.K ad J W mi))
    (ha : ∀ v, assign (.Subscript o e pos) X.env v = (do
      let ov ← holding [v] (eval o X.env)
      let iv ← holding [v, ov] (eval e X.env)
      standAt pos
      holding [v, ov, iv] (setItem ov iv v)
      release [v, ov, iv] []) := by intro _; rfl) : PG X (.Subscript o e pos) (tG X.K ad J (bSubL mo mi)) := by
  refine pg_imp (pg_sub ho hi set_list ha) ?_
  rintro v σ H Q ⟨S, r, L, O, d, j, rl, rs, rp, q⟩
  refine ⟨S, r, L, O, j, rl, rs, ?_⟩
  replace q : PostB X.K ad J S r Q (match mo L O with
    | .ok (.hdl n) O1 => match mi L O1 with
      | .ok (.int i) O2 => match lstOf O2 (.hdl n) with
        | some xs => match ixN xs.length i with
          | some k => some (L, O2.set n (.lst (xs.set k d)))
          | none => none
        | none => none
      | _ => none
    | _ => none) := q
  generalize mo L O = z at q
  cases z with
  | exc x O1 => exact q.elim
  | bad => exact q.elim
  | ok y O1 =>
    intro S1 r1 H1 u e1 s1 p1
    cases y with
    | hdl n =>
      obtain ⟨l, rfl, hl⟩ := p1
      refine ⟨S1, r1, L, O1, J.mono e1.s j, rl.mono e1, s1, ?_⟩
      replace q : PostB X.K ad J S r Q (match mi L O1 with
        | .ok (.int i) O2 => match lstOf O2 (.hdl n) with
          | some xs => match ixN xs.length i with
            | some k => some (L, O2.set n (.lst (xs.set k d)))
            | none => none
          | none => none
        | _ => none) := q
      generalize mi L O1 = z at q
      cases z with
      | exc x O2 => exact q.elim
      | bad => exact q.elim
      | ok y O2 =>
        intro S2 r2 H2 u2 e2 s2 p2
        cases y with
        | int i =>
          rw [show u2 = .int i from p2]
          have hl2 := pre_get e2.r hl
          replace q : PostB X.K ad J S r Q (match lstOf O2 (.hdl n) with
            | some xs => match ixN xs.length i with
              | some k => some (L, O2.set n (.lst (xs.set k d)))
              | none => none
            | none => none) := q
          split at q
          · rename_i xs hx
            obtain ⟨z2, us, g3, g4⟩ := hdl_lst s2 hl2 hx
            split at q
            · rename_i k hk
              refine ⟨l, us, i, k, rfl, rfl, g3, by rw [g4.length]; exact hk, ?_⟩
              exact q S2 r2 σ _ (e1.trans e2) (J.mono (e1.trans e2).s j) (rl.mono (e1.trans e2)) (set_lst (vs := us) s2 hl2 z2 (g4.set k (Rp.mono (e1.trans e2) d v rp)))
            · exact q.elim
          · exact q.elim
        | non => exact q.elim
        | bl i => exact q.elim
        | hdl i => exact q.elim
        | str s => exact q.elim
        | lst s => exact q.elim
        | rol s => exact q.elim
        | tup s => exact q.elim
    | non => exact q.elim
    | bl i => exact q.elim
    | int i => exact q.elim
    | str s => exact q.elim
    | lst s => exact q.elim
    | rol s => exact q.elim
    | tup s => exact q.elim
end
/-- a, b = a list -/
def bLst (n : Nat) (c : BsM) : BM := fun d L O => match lsqOf O d with
  | some ds => if ds.length = n then c ds L O else none
  | none => none
/-! ### objects -/
def mFld (c f : Str) (m : EM) : EM := fun L O => (m L O).bind fun x O1 => match x with
  | .hdl n => match O1[n]? with
    | some (.ins c' fs) => if c' = c then (match fs.lookup f with
      | some d => .ok d O1
      | none => .bad) else .bad
    | _ => .bad
  | _ => .bad
def putD (f : Str) (d : D) : List (Str × D) → List (Str × D)
  | [] => [(f, d)]
  | (g, e) :: r => if g = f then (g, d) :: r else (g, e) :: putD f d r
/-- o.f = e : the value first -/
def sFldM (c f : Str) (mo mv : EM) : SM := fun L O => ofRes L (mv L O) fun y O1 => ofRes L (mo L O1) fun x O2 => match x with
  | .hdl n => match O2[n]? with
    | some (.ins c' fs) => if c' = c ∧ fs.length < 1000 then .next L (O2.set n (.ins c' (putD f y fs))) else .bad
    | _ => .bad
  | _ => .bad
def mMeth (c m : Str) (f : FM) (dds : List D) (mo : EM) (t : AM) : EM := fun L O => (mo L O).bind fun x O1 => match x with
  | .hdl n => match O1[n]? with
    | some (.ins c' fs) => if c' = c ∧ fs.lookup m = none then (t L O1).bind fun xs O2 => f (.hdl n :: (xs ++ dds)) O2 else .bad
    | _ => .bad
  | _ => .bad
def mMake (c : Str) (f : FM) (dds : List D) (t : AM) : EM := fun L O => (t L O).bind fun xs O1 => (f (.hdl O1.length :: (xs ++ dds)) (O1 ++ [.ins c []])).bind fun d O2 => match d with
  | .non => .ok (.hdl O1.length) O2
  | _ => .bad
section
variable {K : PySem.W.Frag} {S : Hp} {r : Rg}
theorem RpP.lookup {f : Str} : ∀ {fs : List (Str × D)} {gs : List (Str × V)} {d : D}, RpP K S r fs gs → fs.lookup f = some d → ∃ v, gs.lookup f = some v ∧ Rp K S r d v
  | [], gs, d, h, e => by cases e
  | (g, x) :: fs, gs, d, h, e => by
    obtain ⟨v, gr, rfl, h1, h2⟩ := h
    rw [List.lookup_cons] at e ⊢
    cases hb : f == g with
    | true =>
      rw [hb] at e
      cases e
      exact ⟨v, rfl, h1⟩
    | false =>
      rw [hb] at e
      exact RpP.lookup h2 e
theorem RpP.length {κ : Type} : ∀ {fs : List (κ × D)} {gs : List (κ × V)}, RpP K S r fs gs → gs.length = fs.length
  | [], gs, h => by rw [show gs = [] from h]; rfl
  | (g, x) :: fs, gs, h => by
    obtain ⟨v, gr, rfl, h1, h2⟩ := h
    rw [List.length_cons, List.length_cons, RpP.length h2]
end
end DK
end
section
set_option Elab.async false
set_option linter.all false
set_option autoImplicit false
set_option maxRecDepth 100000
set_option maxHeartbeats 4000000
/-! DKExc: raise, try, comprehensions, by mirrors. -/
namespace DK
open PySem L2
abbrev WF : WX := fun _ _ _ _ => False
theorem takesF {X : Cx} : Takes X WF := takes0
/-! ### raise, try -/
def sRaise (c : Str) (t : AM) : SM := fun L O => ofRes L (t L O) fun ds O1 => if ds.length ≤ 1000 then .exc ⟨c, none⟩ L O1 else .bad
section
variable {X : Cx} {ad : Str → Addr} {J : JP} {W : WX} {pos pos' p p2 np : Pos} {e : Expr} {es : List Expr} {mt : AM} {c : Str} {body suite : List Stmt} {b0 : Stmt} {sb : SM} {ss : Str → SM}
/-- a statement whose mirror is told by what is at hand -/
theorem pss_ex {α : Type} {st : List Stmt} {P : α → Prop} {t : α → TS} (h : ∀ x, P x → PSs X st (t x)) : PSs X st (fun En σ H => ∃ x, P x ∧ t x En σ H) := ⟨fun pins s σ H En I ⟨x, hp, q⟩ => (h x hp).run pins s σ H En I q⟩
end
/-! ### comprehensions -/
def wipeL (L : Loc) : List Nat → Loc
  | [] => L
  | v :: vs => (wipeL L vs).set v none
def lcTurn (vs : List Nat) (b : BM) (tt : TM) (el : EM) (L : Loc) (d : D) (O : Store) (acc : List D) : Option (Store × List D) := match b d (wipeL L vs) O with
  | some p => match tt p.1 p.2 with
    | .ok true O2 => match el p.1 O2 with
      | .ok y O3 => if acc.length ≤ 900000 then some (O3, acc ++ [y]) else none
      | _ => none
    | .ok false O2 => some (O2, acc)
    | _ => none
  | none => none
def lcG (nx : Nat → Store → Option (Option D)) (turn : D → Store → List D → Option (Store × List D)) : Nat → Nat → Store → List D → Option (Store × List D)
  | 0, i, O, acc => match nx i O with
    | some none => some (O, acc)
    | _ => none
  | k + 1, i, O, acc => match nx i O with
    | some none => some (O, acc)
    | some (some d) => match turn d O acc with
      | some p => lcG nx turn k (i + 1) p.1 p.2
      | none => none
    | none => none
def mYes : TM := fun _ O => .ok true O
def lcEnd (h : Bool) : Option (Store × List D) → Res D
  | some p => newL h p.2 p.1
  | none => .bad
/-- over a list -/
def mLcL (h : Bool) (src : EM) (vs : List Nat) (b : BM) (tt : TM) (el : EM) : EM := fun L O => (src L O).bind fun d O1 => match lsqOf O1 d with
  | some xs => lcEnd h (lcG (fun i O => (lsqOf O d).map (·[i]?)) (lcTurn vs b tt el L) xs.length 0 O1 [])
  | none => .bad
/-- what a block may not touch -/
def Cl (vs : List Nat) (J : JP) : Prop := ∀ (σ : L2.St) (v : V) (S : Hp) (i : Nat), i ∈ vs → J.p σ S → J.p (σ.set i (some v)) S
section
variable {X : Cx} {ad : Str → Addr} {J : JP} {W : WX} {pos p q : Pos} {a b tg elt iter : Expr} {ifs : List Expr} {m me : EM} {mt : AM} {bm : BM} {tm : TM} {own : List (Str × Nat)} {scope : Scope}
theorem wipe_rl {K : PySem.W.Frag} {S : Hp} {r : Rg} {L : Loc} {σ : L2.St} (h : Rl K S r L σ) : ∀ vs : List Nat, Rl K S r (wipeL L vs) (wipe σ vs)
  | [] => h
  | v :: vs => by
    unfold wipeL wipe
    exact (wipe_rl h vs).wipe v none
abbrev Jw (vs : List Nat) (σ0 : L2.St) : JP := ⟨fun σ _ => wipe σ vs = σ0, fun _ h => h⟩
theorem wipe_cl {σ0 : L2.St} {vs : List Nat} : Cl vs (Jw vs σ0) := fun σ v _ i hi h => by
  have key : ∀ (vs : List Nat) (σ : L2.St), i ∈ vs → wipe (σ.set i (some v)) vs = wipe σ vs := fun vs => by
    induction vs with
    | nil => intro σ hi; simp at hi
    | cons w ws ih =>
      intro σ hi
      unfold wipe
      by_cases hw : i ∈ ws
      · rw [ih σ hw]
      · have e : i = w := by
          rcases List.mem_cons.mp hi with e | e
          · exact e
          · exact absurd e hw
        subst e
        have comm : ∀ (us : List Nat) (σ : L2.St), i ∉ us → wipe (σ.set i (some v)) us = (wipe σ us).set i (some v) := fun us => by
          induction us with
          | nil => intro σ _; rfl
          | cons u us ih2 =>
            intro σ hu
            unfold wipe
            rw [ih2 σ (fun z => hu (List.mem_cons_of_mem _ z)), List.set_comm _ _ (fun z => hu (by rw [z]; exact List.mem_cons_self))]
        rw [comm ws σ hw, List.set_set]
  show wipe (σ.set i (some v)) vs = σ0
  rw [key vs σ hi]
  exact h
/-- what is told for every J that lets the block's names change -/
def tGx (K : PySem.W.Frag) (ad : Str → Addr) (vs : List Nat) (b : BM) : TG := fun v σ H Q => ∃ J', Cl vs J' ∧ tG K ad J' b v σ H Q
def tTx (K : PySem.W.Frag) (ad : Str → Addr) (vs : List Nat) (m : TM) : TT := fun σ H Q => ∃ J', Cl vs J' ∧ tT K ad J' WF m σ H Q
def tEx (K : PySem.W.Frag) (ad : Str → Addr) (vs : List Nat) (m : EM) : TE := fun σ H Q => ∃ J', Cl vs J' ∧ tE K ad J' WF m σ H Q
theorem gx_of {Y : Cx} {vs : List Nat} (h : ∀ J', Cl vs J' → PG Y tg (tG Y.K ad J' bm)) : PG Y tg (tGx Y.K ad vs bm) := ⟨fun pins s σ H v u Q I r ⟨J', hJ, z⟩ => (h J' hJ).run pins s σ H v u Q I r z⟩
theorem tx_of {Y : Cx} {vs : List Nat} (h : ∀ J', Cl vs J' → PTs Y ifs (tT Y.K ad J' WF tm)) : PTs Y ifs (tTx Y.K ad vs tm) := ⟨fun pins s σ H Q I ⟨J', hJ, z⟩ => (h J' hJ).run pins s σ H Q I z⟩
theorem ex_of {Y : Cx} {vs : List Nat} (h : ∀ J', Cl vs J' → PE Y elt (tE Y.K ad J' WF me)) : PE Y elt (tEx Y.K ad vs me) := ⟨fun pins s σ H Q I ⟨J', hJ, z⟩ => (h J' hJ).run pins s σ H Q I z⟩
theorem dts_nil {Y : Cx} : PTs Y [] (tT Y.K ad J W mYes) := ⟨fun pins s σ H Q I ⟨S, r, L, O, j, rl, rs, z⟩ => pts_nil.run pins s σ H Q I (z S r H true (Ext.refl _ _) rs rfl)⟩
theorem dts_one {Y : Cx} (h : PT Y a (tT Y.K ad J W tm)) : PTs Y [a] (tT Y.K ad J W tm) := pts_one h
/-- a comprehension's loop -/
theorem lc_post {It' : It} {nx : Nat → Store → Option (Option D)} {hm : Bool} {vs : List Nat} {S1 : Hp} {r1 : Rg} {L : Loc} {σ : L2.St} {Q : VK} {k : Nat} {O1 : Store} {H1 : Hp}
    (hgo : ∀ (i : Nat) (S : Hp) (r : Rg) (O : Store) (H : Hp) (d : D), Same S1 S → r1.l <+: r.l → Rs X.K ad S r O H → nx i O = some (some d) → It'.go i H ∧ ∀ x H', It'.yld i H x H' → H' = H ∧ Rp X.K S r d x)
    (hst : ∀ (i : Nat) (S : Hp) (r : Rg) (O : Store) (H : Hp), Same S1 S → r1.l <+: r.l → Rs X.K ad S r O H → nx i O = some none → It'.stop i H)
    (rl : Rl X.K S1 r1 L σ) (rs : Rs X.K ad S1 r1 O1 H1) (z : Post X.K ad (fun S r => Rp X.K S r) W σ S1 r1 Q (lcEnd hm (lcG nx (lcTurn vs bm tm me L) k 0 O1 []))) :
    ∀ Dn, H1 Dn = none → ∃ W' : Nat → Nat → Hp → Prop, (∃ m, W' 0 m (upd H1 Dn (.lst []))) ∧ ∀ i m H, W' i m H →
      (It'.stop i H ∧ Q (.ref Dn) H) ∨ (It'.go i H ∧ ∃ Nx : Hp → Prop, (∀ H', Nx H' → ∃ m', m' < m ∧ W' (i + 1) m' H') ∧ ∀ x H', It'.yld i H x H' → tGx X.K ad vs bm x (wipe σ vs) H' fun σ2 H2 => wipe σ2 vs = wipe σ vs ∧ tTx X.K ad vs tm σ2 H2 fun b H3 =>
        if b = true then tEx X.K ad vs me σ2 H3 fun y H4 => ∃ acc, H4 Dn = some (.lst acc) ∧ acc.length < sizeLine ∧ Nx (upd H4 Dn (.lst (acc ++ [y]))) else Nx H3) := by
  intro Dn hDn
  have hfr : r1.fr Dn = none := rs.fr.free hDn
  have ww : wipe (wipe σ vs) vs = wipe σ vs := by
    have key : ∀ (us : List Nat) (τ : L2.St), (∀ u ∈ us, ∀ w, τ[u]? = some w → w = none) → wipe τ us = τ := fun us => by
      induction us with
      | nil => intro τ _; rfl
      | cons u us ih =>
        intro τ h
        unfold wipe
        rw [ih τ fun u' hu' => h u' (List.mem_cons_of_mem _ hu')]
        refine List.ext_getElem? fun n => ?_
        by_cases hn : u = n
        · subst hn
          by_cases hl : u < τ.length
          · rw [List.getElem?_set_self hl]
            have := h u List.mem_cons_self τ[u] (List.getElem?_eq_getElem hl)
            rw [List.getElem?_eq_getElem hl, this]
          · rw [List.getElem?_eq_none (by rw [List.length_set]; omega), List.getElem?_eq_none (by omega)]
        · rw [List.getElem?_set_ne hn]
    refine key vs _ fun u hu w hw => ?_
    cases w with
    | none => rfl
    | some w => exact absurd hu (wipe_some hw).2
  refine ⟨fun i m H => ∃ S r O acc us, Same S1 S ∧ r1.l <+: r.l ∧ r.fr = r1.fr ∧ Rs X.K ad S (r.at (upd r1.fr Dn (.lst us))) O H ∧ RpAll X.K S r acc us ∧ Post X.K ad (fun S r => Rp X.K S r) W σ S1 r1 Q (lcEnd hm (lcG nx (lcTurn vs bm tm me L) m i O acc)),
    ⟨k, S1, r1, O1, [], [], Same.refl _, List.prefix_rfl, rfl, rs.hold hDn, rfl, z⟩, ?_⟩
  rintro i m H ⟨S, r, O, acc, us, es, el, ef, rs, ra, z⟩
  have fin : nx i O = some none → Post X.K ad (fun S r => Rp X.K S r) W σ S1 r1 Q (lcEnd hm (some (O, acc))) → It'.stop i H ∧ Q (.ref Dn) H := fun hn z => by
    refine ⟨hst i S (r.at (upd r1.fr Dn (.lst us))) O H es el rs hn, ?_⟩
    have rs' : Rs X.K ad S (r.at (upd r.fr Dn (.lst us))) O H := by rw [ef]; exact rs
    obtain ⟨q1, q2, q3, q4⟩ := rs'.unhold (by rw [ef]; exact hfr)
    have e0 : Ext S1 r1 S r := ⟨es, ef, el⟩
    replace z : Post X.K ad (fun S r => Rp X.K S r) W σ S1 r1 Q (newL hm acc O) := z
    unfold newL at z
    split at z
    · cases hm with
      | true =>
        rw [if_pos rfl] at z
        refine z S (r.push Dn) H _ (e0.trans (Ext.push S r Dn)) (q1.pushAt ⟨q3, us, q2, RpAll.mono (Ext.push S r Dn) _ _ ra⟩ q4 (by rw [ef]; exact hfr)) ⟨Dn, rfl, ?_⟩
        show (r.l ++ [Dn])[O.length]? = some Dn
        rw [← q1.len, List.getElem?_append_right (Nat.le_refl _)]
        simp
      | false =>
        rw [if_neg Bool.false_ne_true] at z
        exact z (upd S Dn (.lst us)) r H _ (e0.trans (Ext.new q3)) (q1.sealAt q2 q3 q4 (by rw [ef]; exact hfr)) ⟨Dn, us, rfl, upd_same, RpAll.mono (Ext.new q3) _ _ ra⟩
    · exact z.elim
  have next : ∀ m', m = m' + 1 → ∀ d, nx i O = some (some d) → Post X.K ad (fun S r => Rp X.K S r) W σ S1 r1 Q (lcEnd hm (match lcTurn vs bm tm me L d O acc with | some p => lcG nx (lcTurn vs bm tm me L) m' (i + 1) p.1 p.2 | none => none)) →
      (It'.go i H ∧ ∃ Nx : Hp → Prop, (∀ H', Nx H' → ∃ m'', m'' < m ∧ (∃ S r O acc us, Same S1 S ∧ r1.l <+: r.l ∧ r.fr = r1.fr ∧ Rs X.K ad S (r.at (upd r1.fr Dn (.lst us))) O H' ∧ RpAll X.K S r acc us ∧ Post X.K ad (fun S r => Rp X.K S r) W σ S1 r1 Q (lcEnd hm (lcG nx (lcTurn vs bm tm me L) m'' (i + 1) O acc)))) ∧
        ∀ x H', It'.yld i H x H' → tGx X.K ad vs bm x (wipe σ vs) H' fun σ2 H2 => wipe σ2 vs = wipe σ vs ∧ tTx X.K ad vs tm σ2 H2 fun b H3 =>
          if b = true then tEx X.K ad vs me σ2 H3 fun y H4 => ∃ acc, H4 Dn = some (.lst acc) ∧ acc.length < sizeLine ∧ Nx (upd H4 Dn (.lst (acc ++ [y]))) else Nx H3) := by
    intro m' hm' d hd z
    obtain ⟨g1, g2⟩ := hgo i S (r.at (upd r1.fr Dn (.lst us))) O H d es el rs hd
    refine ⟨g1, _, fun H' hN => ⟨m', by omega, hN⟩, fun x H' hy => ?_⟩
    obtain ⟨rfl, px⟩ := g2 x H' hy
    let rr := r.at (upd r1.fr Dn (.lst us))
    have rlw : Rl X.K S rr (wipeL L vs) (wipe σ vs) := ⟨(wipe_rl rl vs).len, fun n d hn => by
      obtain ⟨v, q1, q2⟩ := (wipe_rl rl vs).at_ n d hn
      exact ⟨v, q1, Rp.monoW (r' := rr) es el d v q2⟩⟩
    refine ⟨Jw vs (wipe σ vs), wipe_cl, S, rr, wipeL L vs, O, d, ww, rlw, rs, px, ?_⟩
    unfold lcTurn at z
    generalize bm d (wipeL L vs) O = w at z
    cases w with
    | none => exact z.elim
    | some w =>
      intro S2 r2 σ2 H2 e2 j2 l2 s2
      refine ⟨j2, Jw vs (wipe σ vs), wipe_cl, S2, r2, w.1, w.2, j2, l2, s2, ?_⟩
      replace z : Post X.K ad (fun S r => Rp X.K S r) W σ S1 r1 Q (lcEnd hm (match (match tm w.1 w.2 with
        | .ok true O2 => match me w.1 O2 with
          | .ok y O3 => if acc.length ≤ 900000 then some (O3, acc ++ [y]) else none
          | _ => none
        | .ok false O2 => some (O2, acc)
        | _ => none) with | some p => lcG nx (lcTurn vs bm tm me L) m' (i + 1) p.1 p.2 | none => none)) := z
      generalize tm w.1 w.2 = t at z
      cases t with
      | exc x O3 => exact z.elim
      | bad => exact z.elim
      | ok k O3 =>
        intro S3 r3 H3 k' e3 s3 ek
        obtain rfl : k' = k := ek
        cases k' with
        | false =>
          rw [if_neg Bool.false_ne_true]
          have e23 := e2.trans e3
          have hr3 : r3 = (r3.at r1.fr).at (upd r1.fr Dn (.lst us)) := by
            obtain ⟨l3, f3⟩ := r3
            have : f3 = upd r1.fr Dn (.lst us) := e23.f
            subst this
            rfl
          rw [hr3] at s3
          exact ⟨S3, r3.at r1.fr, O3, acc, us, es.trans e23.s, List.IsPrefix.trans el e23.r, rfl, s3, RpAll.monoW (r := r) (r' := r3.at r1.fr) e23.s e23.r _ _ ra, z⟩
        | true =>
          rw [if_pos rfl]
          refine ⟨Jw vs (wipe σ vs), wipe_cl, S3, r3, w.1, O3, j2, l2.mono e3, s3, ?_⟩
          replace z : Post X.K ad (fun S r => Rp X.K S r) W σ S1 r1 Q (lcEnd hm (match (match me w.1 O3 with
            | .ok y O3 => if acc.length ≤ 900000 then some (O3, acc ++ [y]) else none
            | _ => none) with | some p => lcG nx (lcTurn vs bm tm me L) m' (i + 1) p.1 p.2 | none => none)) := z
          generalize me w.1 O3 = t at z
          cases t with
          | exc x O3 => exact z.elim
          | bad => exact z.elim
          | ok y O4 =>
            intro S4 r4 H4 v e4 s4 pv
            have e24 := (e2.trans e3).trans e4
            have hr4 : r4 = (r4.at r1.fr).at (upd r1.fr Dn (.lst us)) := by
              obtain ⟨l4, f4⟩ := r4
              have : f4 = upd r1.fr Dn (.lst us) := e24.f
              subst this
              rfl
            rw [hr4] at s4
            replace z : Post X.K ad (fun S r => Rp X.K S r) W σ S1 r1 Q (lcEnd hm (match (if acc.length ≤ 900000 then some (O4, acc ++ [y]) else none) with | some p => lcG nx (lcTurn vs bm tm me L) m' (i + 1) p.1 p.2 | none => none)) := z
            split at z
            · rename_i hacc
              split at hacc
              · rename_i hlen
                cases hacc
                refine ⟨us, s4.fr Dn _ upd_same, by rw [ra.length]; exact million_lt (by omega), S4, r4.at r1.fr, O4, acc ++ [y], us ++ [v], es.trans e24.s, List.IsPrefix.trans el e24.r, rfl, s4.rehold, ?_, z⟩
                exact (RpAll.monoW (r := r) (r' := r4.at r1.fr) e24.s e24.r _ _ ra).append (.cons (Rp.monoW (r := r4) (r' := r4.at r1.fr) (Same.refl _) List.prefix_rfl _ _ pv) .nil)
              · cases hacc
            · exact z.elim
  cases hn : nx i O with
  | none =>
    have e : lcG nx (lcTurn vs bm tm me L) m i O acc = none := by
      cases m with
      | zero => unfold lcG; rw [hn]
      | succ m => unfold lcG; rw [hn]
    rw [e] at z
    exact z.elim
  | some o =>
    cases o with
    | none =>
      have e : lcG nx (lcTurn vs bm tm me L) m i O acc = some (O, acc) := by
        cases m with
        | zero => unfold lcG; rw [hn]
        | succ m => unfold lcG; rw [hn]
      rw [e] at z
      exact .inl (fin hn z)
    | some d =>
      cases m with
      | zero =>
        have e : lcG nx (lcTurn vs bm tm me L) 0 i O acc = none := by unfold lcG; rw [hn]
        rw [e] at z
        exact z.elim
      | succ m =>
        have e : lcG nx (lcTurn vs bm tm me L) (m + 1) i O acc = (match lcTurn vs bm tm me L d O acc with | some p => lcG nx (lcTurn vs bm tm me L) m (i + 1) p.1 p.2 | none => none) := by
          show (match nx i O with | some none => some (O, acc) | some (some d) => (match lcTurn vs bm tm me L d O acc with | some p => lcG nx (lcTurn vs bm tm me L) m (i + 1) p.1 p.2 | none => none) | none => none) = _
          rw [hn]
        rw [e] at z
        exact .inr (next m rfl d hn z)
theorem lcL_imp {hm : Bool} : ∀ σ H Q, (tE X.K ad J W (mLcL hm m (own.map (·.2)) bm tm me)) σ H Q → tLc (iList X.K (tE X.K ad J W m)) (tGx X.K ad (own.map (·.2)) bm) (tTx X.K ad (own.map (·.2)) tm) (tEx X.K ad (own.map (·.2)) me) (own.map (·.2)) σ H Q := by
  rintro σ H Q ⟨S, r, L, O, j, rl, rs, z⟩
  refine ⟨S, r, L, O, j, rl, rs, (Post.bind z).imp ?_⟩
  rintro x H1 ⟨S1, r1, d, O1, e1, s1, p1, q1⟩
  replace q1 : Post X.K ad (fun S r => Rp X.K S r) W σ S1 r1 Q (match lsqOf O1 d with
    | some xs => lcEnd hm (lcG (fun i O => (lsqOf O d).map (·[i]?)) (lcTurn (own.map (·.2)) bm tm me L) xs.length 0 O1 [])
    | none => .bad) := q1
  split at q1
  · rename_i xs hx
    obtain ⟨a, vs, rfl, h1, h2⟩ := lsqOf_ok s1 p1 hx
    refine ⟨a, rfl, ⟨vs, h1⟩, lc_post (fun i S r O H d' es el rs hn => ?_) (fun i S r O H es el rs hn => ?_) (rl.mono e1) s1 q1⟩
    · obtain ⟨ys, hy, e⟩ := Option.map_eq_some_iff.mp (show (lsqOf O d).map (·[i]?) = some (some d') from hn)
      obtain ⟨a', us, ea, g1, g2⟩ := lsqOf_ok rs (Rp.monoW es el d _ p1) hy
      cases ea
      obtain ⟨v, hv, pv⟩ := g2.get e
      exact ⟨⟨us, v, g1, hv⟩, fun x H' hyy => ⟨hyy.1, by rw [Option.some.inj ((hyy.2 us g1).symm.trans hv)]; exact pv⟩⟩
    · obtain ⟨ys, hy, e⟩ := Option.map_eq_some_iff.mp (show (lsqOf O d).map (·[i]?) = some none from hn)
      obtain ⟨a', us, ea, g1, g2⟩ := lsqOf_ok rs (Rp.monoW es el d _ p1) hy
      cases ea
      exact ⟨us, g1, by rw [g2.length]; exact List.getElem?_eq_none_iff.mp e⟩
  · exact q1.elim
theorem de_lcL {hm : Bool} (hc : X.calm = true) (hN : X.N.Nodup) (hi : PE X iter (tE X.K ad J W m)) (ok : BlkOk X.N X.env.scope scope own)
    (hg : ∀ (s : Shared) (H : Hp) (C : Addr) (cl : List (Str × Addr)) (fp : List Addr) (J' : JP), Cl (own.map (·.2)) J' → PG (X.blk s H scope (PySem.compEnvC scope cl C X.env) fp) tg (tG X.K ad J' bm))
    (ht : ∀ (s : Shared) (H : Hp) (C : Addr) (cl : List (Str × Addr)) (fp : List Addr) (J' : JP), Cl (own.map (·.2)) J' → PTs (X.blk s H scope (PySem.compEnvC scope cl C X.env) fp) ifs (tT X.K ad J' WF tm))
    (he : ∀ (s : Shared) (H : Hp) (C : Addr) (cl : List (Str × Addr)) (fp : List Addr) (J' : JP), Cl (own.map (·.2)) J' → PE (X.blk s H scope (PySem.compEnvC scope cl C X.env) fp) elt (tE X.K ad J' WF me)) (hs : ∀ x, foldedSetIterable iter X.env x = pure x := by intro _; rfl) :
    PE X (.ListComp elt [⟨tg, iter, ifs, 0⟩] scope pos) (tE X.K ad J W (mLcL hm m (own.map (·.2)) bm tm me)) :=
  pe_imp (pe_lc hc hN (pi_list hi) ok (g := tGx X.K ad (own.map (·.2)) bm) (tt := tTx X.K ad (own.map (·.2)) tm) (te := tEx X.K ad (own.map (·.2)) me) (fun s H C cl fp => gx_of (hg s H C cl fp)) (fun s H C cl fp => tx_of (ht s H C cl fp)) (fun s H C cl fp => ex_of (he s H C cl fp)) hs) lcL_imp
end
end DK
end
section
set_option Elab.async false
set_option linter.all false
set_option autoImplicit false
set_option maxRecDepth 100000
set_option maxHeartbeats 4000000
/-! DKHead: facts of the head by names, a def's datum, the law's own end. -/
namespace DK
open PySem L2
/-! ### more facts -/
/-- these values are these texts -/
def strsB : List Value → List Str → Bool
  | [], [] => true
  | .str a _ :: vs, b :: bs => decide (a = b) && strsB vs bs
  | _, _ => false
/-- a tuple of texts of the module -/
def tupB (K : PySem.W.Frag) (a : Addr) (xs : List Str) : Bool := match K.lookup a with
  | some o => (o.cls == .type "tuple") && (match o.data with
    | .seq its _ => decide (its.size ≤ sizeLine) && strsB its.toList xs
    | _ => false)
  | none => false
inductive Fx where
  | exc (x : Str)
  | kitR (x y : Str) (b : Bool)
  | kitT (x : Str) (T : String) (b : Bool)
  | own (x : Str)
  | tupS (x : Str) (xs : List Str)
  | tupD (x : Str)
def Fx.ok (K : PySem.W.Frag) : Fx → Bool
  | .exc x => (decide (PySem.W.findIn K (.ref (He.ga K x)) "__getattribute__" = some (some (.builtin "BaseException.__getattribute__")) ∧ PySem.W.findIn K (.ref (He.ga K x)) "__getattr__" = some none ∧ PySem.W.subIn K (.ref (He.ga K x)) (.type "BaseException") = some true ∧ PySem.W.hasDictIn K (He.ga K x) = true ∧ PySem.W.findIn K (.ref (He.ga K x)) "__class__" = some (some (.builtin "object.__class__"))
      ∧ PySem.W.specialIn K (.builtin "object.__class__") "__get__" = some (some (.builtin "getset_descriptor.__get__")) ∧ PySem.W.takesIn K (.builtin "object.__class__") = some true ∧ PySem.W.mroIn K (He.ga K x) (.type "object") = some true))
  | .kitR x y b => decide (PySem.W.kitOne K (.ref (He.ga K x)) (.ref (He.ga K y)) = some b)
  | .kitT x T b => decide (PySem.W.kitOne K (.ref (He.ga K x)) (.type T) = some b)
  | .own x => decide (PySem.W.findIn K (.ref (He.ga K x)) "__class__" = some (some (.builtin "object.__class__")) ∧ PySem.W.specialIn K (.builtin "object.__class__") "__get__" = some (some (.builtin "getset_descriptor.__get__"))
      ∧ PySem.W.takesIn K (.builtin "object.__class__") = some true ∧ PySem.W.mroIn K (He.ga K x) (.type "object") = some true ∧ PySem.W.kitOne K (.ref (He.ga K x)) (.ref (He.ga K x)) = some true ∧ PySem.W.kitOne K (.type "int") (.ref (He.ga K x)) = some false)
  | .tupS x xs => tupB K (He.ga K x) xs
  | .tupD x => (match K.lookup (He.ga K x) with
    | some o => (o.cls == .type "tuple") && o.dict.isNone
    | none => false)
theorem fx_exc {K : PySem.W.Frag} {x : Str} (h : (Fx.exc x).ok K = true) : ExcC K (He.ga K x) := by
  obtain ⟨h1, h2, h3, h4, h5, h6, h7, h8⟩ := of_decide_eq_true h
  exact ⟨h1, h2, h3, h4, h5, h6, h7, h8⟩
theorem fx_kitR {K : PySem.W.Frag} {x y : Str} {b : Bool} (h : (Fx.kitR x y b).ok K = true) : PySem.W.kitOne K (.ref (He.ga K x)) (.ref (He.ga K y)) = some b := of_decide_eq_true h
def allFx (fx : List Fx) (K : PySem.W.Frag) : Bool := fx.all fun f => f.ok K
theorem fx_at {fx : List Fx} {K : PySem.W.Frag} (c : allFx fx K = true) (i : Nat) {f : Fx} (h : fx[i]? = some f := by rfl) : f.ok K = true := List.all_eq_true.mp c f (List.mem_of_getElem? h)
/-- what the head tells of K -/
structure Knows (fa : List He.Fa) (fn : List He.DefD) (fx : List Fx) (K : PySem.W.Frag) (mg : Str → Option Value) : Prop where
  c : He.SaysD fa fn K
  x : allFx fx K = true
  h : ∃ h : Heap, K.In h ∧ h.Ns mainGlobals mg
section
variable {fa : List He.Fa} {fn : List He.DefD} {fx : List Fx} {K : PySem.W.Frag} {mg : Str → Option Value} (k : Knows fa fn fx K mg)
include k
theorem Knows.glo (i : Nat) {x : Str} (e : fa[i]? = some (.glo x) := by rfl) : mg x = some (.ref (He.ga K x)) := by
  obtain ⟨h, X, G⟩ := k.h
  exact He.glo_ok X G (k.c.fact i e)
theorem Knows.free (i : Nat) {x : Str} (e : fa[i]? = some (.free x) := by rfl) : mg x = none := by
  obtain ⟨h, X, G⟩ := k.h
  exact He.free_ok X G (k.c.fact i e)
theorem Knows.int (i : Nat) {x : Str} {z : Int} (e : fa[i]? = some (.int x z) := by rfl) : ∃ t, mg x = some (.int z t) := by
  obtain ⟨h, X, G⟩ := k.h
  exact He.int_ok X G (k.c.fact i e)
theorem Knows.str (i : Nat) {x z : Str} (e : fa[i]? = some (.str x z) := by rfl) : ∃ t, mg x = some (.str z t) := by
  obtain ⟨h, X, G⟩ := k.h
  exact He.str_ok X G (k.c.fact i e)
theorem Knows.cls (i : Nat) {x : Str} (e : fa[i]? = some (.cls x) := by rfl) : Cls K (He.ga K x) := He.cls_ok (k.c.fact i e)
theorem Knows.noat (i : Nat) {x f : Str} (e : fa[i]? = some (.noat x f) := by rfl) : NoAttr K (He.ga K x) f := He.noat_ok (k.c.fact i e)
theorem Knows.exc (i : Nat) {x : Str} (e : fa[i]? = some (.exc x) := by rfl) : PySem.W.excIn K (He.ga K x) He.veBase "ValueError.__new__" = true ∧ PySem.W.keepIn K (.ref (He.ga K x)) = true ∧ PySem.W.subIn K (.ref (He.ga K x)) (.type "BaseException") = some true ∧ PySem.W.typeIn K (.ref (He.ga K x)) = some (.type "type") := He.exc_ok (k.c.fact i e)
theorem Knows.exm (i : Nat) {x y : Str} {b : Bool} (e : fa[i]? = some (.exm x y b) := by rfl) : PySem.W.exmOne K (.ref (He.ga K x)) (.ref (He.ga K y)) = some b := He.exm_ok (k.c.fact i e)
end
/-- a def that the mirror tells -/
def Has (P : Program) (w : World) (K : PySem.W.Frag) (mg : Str → Option Value) (base : Heap) (k : Nat) (d : He.DefD) (ps : List Str) (fm : FM) : Prop :=
  ∃ fd, FunD K d.name d.qual d.params d.body d.scope (d.dvs K) (d.kws K) (He.fAd K d.at_) fd ∧ FnOk P w K mg base (L2.CX P w) k (He.fAd K d.at_) fd ps (spM K (He.ga K) ps.length fm)
section
variable {P : Program} {w : World} {K : PySem.W.Frag} {mg : Str → Option Value} {base : Heap} {d : He.DefD} {ps N : List Str} {fm : FM} {b : SM}
theorem has_def {k : Nat} (c : ∃ fd, FunD K d.name d.qual d.params d.body d.scope (d.dvs K) (d.kws K) (He.fAd K d.at_) fd) (sc : FnScope N ps d.scope)
    (hb : ∀ (f : Addr) (cdv : Value) (A : Around) (outer : List Env) (s : Shared) (H : Hp) (E : XK), Room k (A.deeper (PyProof.Rows.envOfC d.qual d.scope s.heap.objs.size f cdv)) →
      PSs (cxOf (L2.CX P w) P w K mg base N d.qual d.scope f cdv A outer s H E) d.body (tS K (He.ga K) JT (fun c d _ H => E c d H) b)) :
    Has P w K mg base (k + 1) d ps (runF N.length b) := by
  obtain ⟨fd, F⟩ := c
  exact ⟨fd, F, fn_def F sc fun cdv A outer s H E hr => hb _ cdv A outer s H E hr⟩
end
/-! ### the law's def: nothing is let out -/
section
variable {P : Program} {w : World} {K : PySem.W.Frag} {mg : Str → Option Value} {base : Heap} {ad : Str → Addr}
/-- the promise: the law gives True -/
def spLaw (K : PySem.W.Frag) (m : FM) : Sp := fun vs H Q _ => ∃ (a : Addr) (ns : List Int), vs = [.ref a] ∧ SqL K H a (ns.map V.int) ∧ ns.length ≤ 63 ∧ (∃ O, m [.rol (ns.map D.int)] [] = .ok (.bl true) O) ∧ ∀ H', Q (.bl true) H'
theorem ints_rp {S : Hp} {r : Rg} : ∀ ns : List Int, RpAll K S r (ns.map D.int) (ns.map V.int)
  | [] => rfl
  | n :: ns => ⟨_, _, rfl, rfl, ints_rp ns⟩
theorem law_def {x qual : Str} {params : Arguments} {bd : List Stmt} {scope : Scope} {f : Addr} {fd : FuncData} {N : List Str} {k : Nat} {b : SM} {y : Str} (F : FunD K x qual params bd scope [] [] f fd) (sc : FnScope N [y] scope)
    (hb : ∀ (cdv : Value) (A : Around) (outer : List Env) (s : Shared) (H : Hp) (E : XK), Room k (A.deeper (PyProof.Rows.envOfC qual scope s.heap.objs.size f cdv)) →
      PSs (cxOf CX0 P w K mg base N qual scope f cdv A outer s H E) bd (tS K ad JT WF b)) :
    FnOk P w K mg base CX0 (k + 1) f fd [y] (spLaw K (runF N.length b)) := by
  have hpl : 1 ≤ N.length := by have := congrArg List.length sc.pre; rw [List.length_take] at this; simp at this; omega
  refine F.ok sc (fun vs H Q E h => ?_) (fun cdv A outer s H vs Q E hr h => ?_)
  · obtain ⟨a, ns, rfl, _⟩ := h
    rfl
  · refine ⟨_, hb cdv A outer s H E hr, ?_⟩
    obtain ⟨a, ns, rfl, hS, hl, ⟨O1, hm⟩, hQ⟩ := h
    have p1 : RpAll K H ⟨[], fun _ => none⟩ [.rol (ns.map D.int)] [.ref a] := ⟨_, _, rfl, ⟨a, _, rfl, hS, ints_rp ns⟩, rfl⟩
    have rs : Rs K ad H ⟨[], fun _ => none⟩ [] H := ⟨Same.refl H, rfl, List.nodup_nil, fun n a o h => (by simp at h), fun b u e => (by cases e), fun a o e => (by cases e)⟩
    refine ⟨H, ⟨[], fun _ => none⟩, _, [], trivial, start_rl (ds := [.rol (ns.map D.int)]) hpl p1, rs, ?_⟩
    unfold runF at hm
    generalize b (([D.rol (ns.map D.int)] : List D).map some ++ List.replicate (N.length - ([D.rol (ns.map D.int)] : List D).length) none) [] = z at hm ⊢
    cases z with
    | next L O => cases hm
    | ret d O =>
      cases hm
      exact fun S' r' H' v e _ p => by
        rw [show v = .bl true from p]
        exact hQ H'
    | brk L O => cases hm
    | cnt L O => cases hm
    | exc x L O => cases hm
    | bad => cases hm
end
/-- one address, one function object -/
theorem fd_eq {K : PySem.W.Frag} {x x' qual qual' : Str} {params params' : Arguments} {bd bd' : List Stmt} {scope scope' : Scope} {dvs dvs' : List V} {kws kws' : List (Str × V)} {f : Addr} {fd fd' : FuncData} (F : FunD K x qual params bd scope dvs kws f fd) (G : FunD K x' qual' params' bd' scope' dvs' kws' f fd') : fd = fd' := by
  obtain ⟨_, _, _, _, _, _, _, _, _, _, rfl, l1, _⟩ := F.ex
  obtain ⟨_, _, _, _, _, _, _, _, _, _, rfl, l2, _⟩ := G.ex
  have e := l1.symm.trans l2
  injection e with e
  injection e with _ _ e _
  injection e
/-! ### small helps -/
theorem tk_of {P : Program} {w : World} {K : PySem.W.Frag} {mg : Str → Option Value} {base : Heap} {N : List Str} {qual : Str} {scope : Scope} {f : Addr} {cdv : Value} {A : Around} {outer : List Env} {s : Shared} {H : Hp} {E : XK} : Takes (cxOf (L2.CX P w) P w K mg base N qual scope f cdv A outer s H E) (fun c d _ H => E c d H) := takes_of rfl rfl rfl rfl
theorem own_of {CX : CXT} {P : Program} {w : World} {K : PySem.W.Frag} {mg : Str → Option Value} {base : Heap} {N : List Str} {qual : Str} {scope : Scope} {f : Addr} {cdv : Value} {A : Around} {outer : List Env} {s : Shared} {H : Hp} {E : XK} : PassesOwn (model P w) (cxOf CX P w K mg base N qual scope f cdv A outer s H E).A (cxOf CX P w K mg base N qual scope f cdv A outer s H E).env (cxOf CX P w K mg base N qual scope f cdv A outer s H E).xe := passes_of rfl
def inC (st : Stmt) (i : Nat) : Stmt := match st with
  | .ClassDef _ _ _ b _ _ _ _ _ _ _ => b.getD i (.Pass ⟨0, 0, 0, 0⟩)
  | _ => .Pass ⟨0, 0, 0, 0⟩
end DK
end
section
set_option Elab.async false
set_option linter.all false
set_option autoImplicit false
set_option maxRecDepth 100000
set_option maxHeartbeats 4000000
/-! DKSup: own errors whose first word is super().__init__(..): the def as a promise. -/
namespace DK
open PySem L2
/-- the part of the heap that super() looks at -/
structure SupK (K : PySem.W.Frag) (main : Str) (f C cc cda : Addr) : Prop where
  cell : ∃ cl cld csl, K.lookup cc = some ⟨cl, cld, .cell (some (.ref C)), csl⟩
  code : ∃ ccl cdd vs ccs tf, K.lookup cda = some ⟨ccl, cdd, .fields vs, ccs⟩ ∧ vs[2]? = some (.str main tf)
  sub : PySem.W.mroIn K C (.ref C) = some true
  sup : PySem.W.ks_superIn K C C "__init__" = some (some (.builtin "ValueError.__init__"))
  ve : PySem.W.subIn K (.ref C) (.type "ValueError") = some true
  opq : PySem.W.nsIn K cStatics "thirdparty.any" = some none
  fr : PySem.W.nsIn K mainGlobals "super" = some none
/-- a method's scope: nothing captured but the class -/
structure SupScope (N ps : List Str) (sc : Scope) : Prop where
  kind : sc.kind = .function
  co : sc.isCoroutine = false
  gen : sc.isGenerator = false
  nd : N.Nodup
  pre : N.take ps.length = ps
  par : ∀ x ∈ ps, sc.names.lookup x = some .local
  nocell : ∀ y ∈ sc.names, y.2 ≠ .cell
  free : ∀ y, sc.names.lookup y = some .free → y = "__class__"
  sup : sc.names.lookup ("super" : Str) = some .globalImplicit
  cls : sc.names.lookup ("__class__" : Str) = some .free
section
variable {P : Program} {w : World} {K : PySem.W.Frag} {mg : Str → Option Value} {base : Heap}
def cxI (P : Program) (w : World) (K : PySem.W.Frag) (mg : Str → Option Value) (base : Heap) (N : List Str) (qual : Str) (scope : Scope) (f : Addr) (cd : Value) (cc : Addr) (A : Around) (outer : List Env) (s : Shared) (H : Hp) (E : XK) : Cx where
  prog := P
  w := w
  K := K
  mg := mg
  base := base
  A := A.deeper (PySem.W.ksEnv qual scope s.heap.objs.size f cd cc)
  N := N
  s_0 := s
  H_0 := H
  env := PySem.W.ksEnv qual scope s.heap.objs.size f cd cc
  outer := outer
  stack := PySem.W.ksEnv qual scope s.heap.objs.size f cd cc :: outer
  ex := []
  calm := true
  fn := fun x => !(x == "__class__")
  pn := []
  xe := fun e s' => wpAny (model P w) (A.deeper (PySem.W.ksEnv qual scope s.heap.objs.size f cd cc)) (leaving (PySem.W.ksEnv qual scope s.heap.objs.size f cd cc) e) (fun _ s'' => L2.CX P w outer H s E e s'') (fun e' s'' => L2.CX P w outer H s E e' s'') s'
theorem zip_fst {α β : Type} : ∀ (l : List α) (m : List β), ((l.zip m).map (·.1)).Sublist l
  | [], _ => by simp
  | a :: l, [] => by simp
  | a :: l, b :: m => by
    rw [List.zip_cons_cons, List.map_cons]
    exact (zip_fst l m).cons₂ a
theorem lookup_rev {ps : List Str} {us : List Value} (nd : ps.Nodup) : ∀ {i : Nat} {x : Str} {u : Value}, ps[i]? = some x → us[i]? = some u → (ps.zip us).reverse.lookup x = some u := by
  have key : ∀ (l : List (Str × Value)) (x : Str) (u : Value), (x, u) ∈ l → (l.map (·.1)).Nodup → l.lookup x = some u := fun l => by
    induction l with
    | nil => intro x u h; cases h
    | cons p l ih =>
      intro x u h hn
      rw [List.map_cons, List.nodup_cons] at hn
      obtain ⟨y, v⟩ := p
      rw [List.lookup_cons]
      rcases List.mem_cons.mp h with e | h2
      · cases e
        rw [beq_self_eq_true]
      · have : (x == y) = false := by
          refine beq_eq_false_iff_ne.mpr fun z => hn.1 ?_
          subst z
          exact List.mem_map.mpr ⟨(x, u), h2, rfl⟩
        rw [this]
        exact ih x u h2 hn.2
  intro i x u h1 h2
  refine key _ x u (List.mem_reverse.mpr (List.mem_of_getElem? (i := i) ?_)) ?_
  · rw [List.getElem?_zip_eq_some]
    exact ⟨h1, h2⟩
  · rw [List.map_reverse]
    unfold List.Nodup
    rw [List.pairwise_reverse]
    have : ((ps.zip us).map (·.1)).Sublist ps := by
      exact zip_fst ps us
    exact (List.Pairwise.sublist this nd).imp Ne.symm
theorem inv_startI {main : Str} {N ps : List Str} {qual : Str} {scope : Scope} {f C cc cda : Addr} {cd : Value} {A : Around} {outer : List Env} {s : Shared} {H : Hp} {E : XK} {us : List Value} {vs : List V} {h₀ : Heap} {tk : Nat}
    (S : SupScope N ps scope) (Z : SupK K main f C cc cda) (hd : A.handled = none) (e0 : Env0 P w K mg base A outer s H) (hl : vs.length = ps.length) (r : Vals vs us)
    (hns : h₀.Ns s.heap.objs.size (fun x => (ps.zip us).reverse.lookup x)) (hk : ∀ b o, s.heap.get? b = some o → h₀.get? b = some o) :
    Inv (cxI P w K mg base N qual scope f cd cc A outer s H E) [] (L2.start N vs) H { s with heap := h₀, toks := tk } := by
  have hpl : ps.length ≤ N.length := by have := congrArg List.length S.pre; rw [List.length_take] at this; omega
  have noA : ∀ b : Addr, b ∉ (cxI P w K mg base N qual scope f cd cc A outer s H E).ex := fun b z => absurd (show b ∈ ([] : List Addr) from z) (by simp)
  have one : ∀ {x : Str} {c : Addr}, ([(("__class__" : Str), cc)] : List (Str × Addr)).lookup x = some c → x = "__class__" ∧ c = cc := fun {x c} h => by
    rw [List.lookup_cons] at h
    cases hb : x == ("__class__" : Str) with
    | true =>
      rw [hb] at h
      exact ⟨beq_iff_eq.mp hb, (Option.some.inj h).symm⟩
    | false =>
      rw [hb] at h
      cases h
  obtain ⟨cl, cld, csl, hcell⟩ := Z.cell
  have hcb := e0.mod.kin _ _ hcell
  refine ⟨⟨e0.mod, S.kind, rfl, rfl, Nat.le_refl _, fun y z c h1 h2 => (one h1).1.trans (one h2).1.symm, fun y hy => ?_, fun y c hf h => ?_, fun _ => hd, Around.frames_deeper e0.frames, .inr ⟨rfl, rfl⟩, fun b z => absurd z (noA b), e0.bs, e0.bsz, fun b _ _ => noA b, fun b z => absurd z (noA b), e0.funs, e0.frf⟩,
    rfl, e0.bare, Un.kept hk, ⟨_, hns, fun i y v h1 h2 h3 => ?_⟩, fun y c h => ?_, e0.hok.fresh (Nat.le_refl _), fun y c h => ?_, fun p hp => absurd (show p ∈ ([] : List (Addr × Obj)) from hp) (by simp), e0.hok.kept hk, ?_⟩
  · rcases (show scope.names.lookup y = some .cell ∨ scope.names.lookup y = some .free from hy) with hy | hy
    · exact absurd rfl (S.nocell _ (PySem.mem_of_lookup hy))
    · rw [S.free y hy]
      exact ⟨cc, rfl⟩
  · rw [(one h).1] at hf
    cases hf
  · have hi : i < vs.length := by
      unfold L2.start at h2
      by_cases hi : i < vs.length
      · exact hi
      · rw [List.getElem?_append_right (by simpa using hi), List.getElem?_replicate] at h2
        split at h2 <;> cases h2
    have ha : vs[i]? = some v := by
      unfold L2.start at h2
      rw [List.getElem?_append_left (by simpa using hi), List.getElem?_map] at h2
      cases e : vs[i]? with
      | none => rw [e] at h2; cases h2
      | some a => rw [e] at h2; cases h2; rfl
    obtain ⟨u, hu, rv⟩ := r.get ha
    have hp : ps[i]? = some y := by
      rw [← S.pre, List.getElem?_take_of_lt (by omega)]; exact h1
    have ndP : ps.Nodup := by rw [← S.pre]; exact S.nd.sublist (List.take_sublist _ _)
    exact ⟨u, rv, .inl ⟨S.par y (List.mem_of_getElem? hp), lookup_rev ndP hp hu⟩⟩
  · obtain ⟨rfl, rfl⟩ := one h
    exact ⟨_, _, hk _ _ (e0.bs _ _ hcb).1, rfl⟩
  · obtain ⟨rfl, rfl⟩ := one h
    exact (e0.bs _ _ hcb).2
  · unfold L2.start
    show _ = N.length
    rw [List.length_append, List.length_map, List.length_replicate]
    omega
end
/-! ### the wrapper called -/
section
variable {X : Cx} {pins : List (Addr × Obj)} {σ : L2.St} {H : Hp} {s : Shared} {a C u : Addr}
theorem Inv.addpin {p : Addr × Obj} (I : Inv X pins σ H s) (h : s.heap.get? p.1 = some p.2) (n : H p.1 = none) (nl : p.1 ≠ X.env.locals) (nf : p.1 ∉ X.fs) (nc : ∀ v, p.2.data ≠ .cell v) : Inv X (p :: pins) σ H s :=
  I.pins_of fun q hq => by
    rcases List.mem_cons.mp hq with rfl | hq
    · exact ⟨h, n, nl, nf, nc⟩
    · exact I.pin q (List.mem_append_right _ hq)
theorem Inv.unpin1 {p : Addr × Obj} (I : Inv X (p :: pins) σ H s) : Inv X pins σ H s := I.pins_of fun q hq => I.pin q (List.mem_append_right _ (List.mem_cons_of_mem _ hq))
theorem wrap_call {us : List Value} {Q : Value → Shared → Prop} {E : Value → Shared → Prop} {A : Around} (T : OexC X.K C) (I : Inv X pins σ H s) (e : H a = some (exo a C none)) (hu : s.heap.get? u = some (PySem.W.kxs_mw "ValueError.__init__" a)) (hl : us.length ≤ sizeLine) (h : ∀ s', Inv X pins σ H s' → Q .none s') :
    wpAny (model X.prog X.w) A (call (.ref u) us) Q E s := by
  obtain ⟨nm, q, N, bs, bm, sn, sub, ab, col, dd, k0, k1, k2, k3, k5, hC, hbm⟩ := T.cls
  obtain ⟨t1, ho⟩ := exo_at I.hok e
  have hCh := I.kIn _ _ hC
  have fin : ∀ h', (∀ b o, b ≠ a → s.heap.get? b = some o → h'.get? b = some o) → (∃ t2 : Addr, h'.get? a = some ({ cls := .ref C, dict := none, data := .fields #[.ref t2, .none, .none, .none, .bool false, .none] } : Obj)) → Q .none { s with heap := h' } := fun h' k hx => by
    obtain ⟨t2, hx⟩ := hx
    have J := I.write (t' := s.toks) (x := a) (e := a) (o := exo a C none) (by rw [e]; exact True.intro) (.inl rfl) k ⟨_, hx⟩ (exo_ok hx)
    have eu : upd H a (exo a C none) = H := funext fun b => by
      by_cases hb : b = a
      · rw [hb, upd_same, e]
      · rw [upd_ne hb]
    rw [eu] at J
    exact h _ J
  obtain ⟨hp, g, d, t, os⟩ := s
  have FB := PySem.F.excBase_ValueError
  refine wpAny_call (codeAny_of_tree ?_)
  show wpAny _ A.in1 (callAny (.ref u) ⟨us, []⟩) _ _ _
  unfold callAny
  refine wpAny_bind (wpAny_load hu ?_)
  refine PySem.W.KFB.if_so (by rfl) ?_
  refine wpAny_bind (PySem.W.check_bound_init FB.toExcCallFacts hCh ho rfl ?_)
  refine wpAny_bind (wpAny_pure (wpAny_pure ?_))
  refine ⟨plainId_quiet FB.init.plain _, codeAny_builtin FB.initEntry ?_⟩
  exact PySem.W.exc_init_tree ho hl fun h' k hx _ => fin h' k ⟨_, hx⟩
/-- the first word: super().__init__(e) -/
theorem sup_stmt {main : Str} {N ps : List Str} {qual self : Str} {scope : Scope} {L f cc cda : Addr} {fd : FuncData} {ar : Arg} {oc : Value} {od : Option Addr} {osl : Array (Option Value)} {body : List Stmt} {e : Expr} {te : TE} {p0 p1 apos pos pos2 : Pos} {Q : Hp → Prop}
    (hX : X.env = PySem.W.ksEnv qual scope L f (.ref cda) cc) (S : SupScope N ps scope) (Z : SupK X.K main f C cc cda) (T : OexC X.K C) (hN : X.N = N) (h0 : N[0]? = some self) (hself : scope.names.lookup self = some .local)
    (lk : X.K.lookup f = some ⟨oc, od, .func fd, osl⟩) (hp : (fd.params.posonlyargs ++ fd.params.args).head? = some ar) (har : ar.arg = self) (hmain : ((X.prog.main.file : Str) == main) = true) (htop : (X.prog.main.scope.names.lookup ("super" : Str)).isSome = false) (hm : X.mg "super" = none)
    (I : Inv X pins σ H s) (hs : σ[0]? = some (some (.ref a))) (ea : H a = some (exo a C none)) (he : PE X e te) (hq : te σ H fun v H2 => H2 a = some (exo a C none) ∧ Q H2)
    {pl : Sem Bool} (hev : eval (.Call (.Attribute (.Call (.Name "super" p0) [] [] p1) "__init__" apos) [e] [] pos) X.env = (do
      let ov ← attributeBase (.Call (.Name "super" p0) [] [] p1) "__init__" X.env (eval (.Call (.Name "super" p0) [] [] p1) X.env)
      standAt apos.atName
      let (f, first) ← holding [ov] (getMethod ov "__init__" pl)
      callWith pos f first (backTo pos (starEach [e] X.env)) []) := by rfl)
    (hst : starEach [e] X.env = [(false, eval e X.env)] := by rfl) (hsw : swapsWith (.Call (.Attribute (.Call (.Name "super" p0) [] [] p1) "__init__" apos) [e] [] pos) none pos2.line X.env = pure false := by rfl) (hint : interactive X.env = false := by rfl) :
    wpAt (model X.prog X.w) X.A (.func body X.env) (exec (.Expr (.Call (.Attribute (.Call (.Name "super" p0) [] [] p1) "__init__" apos) [e] [] pos) pos2) X.env) (fun fl s' => fl = .next ∧ ∃ H2, Inv X pins σ H2 s' ∧ Q H2) X.xe s := by
  have KX := I.kIn
  obtain ⟨cl, cld, csl, hcell⟩ := Z.cell
  obtain ⟨ccl, cdd, vsc, ccs, tf, hcode, hvs⟩ := Z.code
  obtain ⟨t1, ho⟩ := exo_at I.hok ea
  have IA : PySem.W.InstAt s.heap a _ C none := ⟨ho, rfl, rfl, trivial⟩
  obtain ⟨m, hns, hloc⟩ := I.loc
  obtain ⟨u0, ru0, lu0⟩ := hloc 0 self (.ref a) (by rw [hN]; exact h0) hs (.inl (by rw [hX]; exact hself))
  obtain rfl : u0 = Value.ref a := ru0
  have hmself : m self = some (.ref a) := by
    rcases lu0 with ⟨_, h⟩ | ⟨h, _⟩
    · exact h
    · rw [hX] at h
      rcases (show scope.names.lookup self = some .cell ∨ scope.names.lookup self = some .free from h) with h | h
      · rw [hself] at h; cases h
      · rw [hself] at h; cases h
  have hsup := Z.sup
  unfold PySem.W.ks_superIn at hsup
  cases hcd : PySem.W.clsIn X.K C with
  | none => rw [hcd] at hsup; cases hsup
  | some cd =>
    rw [hcd] at hsup
    obtain ⟨oD, hD1, hD2⟩ : ∃ oD, s.heap.get? C = some oD ∧ oD.data = .cls cd := by
      unfold PySem.W.clsIn at hcd
      split at hcd
      · rename_i c d cd' sl hlk
        cases hcd
        exact ⟨_, KX _ _ hlk, rfl⟩
      · cases hcd
    have hfs : X.env.func = some f := by rw [hX]
    have hkind : X.env.scope.kind = .function := by rw [hX]; exact S.kind
    refine PySem.ks_wpAt_Expr_any ?_ hint hsw
    refine PySem.ks_wpAt_MethodCall (pl := pl) ?_ hev
    refine PySem.ks_wpAt_super_base (f := f) (cc := cda) (by rw [hX]; exact S.sup) (by rw [hX]; exact S.cls) rfl hfs (KX _ _ lk) rfl hp (by rw [hX]) (KX _ _ hcode) rfl hvs hmain htop ?_
    obtain ⟨mb, hb1, hb2⟩ := I.mod.blt
    refine PySem.W.ks_loadName_global hkind (by rw [hX]; exact S.sup) (Calls.loadGlobal_builtin (by rw [I.ok.glob]; exact I.mod.glob.keeps I.bk) hm (by rw [I.ok.blt]; exact hb1.keeps I.bk) ((hb2 _ (by decide)).trans (show bootBuiltins ("super" : Str) = some (.type "super") by decide +kernel)) ⟨rfl, ?_⟩)
    refine wpAny_loadName_free hkind (by rw [hX]; exact S.cls) (by rw [hX]; rfl) ⟨_, KX _ _ hcell, rfl⟩ ?_
    rw [har]
    refine wpAny_loadName_local hkind (by rw [hX]; exact hself) hns hmself ?_
    refine PySem.ks_wpAny_isType_cls hD1 hD2 ⟨rfl, ?_⟩
    obtain ⟨hp1, g, d, t, os⟩ := s
    refine PySem.ks_wpAny_call_super hD1 hD2 IA.at_ IA.cls (fun c hc => by cases hc) (PySem.W.looks_mroIn KX Z.sub) (fun h' eso k => ?_)
    have I1 : Inv X pins σ H ⟨h', g, d, t, os⟩ := I.kept (t' := t) k
    have IA1 : PySem.W.InstAt h' a _ C none := ⟨k _ _ ho, rfl, rfl, trivial⟩
    refine PySem.W.kxs_getMethod PySem.W.kxs_ValueError eso (PySem.W.looks_opaque I1.kIn Z.opq) (l₀ := cd.mro) (fun A Q E s k q => wpAny_bind ((PySem.W.looks_clsIn I1.kIn hcd) A _ E s k (wpAny_pure q))) rfl I1.kIn hsup (IA1.type.andThen (PySem.W.looks_subIn I1.kIn Z.ve)) (PySem.W.ks_ne I1.kIn IA1 hcd) rfl ?_
    have hmw : (h'.push (PySem.W.kxs_mw "ValueError.__init__" a)).get? h'.objs.size = some (PySem.W.kxs_mw "ValueError.__init__" a) := Heap.get?_push_at rfl rfl
    have I2 : Inv X pins σ H ⟨h'.push (PySem.W.kxs_mw "ValueError.__init__" a), g, d, t + 1, os⟩ := I1.kept (t' := t + 1) fun b o eb => Heap.get?_push_of_some _ eb
    have hnl : h'.objs.size ≠ X.env.locals := fun z => by
      obtain ⟨m1, hn1, _⟩ := I1.loc
      obtain ⟨oL, es, ep, hL, _⟩ := hn1
      exact absurd (Heap.lt_size hL) (by rw [← z]; exact Nat.lt_irrefl _)
    have I3 := Inv.addpin (p := (h'.objs.size, PySem.W.kxs_mw "ValueError.__init__" a)) I2 hmw (I1.hok.fresh (Nat.le_refl _)) hnl (I1.nofs (Nat.le_refl _)) (fun v z => by cases z)
    have ha := (pa_cons he pa_nil (hs := hst)).run pos _ _ σ H (fun vs H2 => match vs with | [_] => H2 a = some (exo a C none) ∧ Q H2 | _ => False) I3 hq
    rw [hst] at ha ⊢
    refine PySem.W.kxs_callWith (i := "ValueError.__init__") (x := a) (by rfl) ?_
    refine Calls.evalArgs_plain (thn ha fun us s1 ⟨vs, H2, J, rr, q⟩ => ?_)
    cases vs with
    | nil => exact q.elim
    | cons v vs =>
      cases vs with
      | cons _ _ => exact q.elim
      | nil =>
        obtain ⟨q1, q2⟩ := q
        have hl : us.length = 1 := (Paired.length rr).symm
        have pu := (J.pin (h'.objs.size, PySem.W.kxs_mw "ValueError.__init__" a) (List.mem_append_right _ List.mem_cons_self)).1
        refine ⟨pu, ?_⟩
        exact wrap_call (us := us) T (Inv.unpin1 J) q1 pu (by rw [hl]; decide) fun s' J2 => ⟨rfl, H2, J2, q2⟩
end
/-! ### the def -/
section
variable {P : Program} {w : World} {K : PySem.W.Frag} {mg : Str → Option Value} {base : Heap}
def spI (N ps : List Str) (C : Addr) (te : TE) (tr : TS) : Sp := fun vs H Q E => vs.length = ps.length ∧ ∃ a, vs[0]? = some (.ref a) ∧ H a = some (exo a C none) ∧ te (L2.start N vs) H fun _ H2 => H2 a = some (exo a C none) ∧ tr { nx := fun _ H' => Q .non H', rt := Q } (L2.start N vs) H2
theorem fnI_of {main : Str} {N ps : List Str} {name qual self : Str} {params : Arguments} {scope : Scope} {f C cc cda : Addr} {ar : Arg} {kV doc pm ct oc : Value} {an od : Option Addr} {osl : Array (Option Value)} {e : Expr} {rest : List Stmt} {te : TE} {tr : TS} {p0 p1 apos pos pos2 : Pos} {k : Nat}
    (lk : K.lookup f = some ⟨oc, od, .func (PySem.W.ksFn name qual params (.Expr (.Call (.Attribute (.Call (.Name "super" p0) [] [] p1) "__init__" apos) [e] [] pos) pos2 :: rest) scope .none kV doc pm an (.ref cda) ct cc), osl⟩) (hcd : PySem.W.codeIn K (.ref cda) qual = true)
    (S : SupScope N ps scope) (Z : SupK K main f C cc cda) (T : OexC K C) (h0 : N[0]? = some self) (hps : 0 < ps.length) (hp : (params.posonlyargs ++ params.args).head? = some ar) (har : ar.arg = self) (hself : scope.names.lookup self = some .local)
    (hmain : ((P.main.file : Str) == main) = true) (htop : (P.main.scope.names.lookup ("super" : Str)).isSome = false) (hm : mg "super" = none)
    (he : ∀ (A : Around) (outer : List Env) (s : Shared) (H : Hp) (E : XK), Room k (A.deeper (PySem.W.ksEnv qual scope s.heap.objs.size f (.ref cda) cc)) → PE (cxI P w K mg base N qual scope f (.ref cda) cc A outer s H E) e te)
    (hrest : ∀ (A : Around) (outer : List Env) (s : Shared) (H : Hp) (E : XK), Room k (A.deeper (PySem.W.ksEnv qual scope s.heap.objs.size f (.ref cda) cc)) → PSs (cxI P w K mg base N qual scope f (.ref cda) cc A outer s H E) rest tr)
    {pl : Sem Bool} (hev : ∀ L : Addr, eval (.Call (.Attribute (.Call (.Name "super" p0) [] [] p1) "__init__" apos) [e] [] pos) (PySem.W.ksEnv qual scope L f (.ref cda) cc) = (do
      let ov ← attributeBase (.Call (.Name "super" p0) [] [] p1) "__init__" (PySem.W.ksEnv qual scope L f (.ref cda) cc) (eval (.Call (.Name "super" p0) [] [] p1) (PySem.W.ksEnv qual scope L f (.ref cda) cc))
      standAt apos.atName
      let (f1, first) ← holding [ov] (getMethod ov "__init__" pl)
      callWith pos f1 first (backTo pos (starEach [e] (PySem.W.ksEnv qual scope L f (.ref cda) cc))) []))
    (hst : ∀ L : Addr, starEach [e] (PySem.W.ksEnv qual scope L f (.ref cda) cc) = [(false, eval e (PySem.W.ksEnv qual scope L f (.ref cda) cc))])
    (hsw : ∀ L : Addr, swapsWith (.Call (.Attribute (.Call (.Name "super" p0) [] [] p1) "__init__" apos) [e] [] pos) none pos2.line (PySem.W.ksEnv qual scope L f (.ref cda) cc) = pure false)
    (hint : ∀ L : Addr, interactive (PySem.W.ksEnv qual scope L f (.ref cda) cc) = false) :
    FnOk P w K mg base (L2.CX P w) (k + 1) f (PySem.W.ksFn name qual params (.Expr (.Call (.Attribute (.Call (.Name "super" p0) [] [] p1) "__init__" apos) [e] [] pos) pos2 :: rest) scope .none kV doc pm an (.ref cda) ct cc) ps (spI N ps C te tr) := by
  refine ⟨fun vs H Q E h => h.1, fun A outer s H args us vs Q E hr e0 hb r hsp => ?_⟩
  obtain ⟨hl, a, ha0, ea, hq⟩ := hsp
  have KX : K.In s.heap := e0.mod.kin.keeps fun b o e => (e0.bs b o e).1
  have lim : s.heap.NoLimit := e0.mod.nolimit.keeps fun b o e => (e0.bs b o e).1
  have hrd := hr.deeper (PySem.W.ksEnv qual scope s.heap.objs.size f (.ref cda) cc)
  refine PySem.ks_codeAny_call_defAt hr.depth (KX _ _ lk) rfl lim (PySem.W.codeRec_of KX hcd) rfl hb S.nocell (fun y hy => S.par y.1 (List.of_mem_zip hy).1) (fun h₀ hns hk => ?_) S.co S.gen S.kind
  have I := inv_startI (P := P) (w := w) (E := E) (qual := qual) (f := f) (cd := .ref cda) (tk := s.toks + (ps.zip us).length) S Z hr.hd e0 hl r hns hk
  have hs0 : (L2.start N vs)[0]? = some (some (.ref a)) := by
    unfold L2.start
    rw [List.getElem?_append_left (by rw [List.length_map, hl]; exact hps), List.getElem?_map, ha0]
    rfl
  have w1 := sup_stmt (X := cxI P w K mg base N qual scope f (.ref cda) cc A outer s H E) (p0 := p0) (p1 := p1) (apos := apos) (pos := pos) (pos2 := pos2) (body := .Expr (.Call (.Attribute (.Call (.Name "super" p0) [] [] p1) "__init__" apos) [e] [] pos) pos2 :: rest) rfl S Z T rfl h0 hself lk hp har hmain htop hm I hs0 ea (he A outer s H E hrd) hq (hev _) (hst _) (hsw _) (hint _)
  refine PySem.ks_wpAt_execs_cons ?_
  refine PySem.ks_wpAt_mono w1 (fun fl s1 h1 => ?_) fun _ _ z => z
  obtain ⟨rfl, H2, I2, q2⟩ := h1
  refine wpAt_of_wpAny ?_
  refine wpAny_mono ((hrest A outer s H E hrd).run [] s1 (L2.start N vs) H2 _ I2 q2) (fun fl s' hs => ?_) fun e s' hs => hs
  have fin : ∀ {σ' : L2.St} {H' : Hp} {v : V} {u : Value}, Inv (cxI P w K mg base N qual scope f (.ref cda) cc A outer s H E) [] σ' H' s' → RelV v u → Q v H' → CE outer P w H s Q u s' :=
    fun {σ' H' v u} J rv q => ⟨v, H', J.os, J.bare, J.base, J.hok, rv, q⟩
  cases fl with
  | ret u =>
    obtain ⟨v, σ', H', J, rv, q⟩ := hs
    exact fin J rv q
  | next =>
    obtain ⟨σ', H', J, q⟩ := hs
    exact fin (v := V.non) (u := Value.none) J rfl q
  | brk =>
    obtain ⟨_, _, _, q⟩ := hs
    exact q.elim
  | cont =>
    obtain ⟨_, _, _, q⟩ := hs
    exact q.elim
end
end DK
end
section
set_option Elab.async false
set_option linter.all false
set_option autoImplicit false
set_option maxRecDepth 100000
set_option maxHeartbeats 4000000
/-! DKSupR: an own error with fields is raised. -/
namespace DK
open PySem L2
section
variable {K : PySem.W.Frag} {ad : Str → Addr} {S S' : Hp} {r r' : Rg} {O O' : Store} {H H' : Hp}
/-- all that nobody knows, held -/
noncomputable def allFr (S : Hp) (r : Rg) (H : Hp) : Hp := fun b => open Classical in if S b = none ∧ b ∉ r.l then H b else none
theorem Rs.holdAll (h : Rs K ad S r O H) : Rs K ad S (r.at (allFr S r H)) O H where
  sub := h.sub
  len := h.len
  nd := h.nd
  ob := fun n a o e1 e2 => (h.ob n a o e1 e2).at_
  fr := fun b u e => by
    have e : (open Classical in if S b = none ∧ b ∉ r.l then H b else none) = some u := e
    split at e
    · exact e
    · cases e
  off := fun b u e => by
    have e : (open Classical in if S b = none ∧ b ∉ r.l then H b else none) = some u := e
    split at e
    · rename_i hc; exact hc
    · cases e
/-- what stood then stands now -/
theorem Rs.dom (h0 : Rs K ad S r O H) (es : Same S S') (er : r.l <+: r'.l) (ef : ∀ b o, allFr S r H b = some o → r'.fr b = some o) (h : Rs K ad S' r' O' H') {b : Addr} (hb : H' b = none) : H b = none := by
  cases hH : H b with
  | none => rfl
  | some o =>
    exfalso
    by_cases hS : S b = none
    · by_cases hl : b ∈ r.l
      · obtain ⟨n, hn, en⟩ := List.getElem_of_mem hl
        have e1 : r'.l[n]? = some b := pre_get er (by show r.l[n]? = some b; rw [List.getElem?_eq_getElem hn, en])
        have hO : n < O'.length := by rw [← h.len]; exact (List.getElem?_eq_some_iff.mp e1).1
        obtain ⟨u, q⟩ := (h.ob n b O'[n] e1 (List.getElem?_eq_getElem hO)).there
        rw [hb] at q
        cases q
      · have : r'.fr b = some o := by
          refine ef b o ?_
          show (open Classical in if S b = none ∧ b ∉ r.l then H b else none) = some o
          rw [if_pos ⟨hS, hl⟩]
          exact hH
        have q := h.fr b o this
        rw [hb] at q
        cases q
    · cases hS2 : S b with
      | none => exact hS hS2
      | some u =>
        have q := h.sub b u (es b u hS2)
        rw [hb] at q
        cases q
theorem Rs.notS (h : Rs K ad S r O H) {b : Addr} (hb : H b = none) : S b = none := h.sub.free hb
/-- behind the making of an error at a with its dict at d -/
theorem Rs.afterExc {a d : Addr} {u : HO} {H4 fr0 : Hp} (h : Rs K ad S r O H) (ha : r.fr a ≠ none) (hd : H d = none) (hda : d ≠ a) (h4 : ∀ b, b ≠ a → b ≠ d → H4 b = H b) (h5 : H4 d = some u) (hf : ∀ b o, fr0 b = some o → b ≠ a ∧ b ≠ d ∧ r.fr b = some o) : Rs K ad (upd S d u) (r.at fr0) O H4 := by
  obtain ⟨oa, hoa⟩ := Option.ne_none_iff_exists'.mp ha
  have offa := h.off a oa hoa
  have Sd := h.notS hd
  have ld : d ∉ r.l := h.notin hd
  refine ⟨fun b o e => ?_, h.len, h.nd, fun n b o e1 e2 => ?_, fun b o e => ?_, fun b o e => ?_⟩
  · by_cases hb : b = d
    · rw [hb, upd_same] at e
      rw [hb, h5]
      exact e
    · rw [upd_ne hb] at e
      have : b ≠ a := fun z => by rw [z, offa.1] at e; cases e
      rw [h4 b this hb]
      exact h.sub b o e
  · have hm : b ∈ r.l := List.mem_of_getElem? e1
    have n1 : b ≠ a := fun z => offa.2 (z ▸ hm)
    have n2 : b ≠ d := fun z => ld (z ▸ hm)
    exact ((h.ob n b o e1 e2).mono (Ext.new Sd) (fun x q => by rw [h4 b n1 n2]; exact q) (fun q => by rw [upd_ne n2]; exact q)).at_
  · obtain ⟨n1, n2, e'⟩ := hf b o e
    rw [h4 b n1 n2]
    exact h.fr b o e'
  · obtain ⟨n1, n2, e'⟩ := hf b o e
    rw [upd_ne n2]
    exact h.off b o e'
end
section
variable {K : PySem.W.Frag} {ad : Str → Addr} {S : Hp} {r : Rg} {O O' : Store} {H : Hp}
theorem rl_init {N : List Str} {a : Addr} {ds : List D} {ws : List V} (hl : ds.length + 1 ≤ N.length) (p : RpAll K S r ds ws) : Rl K S r (none :: (ds.map some ++ List.replicate (N.length - (ds.length + 1)) none)) (L2.start N (V.ref a :: ws)) where
  len := by
    unfold L2.start
    have := p.length
    simp [this]
  at_ := fun i d q => by
    cases i with
    | zero => cases q
    | succ i =>
      rw [List.getElem?_cons_succ] at q
      have hi : i < ds.length := by
        by_cases hi : i < ds.length
        · exact hi
        · rw [List.getElem?_append_right (by rw [List.length_map]; omega), List.getElem?_replicate] at q
          split at q <;> cases q
      rw [List.getElem?_append_left (by rw [List.length_map]; exact hi), List.getElem?_map] at q
      cases e : ds[i]? with
      | none => rw [e] at q; cases q
      | some d' =>
        rw [e] at q
        obtain rfl : d' = d := Option.some.inj (Option.some.inj q)
        obtain ⟨v, hv, pv⟩ := p.get e
        refine ⟨v, ?_, pv⟩
        unfold L2.start
        rw [List.map_cons, List.cons_append, List.getElem?_cons_succ, List.getElem?_append_left (by rw [List.length_map, p.length]; exact hi), List.getElem?_map, hv]
        rfl
def iniL (N : List Str) (ds : List D) : Loc := none :: (ds.map some ++ List.replicate (N.length - (ds.length + 1)) none)
/-- what the end of an __init__ needs -/
structure EndI (K : PySem.W.Frag) (ad : Str → Addr) (S : Hp) (r : Rg) (O' : Store) (fs : List (Str × D)) (Qx : Option Addr → Hp → Prop) : Prop where
  q : ∀ (S2 : Hp) (r2 : Rg) (H4 : Hp) (dd : Addr) (gs : List (Str × V)), Ext S r S2 r2 → Rs K ad S2 r2 O' H4 → S2 dd = some (.xd gs) → RpP K S2 r2 fs gs → Qx (some dd) H4
abbrev QI (a C : Addr) (H1 : Hp) (Qx : Option Addr → Hp → Prop) : VK := fun v H2 => v = .non ∧ ∃ (d : Addr) (fs : List (Str × V)), H2 a = some (exo a C (some d)) ∧ H2 d = some (exd d fs) ∧ H1 d = none ∧ Qx (some d) (upd (del H2 a) d (.xd fs))
/-- behind the message -/
theorem spI_mid {N ps : List Str} {a C : Addr} {ds : List D} {ws : List V} {ms : EM} {tr : TS} {Q : VK} {E : XK} {dm : D} (rs : Rs K ad S r O H) (p : RpAll K S r ds ws) (hl : ds.length + 1 = ps.length) (hN : ps.length ≤ N.length) (ha : H a = none)
    (hm : ms (iniL N ds) O = .ok dm O')
    (k : ∀ (S' : Hp) (r' : Rg) (H2 : Hp), Same S S' → r.l <+: r'.l → Rs K ad S' r' O' H2 → H2 a = some (exo a C none) → r'.fr a ≠ none → (∀ b o, r.fr b = some o → b ≠ a ∧ r'.fr b = some o) → (∀ b, H2 b = none → H b = none) → Rl K S' r' (iniL N ds) (L2.start N (V.ref a :: ws)) →
      tr { nx := fun _ H' => Q .non H', rt := Q } (L2.start N (V.ref a :: ws)) H2) :
    spI N ps C (tE K ad JT WF ms) tr (V.ref a :: ws) (upd H a (exo a C none)) Q E := by
  refine ⟨by rw [List.length_cons, p.length]; exact hl, a, rfl, upd_same, ?_⟩
  have hA := rs.holdAll
  have hh := Rs.hold (o := exo a C none) hA ha
  refine ⟨S, _, iniL N ds, O, trivial, ⟨(rl_init (by omega) p).len, fun i d q => ?_⟩, hh, ?_⟩
  · obtain ⟨v, q1, q2⟩ := (rl_init (a := a) (N := N) (by omega) p).at_ i d q
    exact ⟨v, q1, Rp.monoW (r := r) (r' := (r.at (allFr S r H)).at (upd (r.at (allFr S r H)).fr a (exo a C none))) (Same.refl S) List.prefix_rfl d v q2⟩
  · rw [hm]
    intro S' r' H2 v e2 s2 _
    have efr : ∀ b o, allFr S r H b = some o → r'.fr b = some o := fun b o eb => by
      rw [e2.f]
      show upd (allFr S r H) a (exo a C none) b = some o
      have : b ≠ a := fun z => by
        have q := hA.fr b o eb
        rw [z, ha] at q
        cases q
      rw [upd_ne this]
      exact eb
    have ea : r'.fr a = some (exo a C none) := by
      rw [e2.f]
      exact upd_same
    have h2a := s2.fr a _ ea
    refine ⟨h2a, k S' r' H2 e2.s e2.r s2 h2a (by rw [ea]; exact fun z => by cases z) (fun b o eb => ?_) (fun b hb => rs.dom e2.s e2.r efr s2 hb) ?_⟩
    · have hb := rs.fr b o eb
      have n1 : b ≠ a := fun z => by rw [z, ha] at hb; cases hb
      refine ⟨n1, efr b o ?_⟩
      show (open Classical in if S b = none ∧ b ∉ r.l then H b else none) = some o
      rw [if_pos (rs.off b o eb)]
      exact hb
    · refine ⟨(rl_init (by omega) p).len, fun i d q => ?_⟩
      obtain ⟨v, q1, q2⟩ := (rl_init (a := a) (N := N) (by omega) p).at_ i d q
      exact ⟨v, q1, Rp.monoW (r := r) (r' := r') e2.s e2.r d v q2⟩
/-- the end -/
theorem endI_of {S' : Hp} {r' : Rg} {H2 H3 : Hp} {a C dx : Addr} {fs : List (Str × D)} {gs : List (Str × V)} {Qx : Option Addr → Hp → Prop} (rs : Rs K ad S r O H) (ha : H a = none) (es : Same S S') (er : r.l <+: r'.l) (s2 : Rs K ad S' r' O' H2) (hfa : r'.fr a ≠ none) (hfr : ∀ b o, r.fr b = some o → b ≠ a ∧ r'.fr b = some o) (hdom : ∀ b, H2 b = none → H b = none)
    (hdx : H2 dx = none) (hne : dx ≠ a) (h3 : ∀ b, b ≠ a → b ≠ dx → H3 b = H2 b) (h3a : H3 a = some (exo a C (some dx))) (h3d : H3 dx = some (exd dx gs)) (pf : RpP K S' r' fs gs) (q : EndI K ad S r O' fs Qx) : QI a C H Qx .non H3 := by
  have hS : S' dx = none := s2.notS hdx
  refine ⟨rfl, dx, gs, h3a, h3d, hdom dx hdx, ?_⟩
  refine q.q (upd S' dx (.xd gs)) (r'.at r.fr) _ dx gs ⟨fun b u eb => ?_, rfl, er⟩ (Rs.afterExc s2 hfa hdx hne (fun b n1 n2 => by rw [upd_ne n2, del_ne n1, h3 b n1 n2]) upd_same (fun b o eb => ?_)) upd_same ?_
  · have := es b u eb
    rw [upd_ne (fun z => by rw [z, hS] at this; cases this)]
    exact this
  · obtain ⟨n1, e1⟩ := hfr b o eb
    refine ⟨n1, fun z => ?_, e1⟩
    have q1 := rs.fr b o eb
    rw [z, hdom dx hdx] at q1
    cases q1
  · exact RpP.monoW (r := r') (r' := r'.at r.fr) (Ext.new (r := r') hS).s List.prefix_rfl _ _ pf
theorem spI_one {N ps : List Str} {a C : Addr} {ds : List D} {ws : List V} {ms : EM} {E : XK} {dm d1 : D} {f1 : Str} {j1 : Nat} {Qx : Option Addr → Hp → Prop} (T : OexC K C) (hno : PySem.W.findIn K (.ref C) f1 = some none) (rs : Rs K ad S r O H) (p : RpAll K S r ds ws) (hl : ds.length + 1 = ps.length) (hN : ps.length ≤ N.length) (ha : H a = none)
    (hm : ms (iniL N ds) O = .ok dm O') (hj : (iniL N ds)[j1]? = some (some d1)) (q : EndI K ad S r O' [(f1, d1)] Qx) :
    spI N ps C (tE K ad JT WF ms) (tOst K f1 (tVar 0) (tVar j1)) (V.ref a :: ws) (upd H a (exo a C none)) (QI a C H Qx) E := by
  refine spI_mid rs p hl hN ha hm fun S' r' H2 es er s2 h2a hfa hfr hdom rl => ?_
  obtain ⟨v1, q1, p1⟩ := rl.at_ j1 d1 hj
  refine ⟨v1, q1, .ref a, rfl, a, C, rfl, T, hno, .inl ⟨h2a, fun dx hdx hne => ?_⟩⟩
  exact endI_of rs ha es er s2 hfa hfr hdom hdx hne (fun b n1 n2 => by rw [upd_ne n1, upd_ne n2]) upd_same (by rw [upd_ne hne, upd_same]) (show RpP K S' r' [(f1, d1)] [(f1, v1)] from ⟨v1, [], rfl, p1, rfl⟩) q
end
end DK
end
section
set_option Elab.async false
set_option linter.all false
set_option autoImplicit false
set_option maxRecDepth 100000
set_option maxHeartbeats 4000000
/-! DKMore: loops over a text, methods of texts, repr. -/
namespace DK
open PySem L2
def charsD (s : Str) : List D := s.cps.toList.map fun c => .str ⟨#[c]⟩
theorem chars_rp {K : PySem.W.Frag} {S : Hp} {r : Rg} : ∀ cs : List Nat, RpAll K S r (cs.map fun c => D.str ⟨#[c]⟩) (cs.map fun c => V.str ⟨#[c]⟩)
  | [] => rfl
  | _ :: cs => ⟨_, _, rfl, rfl, chars_rp cs⟩
def sForS (m : EM) (b : BM) (body : SM) : SM := fun L O => ofRes L (m L O) fun d O1 => match d with
  | .str s => loopD (turnOf b body) (charsD s) L O1
  | _ => .bad
section
variable {X : Cx} {ad : Str → Addr} {J : JP} {W : WX} {pos : Pos} {a b c e tg iter elt : Expr} {es ifs : List Expr} {m me : EM} {mt : AM} {tm : TM} {st : Stmt} {rest body els : List Stmt} {s1 s2 : SM} {bm : BM} {bs : BsM} {scope : Scope} {own : List (Str × Nat)}
theorem its_at {x : Str} {i : Nat} {v : V} (h : (x.cps.toList.map fun c => V.str ⟨#[c]⟩)[i]? = some v) : ∃ c, x.cps[i]? = some c ∧ v = .str ⟨#[c]⟩ := by
  rw [List.getElem?_map] at h
  obtain ⟨c, hc, rfl⟩ := Option.map_eq_some_iff.mp h
  exact ⟨c, by rw [← Array.getElem?_toList]; exact hc, rfl⟩
theorem ds_forS (hp : PassesOwn (model X.prog X.w) X.A X.env X.xe) (hc : X.calm = true) (hi : PE X iter (tE X.K ad J W m)) (hg : PG X tg (tG X.K ad J bm)) (hb : PSs X body (tS X.K ad J W s1)) (hs : ∀ x, foldedSetIterable iter X.env x = pure x := by intro _; rfl) :
    PS X (.For tg iter body [] pos) (tS X.K ad J W (sForS m bm s1)) := by
  refine ps_imp (ps_for hp hc (pi_str hi) hg hb hs) ?_
  rintro En σ H ⟨S, r, L, O, j, rl, rs, p⟩
  refine ⟨S, r, L, O, j, rl, rs, (bindS j rl p).imp ?_⟩
  rintro x H1 ⟨S1, r1, d, O1, e1, q1, p1, k1⟩
  have rl1 := rl.mono e1
  cases d with
  | str s =>
    refine ⟨s, p1, for_still (It' := Its s) (charsD s) (chars_rp s.cps.toList) (fun i H S x e e' hx => ?_) (fun i H S x y H' e e' hx hy => ?_) (fun i H S e e' hl => ?_) (J.mono e1.s j) rl1 q1 k1⟩
    · obtain ⟨c, hc, _⟩ := its_at hx
      exact (Array.getElem?_eq_some_iff.mp hc).1
    · obtain ⟨c, hc, rfl⟩ := its_at hx
      obtain ⟨h1, c2, h2, h3⟩ := hy
      rw [hc] at h2
      cases h2
      exact ⟨h3, h1⟩
    · rw [List.length_map] at hl
      exact hl
  | hdl n => exact k1.elim
  | lst n => exact k1.elim
  | rol n => exact k1.elim
  | tup n => exact k1.elim
  | non => exact k1.elim
  | bl b => exact k1.elim
  | int i => exact k1.elim
/-! ### repr -/
end
/-! ### methods of texts -/
structure MethS (X : Cx) (ad : Str → Addr) (id : String) (g : Store → Str → List D → Option (D × Store)) : Prop where
  ok : ∃ rr, MtR X id rr ∧ ∀ (S : Hp) (r : Rg) (O : Store) (H : Hp) (s : Str) (vs : List V) (ds : List D) (W : WX) (σ : L2.St) (Q : VK), Rs X.K ad S r O H → RpAll X.K S r ds vs →
    Post X.K ad (fun S r => Rp X.K S r) W σ S r Q (ofO (g O s ds)) → rr (.str s) vs H Q
def mBS (g : Store → Str → List D → Option (D × Store)) (mo : EM) (mt : AM) : EM := fun L O => (mo L O).bind fun d O1 => match d with
  | .str s => (mt L O1).bind fun ds O2 => ofO (g O2 s ds)
  | _ => .bad
def rows (h : Bool) (ys : List Str) (O : Store) : Option (D × Store) := newLO h (ys.map .str) O
def gSplit (h : Bool) : Store → Str → List D → Option (D × Store) := fun O a ds => match ds with
  | [.str b] => if (b.length == 0) = false ∧ a.length ≤ 1000000 then rows h (Txt.split a b) O else none
  | _ => none
def strsOf : List D → Option (List Str)
  | [] => some []
  | .str s :: ds => (strsOf ds).map (s :: ·)
  | _ => none
def gJoin : Store → Str → List D → Option (D × Store) := fun O a ds => match ds with
  | [d] => match seqOf O d with
    | some xs => match strsOf xs with
      | some ys => if (ys.map (·.length)).sum + ys.length * a.length ≤ 16777216 then some (.str (Txt.join a ys), O) else none
      | none => none
    | none => none
  | _ => none
def gTxt2 (f : Str → Str → D) : Store → Str → List D → Option (D × Store) := fun O a ds => match ds with
  | [.str b] => some (f a b, O)
  | _ => none
def gEnds := gTxt2 fun a b => .bl (Txt.endswith a b)
theorem strsOf_rp {K : PySem.W.Frag} {S : Hp} {r : Rg} : ∀ {ds : List D} {vs : List V} {ns : List Str}, RpAll K S r ds vs → strsOf ds = some ns → vs = ns.map V.str
  | [], vs, ns, h, e => by cases e; exact h
  | .str i :: ds, vs, ns, h, e => by
    obtain ⟨v, vr, rfl, rfl, h2⟩ := h
    have e : (strsOf ds).map (i :: ·) = some ns := e
    obtain ⟨ms, e1, rfl⟩ := Option.map_eq_some_iff.mp e
    rw [strsOf_rp h2 e1]
    rfl
  | .non :: _, _, _, _, e => by cases e
  | .int _ :: _, _, _, _, e => by cases e
  | .bl _ :: _, _, _, _, e => by cases e
  | .lst _ :: _, _, _, _, e => by cases e
  | .rol _ :: _, _, _, _, e => by cases e
  | .tup _ :: _, _, _, _, e => by cases e
  | .hdl _ :: _, _, _, _, e => by cases e
theorem strs_rp {K : PySem.W.Frag} {S : Hp} {r : Rg} : ∀ ys : List Str, RpAll K S r (ys.map D.str) (ys.map V.str)
  | [] => rfl
  | _ :: ys => ⟨_, _, rfl, rfl, strs_rp ys⟩
section
variable {X : Cx} {ad : Str → Addr} {J : JP} {W : WX} {apos cpos : Pos} {o e : Expr} {es : List Expr} {mo : EM} {mt : AM}
theorem de_bS {name : Str} {id : String} {g : Store → Str → List D → Option (D × Store)} (pa : PlainAttrs "str") (slot : Slot "str" name id) (hty : typeOf (.builtin id) = pure (.type "method_descriptor")) (hm : MethS X ad id g) (ho : PE X o (tE X.K ad J W mo)) (ha : PA X (e :: es) (tA X.K ad J W mt))
    (hbase : attributeBase o name X.env (eval o X.env) = eval o X.env := by rfl)
    (hfew : ((backTo cpos (starEach (e :: es) X.env)).all (fun x => !x.1) && (backToKw cpos (keywordEach [] X.env)).all (fun x => x.1.isSome)
      && decide ((e :: es).length + ([] : List Keyword).length + (if ([] : List Keyword).isEmpty then 0 else 1) < 30)) = true := by rfl)
    (hline : (apos.endLine == cpos.line) = true := by rfl) (hs : starEach (e :: es) X.env = (false, eval e X.env) :: starEach es X.env := by rfl) (hplain : (backTo cpos (starEach es X.env)).any (·.1) = false := by rfl) :
    PE X (.Call (.Attribute o name apos) (e :: es) [] cpos) (tE X.K ad J W (mBS g mo mt)) := by
  obtain ⟨rr, h1, h2⟩ := hm.ok
  refine pe_imp (pe_bm pa slot hty h1 ho ha hbase hfew hline hs hplain) ?_
  rintro σ H Q ⟨S, r, L, O, j, rl, rs, q⟩
  refine ⟨S, r, L, O, j, rl, rs, (Post.bind q).imp ?_⟩
  rintro x H1 ⟨S1, r1, d, O1, e1, s1, p1, q1⟩
  cases d with
  | str s =>
    refine ⟨by rw [show x = .str s from p1]; rfl, S1, r1, L, O1, J.mono e1.s j, rl.mono e1, s1, (Post.bind q1).imp ?_⟩
    rintro vs H2 ⟨S2, r2, ds, O2, e2, s2, p2, q2⟩
    rw [show x = .str s from p1]
    exact h2 S2 r2 O2 H2 s vs ds W σ Q s2 p2 q2
  | hdl n => exact q1.elim
  | lst n => exact q1.elim
  | rol n => exact q1.elim
  | tup n => exact q1.elim
  | non => exact q1.elim
  | bl b => exact q1.elim
  | int i => exact q1.elim
theorem rows_post {h : Bool} {ys : List Str} {S : Hp} {r : Rg} {O : Store} {H : Hp} {σ : L2.St} {Q : VK} (rs : Rs X.K ad S r O H) (q : Post X.K ad (fun S r => Rp X.K S r) W σ S r Q (ofO (rows h ys O))) : rNewStrs ys H Q := by
  unfold rows at q
  rw [ofO_newLO] at q
  exact (newL_post rs (strs_rp ys) q).2
theorem ms_split (h : Bool) : MethS X ad "str.split" (gSplit h) where
  ok := ⟨_, mt_split, fun S r O H s vs ds W σ Q rs p q => by
    unfold gSplit at q
    split at q
    · rename_i b
      obtain ⟨v, vr, rfl, rfl, rfl⟩ := p
      split at q
      · rename_i hc
        exact ⟨s, b, rfl, rfl, hc.1, by rw [sizeLine_eq]; omega, rows_post rs q⟩
      · exact q.elim
    · exact q.elim⟩
theorem ms_join : MethS X ad "str.join" gJoin where
  ok := ⟨_, mt_join, fun S r O H s vs ds W σ Q rs p q => by
    unfold gJoin at q
    split at q
    · rename_i d
      obtain ⟨v, vr, rfl, p1, rfl⟩ := p
      split at q
      · rename_i xs hx
        split at q
        · rename_i ys hy
          split at q
          · rename_i hl
            obtain ⟨a, us, rfl, h1, h2⟩ := seqOf_ok rs p1 hx
            rw [strsOf_rp h2 hy] at h1
            exact ⟨s, a, ys, rfl, rfl, h1, hl, q S r H _ (Ext.refl _ _) rs rfl⟩
          · exact q.elim
        · exact q.elim
      · exact q.elim
    · exact q.elim⟩
theorem ms_txt2 {id : String} {f : Str → Str → D} {g : Str → Str → V} (h : MtR X id (fun x xs H Q => ∃ a b, x = .str a ∧ xs = [.str b] ∧ Q (g a b) H)) (hf : ∀ a b S r, Rp X.K S r (f a b) (g a b)) : MethS X ad id (gTxt2 f) where
  ok := ⟨_, h, fun S r O H s vs ds W σ Q rs p q => by
    unfold gTxt2 at q
    split at q
    · rename_i b
      obtain ⟨v, vr, rfl, rfl, rfl⟩ := p
      exact ⟨s, b, rfl, rfl, q S r H _ (Ext.refl _ _) rs (hf s b S r)⟩
    · exact q.elim⟩
theorem ms_ends : MethS X ad "str.endswith" gEnds := ms_txt2 (g := fun a b => .bl (Txt.endswith a b)) mt_endswith fun _ _ _ _ => rfl
end
end DK
end
section
set_option Elab.async false
set_option linter.all false
set_option autoImplicit false
set_option maxRecDepth 100000
set_option maxHeartbeats 4000000
/-! DKHeadI: the head's facts of own errors with an __init__; raising them. -/
namespace DK
open PySem L2
def oexOk (K : PySem.W.Frag) (C : Addr) : Bool := match K.lookup C with
  | some ⟨.type t, _, .cls cd, sl⟩ => decide (t = "type") && (decide (cd.mro.head? = some (.ref C)) && (PySem.HandSPX.refsVE (cd.mro.drop 1) && (cd.hasDict && (!cd.hasDel && (match sl.toList with
    | [_, _, _, _, some (.builtin id), _] => decide (id = "ValueError.__new__")
    | _ => false)))))
  | _ => false
theorem oexOk_ok {K : PySem.W.Frag} {C : Addr} (h : oexOk K C = true) : ∃ nm q N bs bm sn sub ab col dd k0 k1 k2 k3 k5, K.lookup C = some (excClassObj nm q C N bs bm true sn sub ab col dd k0 k1 k2 k3 k5 "ValueError.__new__") ∧ PySem.HandSPX.refsVE bm = true := by
  unfold oexOk at h
  split at h
  · rename_i t dd cd sl hl
    obtain ⟨h1, h⟩ := He.ba h
    obtain ⟨h2, h⟩ := He.ba h
    obtain ⟨h3, h⟩ := He.ba h
    obtain ⟨h4, h⟩ := He.ba h
    obtain ⟨h5, h6⟩ := He.ba h
    have e1 := of_decide_eq_true h1
    have e2 := of_decide_eq_true h2
    obtain ⟨nm, bs, mro, ns, qn, hd, sn, sb, ab, col, del⟩ := cd
    have e4 : hd = true := h4
    have e5 : del = false := by
      have : (!del) = true := h5
      cases del
      · rfl
      · cases this
    subst e1 e4 e5
    cases mro with
    | nil => cases e2
    | cons m bm =>
      have em : m = .ref C := Option.some.inj e2
      subst em
      split at h6
      · rename_i k0 k1 k2 k3 id k5 hs
        have ei := of_decide_eq_true h6
        subst ei
        obtain ⟨sl⟩ := sl
        have hs : sl = [k0, k1, k2, k3, some (.builtin "ValueError.__new__"), k5] := hs
        subst hs
        exact ⟨nm, qn, ns, bs, bm, sn, sb, ab, col, dd, k0, k1, k2, k3, k5, hl, h3⟩
      · cases h6
  · cases h
/-- an error's __init__: its class, parameters, body, scope -/
structure IniD where
  cls : Str
  qual : Str
  params : Arguments
  body : List Stmt
  scope : Scope
abbrev FnC : Type := Option (Str × Str × Arguments × FuncBody × Scope × Addr × List Str × Value × Addr)
def IniD.at_ (d : IniD) : Str × Option Str := (d.cls, some "__init__")
def fnC (K : PySem.W.Frag) (p : Str × Option Str) : FnC := match K.lookup (He.fAd K p) with
  | some ⟨_, _, .func fd, _⟩ => some (fd.name, fd.qualname, fd.params, fd.body, fd.scope, fd.globals, fd.closure.map (·.1), fd.defaults, fd.builtins)
  | _ => none
def IniD.val (d : IniD) : FnC := some (("__init__" : Str), d.qual, d.params, FuncBody.stmts d.body, d.scope, mainGlobals, [("__class__" : Str)], Value.none, builtinsNs)
def IniD.ok (K : PySem.W.Frag) (main : Str) (d : IniD) : Bool := match K.lookup (He.fAd K d.at_) with
  | some ⟨_, _, .func fd, _⟩ => (match fd.closure, fd.code with
    | [(_, cc)], .ref cda => PySem.W.codeIn K (.ref cda) d.qual && ((match K.lookup cc with
        | some ⟨_, _, .cell (some v), _⟩ => decide (v = .ref (He.ga K d.cls))
        | _ => false) && ((match K.lookup cda with
        | some ⟨_, _, .fields vs, _⟩ => (match vs[2]? with
          | some (Value.str x _) => decide (x = main)
          | _ => false)
        | _ => false) && decide (PySem.W.mroIn K (He.ga K d.cls) (.ref (He.ga K d.cls)) = some true ∧ PySem.W.ks_superIn K (He.ga K d.cls) (He.ga K d.cls) "__init__" = some (some (.builtin "ValueError.__init__")) ∧ PySem.W.subIn K (.ref (He.ga K d.cls)) (.type "ValueError") = some true
          ∧ PySem.W.nsIn K cStatics "thirdparty.any" = some none ∧ PySem.W.nsIn K mainGlobals "super" = some none ∧ PySem.W.findIn K (.ref (He.ga K d.cls)) "__setattr__" = some (some (.builtin "object.__setattr__")) ∧ PySem.W.subIn K (.ref (He.ga K d.cls)) (.type "BaseException") = some true
          ∧ PySem.W.typeIn K (.ref (He.ga K d.cls)) = some (.type "type") ∧ PySem.W.keepIn K (.ref (He.ga K d.cls)) = true ∧ PySem.W.findIn K (.ref (He.ga K d.cls)) "__init__" = some (some (.ref (He.fAd K d.at_))) ∧ PySem.W.typeIn K (.ref (He.fAd K d.at_)) = some (.type "function") ∧ oexOk K (He.ga K d.cls) = true)))
    | _, _ => false)
  | _ => false
/-- what is known of it -/
structure IniK (K : PySem.W.Frag) (main : Str) (d : IniD) : Prop where
  lk : ∃ oc od kV doc pm an cda ct cc osl, K.lookup (He.fAd K d.at_) = some ⟨oc, od, .func (PySem.W.ksFn "__init__" d.qual d.params d.body d.scope .none kV doc pm an (.ref cda) ct cc), osl⟩ ∧ PySem.W.codeIn K (.ref cda) d.qual = true ∧ SupK K main (He.fAd K d.at_) (He.ga K d.cls) cc cda
  T : OexC K (He.ga K d.cls)
  iC : PySem.W.findIn K (.ref (He.ga K d.cls)) "__init__" = some (some (.ref (He.fAd K d.at_)))
  tI : PySem.W.typeIn K (.ref (He.fAd K d.at_)) = some (.type "function")
theorem iniK_of {K : PySem.W.Frag} {main : Str} {d : IniD} (e : fnC K d.at_ = d.val) (c : d.ok K main = true) : IniK K main d := by
  unfold IniD.ok at c
  unfold fnC at e
  cases q : K.lookup (He.fAd K d.at_) with
  | none => rw [q] at c; cases c
  | some o =>
    obtain ⟨oc, od, dt, osl⟩ := o
    rw [q] at c e
    cases dt with
    | func fd =>
      obtain ⟨n1, n2, n3, n4, n5, n6, n7, n8, n9, n10, n11, n12, n13, n14, n15⟩ := fd
      have e2 : (some (n1, n2, n3, n4, n5, n6, n7.map (·.1), n8, n15) : FnC) = some (("__init__" : Str), d.qual, d.params, FuncBody.stmts d.body, d.scope, mainGlobals, [("__class__" : Str)], Value.none, builtinsNs) := e
      simp only [Option.some.injEq, Prod.mk.injEq] at e2
      obtain ⟨h1, h2, h3, h4, h5, h6, h7, h8, h9⟩ := e2
      subst h1 h2 h3 h4 h5 h6 h8 h9
      cases n7 with
      | nil => cases h7
      | cons p r =>
        cases r with
        | cons _ _ => simp at h7
        | nil =>
          obtain ⟨pn, cc⟩ := p
          have hpn : pn = "__class__" := by simpa using h7
          subst hpn
          cases n13 with
          | ref cda =>
            obtain ⟨c1, c⟩ := He.ba c
            obtain ⟨c2, c⟩ := He.ba c
            obtain ⟨c3, c4⟩ := He.ba c
            obtain ⟨g1, g2, g3, g4, g5, g6, g7, g8, g9, g10, g11, g12⟩ := of_decide_eq_true c4
            refine ⟨⟨oc, od, _, _, _, _, cda, _, cc, osl, q, c1, ?_, ?_, g1, g2, g3, g4, g5⟩, ⟨oexOk_ok g12, g6, g7, g8, g9⟩, g10, g11⟩
            · split at c2
              · rename_i cl cld v csl hc
                have := of_decide_eq_true c2
                subst this
                exact ⟨_, _, _, hc⟩
              · cases c2
            · split at c3
              · rename_i ccl cdd vs ccs hc
                split at c3
                · rename_i x tf hv
                  have := of_decide_eq_true c3
                  subst this
                  exact ⟨_, _, _, _, tf, hc, hv⟩
                · cases c3
              · cases c3
          | _ => cases c
    | _ => cases c
/-! ### the Hook -/
abbrev AlI : Type := He.AlD × Bool × List FnC
structure SaysI (fa : List He.Fa) (fn : List He.DefD) (fx : List Fx) (main : Str) (ins : List IniD) (K : PySem.W.Frag) : Prop where
  c : He.SaysD fa fn K
  x : allFx fx K = true
  i : ∀ d ∈ ins, IniK K main d
def obsI (fa : List He.Fa) (fn : List He.DefD) (fx : List Fx) (main : Str) (ins : List IniD) (K : PySem.W.Frag) : AlI := (He.obsD fa fn K, allFx fx K && ins.all (fun d => d.ok K main), ins.map fun d => fnC K d.at_)
theorem saysI_of {fa : List He.Fa} {fn : List He.DefD} {fx : List Fx} {main : Str} {ins : List IniD} {K : PySem.W.Frag} (e : obsI fa fn fx main ins K = (He.valD fn, true, ins.map IniD.val)) : SaysI fa fn fx main ins K := by
  have e1 : He.obsD fa fn K = He.valD fn := congrArg (fun z : AlI => z.1) e
  have e2 : (allFx fx K && ins.all (fun d => d.ok K main)) = true := congrArg (fun z : AlI => z.2.1) e
  have e3 : ins.map (fun d => fnC K d.at_) = ins.map IniD.val := congrArg (fun z : AlI => z.2.2) e
  obtain ⟨h1, h2⟩ := He.ba e2
  refine ⟨e1, h1, fun d hd => iniK_of ?_ (List.all_eq_true.mp h2 d hd)⟩
  obtain ⟨n, hn, rfl⟩ := List.mem_iff_getElem.mp hd
  have := congrArg (fun l : List FnC => l[n]?) e3
  simp only [List.getElem?_map, List.getElem?_eq_getElem hn, Option.map_some, Option.some.injEq] at this
  exact this
/-! ### a def that makes an error -/
/-- the mirror of an __init__: of the arguments the fields -/
abbrev XM := List D → Store → Option (List (Str × D) × Store)
def HasX (P : Program) (w : World) (K : PySem.W.Frag) (mg : Str → Option Value) (base : Heap) (k : Nat) (c : Str) (n : Nat) (mk : XM) : Prop :=
  OexC K (He.ga K c) ∧ PySem.W.findIn K (.ref (He.ga K c)) "__init__" = some (some (.ref (He.fAd K (c, some "__init__")))) ∧ PySem.W.typeIn K (.ref (He.fAd K (c, some "__init__"))) = some (.type "function") ∧
  ∃ fd ps sp, FnOk P w K mg base (L2.CX P w) k (He.fAd K (c, some "__init__")) fd ps sp ∧ Binds K fd ps [] ∧ ∀ (S : Hp) (r : Rg) (O : Store) (H : Hp) (a : Addr) (ds : List D) (ws : List V) (fs : List (Str × D)) (O' : Store) (Qx : Option Addr → Hp → Prop) (E : XK), Rs K (He.ga K) S r O H → RpAll K S r ds ws → ds.length = n → H a = none → mk ds O = some (fs, O') →
    EndI K (He.ga K) S r O' fs Qx → sp (V.ref a :: ws) (upd H a (exo a (He.ga K c) none)) (QI a (He.ga K c) H Qx) E
def sRaiseX (c : Str) (n : Nat) (mk : XM) (t : AM) : SM := fun L O => ofRes L (t L O) fun ds O1 => if ds.length = n ∧ n ≤ 1000 then (match mk ds O1 with
  | some p => .exc ⟨c, some p.1⟩ L p.2
  | none => .bad) else .bad
theorem ds_raiseX {X : Cx} {J : JP} {W : WX} {k n : Nat} {c x : Str} {mk : XM} {p p2 pos : Pos} {e : Expr} {es : List Expr} {mt : AM} (hc : X.calm = true) (tk : Takes X W) (F : HasX X.prog X.w X.K X.mg X.base k c n mk) (hr : Room (k + 1) X.A) (hg : Gl X x) (hm : X.mg x = some (.ref (He.ga X.K c))) (ha : PA X (e :: es) (tA X.K (He.ga X.K) J W mt))
    (hdb : (x == ("__debug__" : Str)) = false := by decide) (he : starEach (e :: es) X.env = (false, eval e X.env) :: starEach es X.env := by rfl) (hpl : (backTo p2 (starEach es X.env)).any (·.1) = false := by rfl) :
    PS X (.Raise (some (.Call (.Name x p) (e :: es) [] p2)) none pos) (tS X.K (He.ga X.K) J W (sRaiseX c n mk mt)) := by
  obtain ⟨T, iC, tI, fd, ps, sp, F1, hb, hsp⟩ := F
  have hx : Passes (L2.CX X.prog X.w) X (fun _ _ _ => False) := fun pins σ H s e s' I c => by
    obtain ⟨_, _, _, _, _, _, _, _, _, _, _, _, z⟩ := c
    exact z.elim
  refine ps_imp (ps_raise hc tk (pmk_oex T iC tI F1 hr hb .nil hx hg hm ha hdb he hpl)) ?_
  rintro En σ H ⟨S, r, L, O, j, rl, rs, z⟩
  refine ⟨S, r, L, O, j, rl, rs, (bindS j rl z).imp ?_⟩
  rintro vs H1 ⟨S1, r1, ds, O1, e1, q1, p1, k1⟩
  split at k1
  · rename_i hn
    split at k1
    · rename_i fp hmk
      refine ⟨by rw [p1.length, hn.1]; exact hn.2, fun a ha => ?_⟩
      rw [List.append_nil]
      refine hsp S1 r1 O1 H1 a ds vs fp.1 fp.2 (fun d H' => W (.ref (He.ga X.K c)) d σ H') _ q1 p1 hn.1 ha hmk ⟨fun S2 r2 H4 dd gs e2 q2 hdd pg => ?_⟩
      exact k1 S2 r2 σ H4 (some dd) e2 (J.mono (e1.trans e2).s j) (rl.mono (e1.trans e2)) q2 ⟨dd, gs, rfl, hdd, pg⟩
    · exact k1.elim
  · exact k1.elim
end DK
end
section
set_option Elab.async false
set_option linter.all false
set_option autoImplicit false
set_option maxRecDepth 100000
set_option maxHeartbeats 4000000
/-! DKRun: the run of the top, looked at part by part (each part by itself is less for the kernel to hold). -/
namespace DK
open PySem L2 HandSHeadRun
/-- one look at the run's end -/
def hkL (α : Type) (v : α) : PySem.W.Hook where
  α := α
  obs := fun _ => v
  val := fun _ => v
  says := fun _ _ => True
  of := fun _ _ _ => trivial
  keeps := fun _ _ _ h _ => h
theorem run_of {r : PySem.W.OpenRow} {q : Program} {H : PySem.W.Hook} {ob : PySem.W.SharedT → H.α} {M : Nat} {loose : List PySem.Str} {w : World} {α : Type} {va : α} {a : PySem.W.SharedT → α} (h : RunEq r q (hkL α va) a M loose w) (j : ∀ s, a s = va → ob s = H.val w) : RunEq r q H ob M loose w := fun os => by
  obtain ⟨s, e, z⟩ := Option.map_eq_some_iff.mp (h os)
  refine Option.map_eq_some_iff.mpr ⟨s, e, ?_⟩
  have z1 := congrArg (fun z => z.1) z
  have z2 := congrArg (fun z => z.2.1) z
  have z3 : a s = va := congrArg (fun z => z.2.2) z
  exact Prod.ext z1 (Prod.ext z2 (j s z3))
theorem run_and {r : PySem.W.OpenRow} {q : Program} {M : Nat} {loose : List PySem.Str} {w : World} {α β : Type} {va : α} {vb : β} {a : PySem.W.SharedT → α} {b : PySem.W.SharedT → β} (h : RunEq r q (hkL α va) a M loose w) (g : RunEq r q (hkL β vb) b M loose w) : RunEq r q (hkL (α × β) (va, vb)) (fun s => (a s, b s)) M loose w := fun os => by
  obtain ⟨s, e, z⟩ := Option.map_eq_some_iff.mp (h os)
  obtain ⟨s', e', z'⟩ := Option.map_eq_some_iff.mp (g os)
  have es : s = s' := Option.some.inj (e.symm.trans e')
  subst es
  refine Option.map_eq_some_iff.mpr ⟨s, e, ?_⟩
  have z1 := congrArg (fun z => z.1) z
  have z2 := congrArg (fun z => z.2.1) z
  have z3 : a s = va := congrArg (fun z => z.2.2) z
  have z4 : b s = vb := congrArg (fun z => z.2.2) z'
  exact Prod.ext z1 (Prod.ext z2 (Prod.ext z3 z4))
/-- what a function names -/
def kidsF (fd : FuncData) : List Addr := He.refV fd.code ++ (He.refV fd.defaults ++ (He.refV fd.kwdefaults ++ fd.closure.map (·.2)))
def ownF (g : Addr → Option Obj) (a : Addr) : List Addr := match g a with
  | some ⟨_, _, .func fd, _⟩ => kidsF fd
  | _ => []
/-- what stands in a namespace -/
def inNs (g : Addr → Option Obj) (a : Addr) : List Addr := match g a with
  | some ⟨_, _, .dict es _, _⟩ => es.toList.flatMap fun e => He.refV e.val
  | _ => []
/-- what a global names: a function's code, a class's methods and their code -/
def ownG (g : Addr → Option Obj) (a : Addr) : List Addr := match g a with
  | some ⟨_, _, .func fd, _⟩ => kidsF fd
  | some ⟨_, _, .cls cd, _⟩ => cd.ns :: (inNs g cd.ns ++ (inNs g cd.ns).flatMap (ownF g))
  | _ => []
def asJ (g : Addr → Option Obj) : List Addr := cStatics :: mainGlobals :: (inNs g mainGlobals ++ (inNs g mainGlobals).flatMap (ownG g))
def hookJ (fa : List He.Fa) (fn : List He.DefD) (fx : List Fx) (main : Str) (ins : List IniD) : PySem.W.Hook where
  α := AlI
  obs := fun s => obsI fa fn fx main ins (He.frG s.heap.get? (asJ s.heap.get?))
  val := fun _ => (He.valD fn, true, ins.map IniD.val)
  says := fun _ h => ∃ K : PySem.W.Frag, K.In h ∧ SaysI fa fn fx main ins K
  of := fun _ _ e => ⟨_, He.frG_in, saysI_of e⟩
  keeps := fun _ _ _ ⟨K, hK, c⟩ k => ⟨K, PySem.W.Frag.In.keeps hK k, c⟩
def obsJG (fa : List He.Fa) (fn : List He.DefD) (fx : List Fx) (main : Str) (ins : List IniD) (g : Addr → Option Obj) : AlI := obsI fa fn fx main ins (He.frG g (asJ g))
theorem obsJG_eq {fa : List He.Fa} {fn : List He.DefD} {fx : List Fx} {main : Str} {ins : List IniD} {g : Addr → Option Obj} {s : Shared} (h : ∀ a, g a = s.heap.get? a) : obsJG fa fn fx main ins g = (hookJ fa fn fx main ins).obs s := by
  have e : g = s.heap.get? := funext h
  rw [e] <;> rfl
/-- the objects that are looked at -/
def frT (s : PySem.W.SharedT) : PySem.W.Frag := He.frG (getT s) (asJ (getT s))
def lookA (fa : List He.Fa) (s : PySem.W.SharedT) : Bool := fa.all fun f => f.ok (frT s)
def lookD (fn : List He.DefD) (s : PySem.W.SharedT) : Bool := fn.all fun d => d.ok (frT s)
def lookV (fn : List He.DefD) (s : PySem.W.SharedT) : List He.FnW := fn.map fun d => He.fnW (frT s) d.at_
def lookX (fx : List Fx) (s : PySem.W.SharedT) : Bool := allFx fx (frT s)
def lookI (main : Str) (ins : List IniD) (s : PySem.W.SharedT) : Bool × List FnC := (ins.all fun d => d.ok (frT s) main, ins.map fun d => fnC (frT s) d.at_)
theorem look_join {fa : List He.Fa} {fn : List He.DefD} {fx : List Fx} {main : Str} {ins : List IniD} {s : PySem.W.SharedT} (h : ((lookA fa s, lookX fx s, lookI main ins s), (lookD fn s, lookV fn s)) = ((true, true, (true, ins.map IniD.val)), (true, fn.map He.DefD.val))) :
    obsJG fa fn fx main ins (getT s) = (He.valD fn, true, ins.map IniD.val) := by
  have h1 : lookA fa s = true := congrArg (fun z => z.1.1) h
  have h2 : lookX fx s = true := congrArg (fun z => z.1.2.1) h
  have h3 : (ins.all fun d => d.ok (frT s) main) = true := congrArg (fun z => z.1.2.2.1) h
  have h4 : (ins.map fun d => fnC (frT s) d.at_) = ins.map IniD.val := congrArg (fun z => z.1.2.2.2) h
  have h5 : lookD fn s = true := congrArg (fun z => z.2.1) h
  have h6 : lookV fn s = fn.map He.DefD.val := congrArg (fun z => z.2.2) h
  unfold lookA at h1
  unfold lookX at h2
  unfold lookD at h5
  unfold lookV at h6
  show obsI fa fn fx main ins (frT s) = _
  unfold obsI He.obsD He.valD
  rw [h1, h2, h3, h4, h5, h6]
  rfl
end DK
end
section
set_option Elab.async false
set_option linter.all false
set_option autoImplicit false
set_option maxRecDepth 100000
set_option maxHeartbeats 4000000
/-! DKMeth: methods of a list of the store (pop, insert, extend, remove, reverse), by mirrors. -/
namespace DK
open PySem L2
end DK
end
section
set_option Elab.async false
set_option linter.all false
set_option autoImplicit false
set_option maxRecDepth 100000
set_option maxHeartbeats 4000000
/-! DKDict: dicts of the store, sorting. -/
namespace DK
open PySem L2
def valD (kvs : List (Key × D)) (k : Key) : Option D := (kvs.find? fun kv => decide (kv.1 = k)).map (·.2)
section
variable {K : PySem.W.Frag} {ad : Str → Addr} {S : Hp} {r : Rg} {O : Store} {H : Hp}
theorem RpP.val {k : Key} : ∀ {fs : List (Key × D)} {gs : List (Key × V)}, RpP K S r fs gs → (∀ d, valD fs k = some d → ∃ v, valV gs k = some v ∧ Rp K S r d v) ∧ (valD fs k = none → valV gs k = none)
  | [], gs, h => by
    rw [show gs = [] from h]
    exact ⟨fun d e => (by cases e), fun _ => rfl⟩
  | (g, x) :: fs, gs, h => by
    obtain ⟨v, gr, rfl, h1, h2⟩ := h
    obtain ⟨i1, i2⟩ := RpP.val (k := k) h2
    by_cases e : g = k
    · have e1 : valD ((g, x) :: fs) k = some x := by simp [valD, List.find?_cons, e]
      have e2 : valV ((g, v) :: gr) k = some v := valV_pos e
      exact ⟨fun d hd => ⟨v, e2, by rw [e1] at hd; cases hd; exact h1⟩, fun hn => by rw [e1] at hn; cases hn⟩
    · have e1 : valD ((g, x) :: fs) k = valD fs k := by simp [valD, List.find?_cons, e]
      have e2 : valV ((g, v) :: gr) k = valV gr k := valV_neg e
      rw [e1, e2]
      exact ⟨i1, i2⟩
end
/-! ### list, dict, sorted -/
end DK
end
section
set_option Elab.async false
set_option linter.all false
set_option autoImplicit false
set_option maxRecDepth 100000
set_option maxHeartbeats 4000000
/-! DKConv: tuple(list), and other conversions, by mirrors. -/
namespace DK
open PySem L2
end DK
end
section
set_option Elab.async false
set_option linter.all false
set_option autoImplicit false
set_option maxRecDepth 100000
set_option maxHeartbeats 4000000
/-! DKMin: min and max of two texts, by mirrors. -/
namespace DK
open PySem PySem.Spec PyProof.Rows L2
end DK
end
section
set_option Elab.async false
set_option linter.all false
set_option autoImplicit false
set_option maxRecDepth 100000
set_option maxHeartbeats 4000000
/-! DKFrz: a list of the store that nobody writes any more is let be for good. -/
namespace DK
open PySem L2
end DK
end
section
set_option Elab.async false
set_option linter.all false
set_option autoImplicit false
set_option maxRecDepth 100000
set_option maxHeartbeats 4000000
/-! DKRev: list(reversed(a list)), by mirrors. -/
namespace DK
open PySem PySem.Spec PyProof.Rows L2 RT
end DK
end
section
set_option Elab.async false
set_option linter.all false
set_option autoImplicit false
set_option maxRecDepth 100000
set_option maxHeartbeats 4000000
/-! DKOwn: == by an own __eq__, isinstance of an own class, remove from a list of texts; by mirrors. -/
namespace DK
open PySem L2
/-! ### remove from a list of texts -/
end DK
end
section
set_option Elab.async false
set_option linter.all false
set_option autoImplicit false
set_option maxRecDepth 100000
set_option maxHeartbeats 4000000
/-! DKMany: several except clauses, by mirrors; suites that are never asked. -/
namespace DK
open PySem L2
/-- a clause: which classes it takes, and its suite's mirrors -/
structure HdM where
  sub : Str → Option Bool
  ss : Str → SM
section
variable {X : Cx} {ad : Str → Addr} {J : JP} {W : WX} {pos : Pos} {body : List Stmt} {sb : SM} {st : List Stmt}
/-- the clauses, one by one -/
inductive HdsD (X : Cx) (ad : Str → Addr) : List ExceptHandler → List HdM → List (Value × (Addr → Value → Option Addr → TS)) → Prop
  | nil : HdsD X ad [] [] []
  | cons {x : Str} {cv : Value} {h : HdM} {b0 : Stmt} {suite : List Stmt} {np pos' : Pos} {hds : List ExceptHandler} {ms : List HdM} {l : List (Value × (Addr → Value → Option Addr → TS))} (hc : Names X x cv)
      (hsub : ∀ nm b, h.sub nm = some b → PySem.W.exmOne X.K (.ref (ad nm)) cv = some b)
      (hsu : ∀ (nm : Str) (a : Addr) (oe : Obj) (pn : List (Addr × Obj)), h.sub nm = some true → Zc (.ref (ad nm)) none oe → (∃ vs, oe.data = .fields vs) → PSs (X.suite a ((a, oe) :: pn)) (b0 :: suite) (tS X.K ad JT WF (h.ss nm)))
      (r : HdsD X ad hds ms l) : HdsD X ad (.ExceptHandler (some (.Name x np)) none (b0 :: suite) pos' :: hds) (h :: ms)
        ((cv, fun a cls d En σ H => ∃ nm : Str, (cls = .ref (ad nm) ∧ d = none ∧ h.sub nm = some true) ∧ tS X.K ad JT WF (h.ss nm) En σ H) :: l)
theorem HdsD.ok {hds : List ExceptHandler} {ms : List HdM} {l : List (Value × (Addr → Value → Option Addr → TS))} (k : HdsD X ad hds ms l) : HdsOk X hds l := by
  induction k with
  | nil => exact .nil
  | cons hc hsub hsu r ih =>
    refine .cons hc (fun a oe cls d pn hz hfl => ?_) ih
    exact pss_ex fun nm hp => by
      obtain ⟨rfl, rfl, h3⟩ := hp
      exact hsu nm a oe pn h3 hz hfl
end
end DK
end
section
set_option Elab.async false
set_option linter.all false
set_option autoImplicit false
set_option maxRecDepth 100000
set_option maxHeartbeats 4000000
/-! DKSortD: sorted and min of lists of alike data (tuples of ints and texts, any length), by mirrors. -/
namespace DK
open PySem PySem.Spec PyProof.Rows L2 PySem.W
/-! ### min -/
/-! ### sorted of a dict by texts, any length -/
end DK
end
section
set_option Elab.async false
set_option linter.all false
set_option autoImplicit false
set_option maxRecDepth 100000
set_option maxHeartbeats 4000000
/-! DKLock: comprehensions over a dict of the store, which is locked meanwhile; by mirrors. -/
namespace DK
open PySem L2
/-- S without what stands at a -/
def del (S : Hp) (a : Addr) : Hp := fun b => if b = a then none else S b
theorem del_ne {S : Hp} {a b : Addr} (h : b ≠ a) : del S a b = S b := if_neg h
end DK
end
section
set_option Elab.async false
set_option linter.all false
set_option autoImplicit false
set_option maxRecDepth 100000
set_option maxHeartbeats 4000000
/-! DKDictC: dict comprehensions, by mirrors. -/
namespace DK
open PySem L2
end DK
end
section
set_option Elab.async false
set_option linter.all false
set_option autoImplicit false
set_option maxRecDepth 100000
set_option maxHeartbeats 4000000
/-! DKIdx: index of a text in a list of texts, by mirrors. -/
namespace DK
open PySem L2
end DK
end
section
set_option Elab.async false
set_option linter.all false
set_option autoImplicit false
set_option maxRecDepth 100000
set_option maxHeartbeats 4000000
/-! DKSetC: sorted({.. for ..}) over ints, by a mirror. -/
namespace DK
open PySem L2 PyProof.Rows
/-! ### a set comprehension over any kind of sets -/
/-! ### ints -/
/-! ### the mirror -/
end DK
end
section
set_option Elab.async false
set_option linter.all false
set_option autoImplicit false
set_option maxRecDepth 100000
set_option maxHeartbeats 4000000
/-! DKIsB: `is True`, `is False` of truth values. -/
namespace DK
open PySem L2
end DK
end
section
set_option Elab.async false
set_option linter.all false
set_option autoImplicit false
set_option maxRecDepth 100000
set_option maxHeartbeats 4000000
/-! DKOrdD: < > <= >= of data that are alike (tuples), in and not in with data, by mirrors. -/
namespace DK
open PySem PySem.Spec PyProof.Rows L2 PySem.W
end DK
end
section
set_option Elab.async false
set_option linter.all false
set_option autoImplicit false
set_option maxRecDepth 100000
set_option maxHeartbeats 4000000
/-! DKForD: `for x in d`, d a dict of the store, which is locked meanwhile, by mirrors. -/
namespace DK
open PySem PySem.Spec PyProof.Rows L2 PySem.W
end DK
end
section
set_option Elab.async false
set_option linter.all false
set_option autoImplicit false
set_option maxRecDepth 100000
set_option maxHeartbeats 4000000
/-! DKEqV: == of lists and dicts that are equal, whatever stands within. -/
namespace DK
open PySem L2
end DK
end
section
set_option Elab.async false
set_option linter.all false
set_option autoImplicit false
set_option maxRecDepth 100000
set_option maxHeartbeats 4000000
/-! DKPopD: d.pop(k) of a dict, by mirrors. -/
namespace DK
open PySem L2
end DK
end
section
set_option Elab.async false
set_option linter.all false
set_option autoImplicit false
set_option maxRecDepth 100000
set_option maxHeartbeats 4000000
/-! DKSetT: len({.. for ..}) over texts, by a mirror. -/
namespace DK
open PySem L2 PyProof.Rows
/-! ### texts -/
/-! ### the mirror -/
end DK
end
section
set_option Elab.async false
set_option linter.all false
set_option autoImplicit false
set_option maxRecDepth 100000
set_option maxHeartbeats 4000000
/-! DKIsN: `is not True`, `is not False` of truth values. -/
namespace DK
open PySem L2
end DK
end
section
set_option Elab.async false
set_option linter.all false
set_option autoImplicit false
set_option maxRecDepth 100000
set_option maxHeartbeats 4000000
/-! DKMaxD: max of alike data, by a mirror. -/
namespace DK
open PySem PySem.Spec PyProof.Rows L2 PySem.W
end DK
end
section
set_option Elab.async false
set_option linter.all false
set_option autoImplicit false
set_option maxRecDepth 100000
set_option maxHeartbeats 4000000
/-! DKInR: `k in d` of a dict that may be locked, by a mirror. -/
namespace DK
open PySem L2
end DK
end
section
set_option Elab.async false
set_option linter.all false
set_option autoImplicit false
set_option maxRecDepth 100000
set_option maxHeartbeats 4000000
/-! DKNeV: != of two lists that are the same, their items lists or dicts or flat; != of such dicts: False. -/
namespace DK
open PySem L2
end DK
end
section
set_option Elab.async false
set_option linter.all false
set_option autoImplicit false
set_option maxRecDepth 100000
set_option maxHeartbeats 4000000
/-! DKDOne: {k: v}, a dict of one pair, by mirrors. -/
namespace DK
open PySem L2
end DK
end
section
set_option Elab.async false
set_option linter.all false
set_option autoImplicit false
set_option maxRecDepth 100000
set_option maxHeartbeats 4000000
/-! DKTry: except clauses that take errors with fields. -/
namespace DK
open PySem L2
/-- a flat value's place -/
theorem flat_rp {K : PySem.W.Frag} {S : Hp} {r : Rg} {d : D} {v : V} (h : flatOf d = some v) : Rp K S r d v := by
  cases d <;> cases h <;> exact rfl
def flatFs : List (Str × D) → Option (List (Str × V))
  | [] => some []
  | (f, d) :: r => match flatOf d, flatFs r with
    | some v, some vs => some ((f, v) :: vs)
    | _, _ => none
theorem flatFs_rp {K : PySem.W.Frag} {S : Hp} {r : Rg} : ∀ {fs : List (Str × D)} {gs us : List (Str × V)}, flatFs fs = some us → RpP K S r fs gs → gs = us
  | [], gs, us, h, p => by cases h; exact p
  | (f, d) :: fs, gs, us, h, p => by
    obtain ⟨v, gr, rfl, h1, h2⟩ := p
    unfold flatFs at h
    split at h
    · rename_i u vs e1 e2
      cases h
      rw [flatFs_rp e2 h2, (flatOf_ok e1 h1).1]
    · cases h
theorem flatFs_look {f : Str} {d : D} : ∀ {fs : List (Str × D)} {us : List (Str × V)}, flatFs fs = some us → fs.lookup f = some d → ∃ v, us.lookup f = some v ∧ flatOf d = some v
  | [], us, h, e => by cases e
  | (g, x) :: fs, us, h, e => by
    unfold flatFs at h
    split at h
    · rename_i u vs e1 e2
      cases h
      rw [List.lookup_cons] at e ⊢
      cases hb : f == g with
      | true => rw [hb] at e; cases e; exact ⟨u, rfl, e1⟩
      | false => rw [hb] at e; exact flatFs_look e2 e
    · cases h
/-- the error's own dict, if it has one -/
def XfR (x : Exn) (od : Option Addr) (S : Hp) : Prop := match x.fs with
  | none => od = none
  | some fs => ∃ dd us, od = some dd ∧ S dd = some (.xd us) ∧ flatFs fs = some us
theorem XfR.mono {x : Exn} {od : Option Addr} {S S' : Hp} (e : Same S S') (h : XfR x od S) : XfR x od S' := by
  unfold XfR at *
  split at h
  · exact h
  · obtain ⟨dd, us, h1, h2, h3⟩ := h
    exact ⟨dd, us, h1, e _ _ h2, h3⟩
def okX (x : Exn) : Bool := match x.fs with
  | none => true
  | some fs => (flatFs fs).isSome
theorem xfR_of {K : PySem.W.Frag} {S : Hp} {r : Rg} {x : Exn} {d : Option Addr} (h : ExR K S r x d) (o : okX x = true) : XfR x d S := by
  obtain ⟨c, fs⟩ := x
  cases fs with
  | none => exact h
  | some fs =>
    obtain ⟨dd, gs, h1, h2, h3⟩ := h
    obtain ⟨us, hu⟩ := Option.isSome_iff_exists.mp (show (flatFs fs).isSome = true from o)
    rw [flatFs_rp hu h3] at h2
    exact ⟨dd, us, h1, h2, hu⟩
def Jf (i : Nat) (a : Addr) (x : Exn) (od : Option Addr) : JP := ⟨fun σ S => σ[i]? = some (some (.ref a)) ∧ XfR x od S, fun e h => ⟨h.1, h.2.mono e⟩⟩
def Jn (x : Exn) (od : Option Addr) : JP := ⟨fun _ S => XfR x od S, fun e h => h.mono e⟩
def sTryE (subc : Str → Option Bool) (oi : Option Nat) (b : SM) (suite : Exn → SM) : SM := fun L O => match b L O with
  | .next L1 O1 => .next L1 O1
  | .ret d O1 => .ret d O1
  | .brk L1 O1 => .brk L1 O1
  | .cnt L1 O1 => .cnt L1 O1
  | .exc x L1 O1 => match subc x.cls with
    | some true => if okX x = true then (match oi with
      | some i => if i < L1.length then (match suite x (L1.set i none) O1 with
        | .next L2 O2 => .next (L2.set i none) O2
        | .ret d O2 => .ret d O2
        | .brk L2 O2 => .brk (L2.set i none) O2
        | .cnt L2 O2 => .cnt (L2.set i none) O2
        | _ => .bad) else .bad
      | none => (match suite x L1 O1 with
        | .next L2 O2 => .next L2 O2
        | .ret d O2 => .ret d O2
        | .brk L2 O2 => .brk L2 O2
        | .cnt L2 O2 => .cnt L2 O2
        | _ => .bad)) else .bad
    | some false => .exc x L1 O1
    | none => .bad
  | .bad => .bad
section
variable {X : Cx} {ad : Str → Addr} {W : WX} {pos pos' p p2 np : Pos} {e : Expr} {es : List Expr} {mt : AM} {c : Str} {body suite : List Stmt} {b0 : Stmt} {sb : SM} {ss : Exn → SM}
theorem ds_tryE_as {x n : Str} {i : Nat} {cv : Value} {subc : Str → Option Bool} (hs : X.stack = X.env :: X.outer) (hf : X.env.frame = some X.env.locals) (hN : X.N.Nodup) (hi : X.N[i]? = some n) (hln : X.env.kindOf n = some .local) (hc : Names X x cv) (tk : Takes X W)
    (hsub : ∀ nm b, subc nm = some b → PySem.W.exmOne X.K (.ref (ad nm)) cv = some b)
    (hb : ∀ (W : WX) (pn : List (Addr × Obj)) (xe : Value → Shared → Prop), Takes (X.tr pn xe) W → PassesOwn (model X.prog X.w) X.A X.env xe → PSs (X.tr pn xe) body (tS X.K ad JT W sb))
    (hsu : ∀ (y : Exn) (a : Addr) (od : Option Addr) (oe : Obj) (pn : List (Addr × Obj)), subc y.cls = some true → Zc (.ref (ad y.cls)) od oe → (∃ vs, oe.data = .fields vs) → PSs (X.suite a ((a, oe) :: pn)) (b0 :: suite) (tS X.K ad (Jf i a y od) WF (ss y))) :
    PS X (.Try body [.ExceptHandler (some (.Name x np)) (some n) (b0 :: suite) pos'] [] [] pos) (tS X.K ad JT W (sTryE subc (some i) sb ss)) := by
  refine ps_imp (ps_try_as (i := i) (tb := fun W => tS X.K ad JT W sb) (ts := fun a cls d En σ H => ∃ y : Exn, (cls = .ref (ad y.cls) ∧ subc y.cls = some true) ∧ tS X.K ad (Jf i a y d) WF (ss y) En σ H) hs hf hN hi hln hc tk hb ?_) ?_
  · intro a oe cls d pn hz hfl
    exact pss_ex fun y hp => by
      obtain ⟨rfl, h3⟩ := hp
      exact hsu y a d oe pn h3 hz hfl
  rintro En σ H ⟨S, r, L, O, j, rl, rs, z⟩
  refine ⟨S, r, L, O, j, rl, rs, ?_⟩
  unfold sTryE at z
  generalize sb L O = q at z
  cases q with
  | next L O => exact z
  | ret L O => exact z
  | brk L O => exact z
  | cnt L O => exact z
  | bad => exact z.elim
  | exc y L1 O1 =>
    intro S1 r1 σ1 H1 d e1 j1 l1 s1 hd
    cases hsc : subc y.cls with
    | none => simp only [hsc] at z; exact z.elim
    | some b =>
      simp only [hsc] at z
      refine ⟨b, hsub _ b hsc, fun hbt a ha => ?_, fun hbf => ?_⟩
      · subst hbt
        simp only at z
        split at z
        · rename_i ho
          split at z
          · rename_i hil
            refine ⟨y, ⟨rfl, hsc⟩, S1, r1, L1.set i none, O1, ⟨List.getElem?_set_self (by rw [l1.len]; exact hil), xfR_of hd ho⟩, l1.wipe i _, s1, ?_⟩
            generalize ss y (L1.set i none) O1 = q at z
            cases q with
            | next L2 O2 => exact fun S2 r2 σ2 H2 e2 j2 l2 s2 => z S2 r2 _ H2 (e1.trans e2) trivial (l2.wipe i none) s2
            | ret d O2 => exact fun S2 r2 H2 v e2 s2 p2 => z S2 r2 H2 v (e1.trans e2) s2 p2
            | brk L2 O2 => exact fun S2 r2 σ2 H2 e2 j2 l2 s2 => z S2 r2 _ H2 (e1.trans e2) trivial (l2.wipe i none) s2
            | cnt L2 O2 => exact fun S2 r2 σ2 H2 e2 j2 l2 s2 => z S2 r2 _ H2 (e1.trans e2) trivial (l2.wipe i none) s2
            | exc x L2 O2 => exact z.elim
            | bad => exact z.elim
          · exact z.elim
        · exact z.elim
      · subst hbf
        exact z S1 r1 σ1 H1 d e1 j1 l1 s1 hd
/-- err.f -/
def mXf (y : Exn) (f : Str) : EM := fun _ O => match y.fs with
  | some fs => match fs.lookup f with
    | some d => .ok d O
    | none => .bad
  | none => .bad
theorem de_xf {y : Exn} {a : Addr} {od : Option Addr} {oe : Obj} {pn : List (Addr × Obj)} {ex f : Str} {i : Nat} (T : XfC X.K (ad y.cls)) (hno : PySem.W.findIn X.K (.ref (ad y.cls)) f = some none) (hz : Zc (.ref (ad y.cls)) od oe) (hf : ∃ vs, oe.data = .fields vs) (hv : PE (X.suite a ((a, oe) :: pn)) (.Name ex p) (tVar i))
    (hb : attributeBase (.Name ex p) f X.env (eval (.Name ex p) X.env) = eval (.Name ex p) X.env := by rfl) : PE (X.suite a ((a, oe) :: pn)) (.Attribute (.Name ex p) f pos) (tE X.K ad (Jf i a y od) WF (mXf y f)) := by
  refine pe_imp (pe_xf T hno hz hf hv hb) ?_
  rintro σ H Q ⟨S, r, L, O, ⟨j1, j2⟩, rl, rs, z⟩
  obtain ⟨c, fs⟩ := y
  cases fs with
  | none => exact z.elim
  | some fs =>
    obtain ⟨dd, us, h1, h2, h3⟩ := j2
    replace z : Post X.K ad (fun S r => Rp X.K S r) WF σ S r Q (match fs.lookup f with | some d => .ok d O | none => .bad) := z
    split at z
    · rename_i d hd
      obtain ⟨v, hv1, hv2⟩ := flatFs_look h3 hd
      exact ⟨.ref a, j1, rfl, rfl, dd, us, v, h1, rs.sub _ _ h2, hv1, z S r H v (Ext.refl _ _) rs (flat_rp hv2)⟩
    · exact z.elim
end
/-! ### isinstance of an error, whatever its own dict -/
section
open PySem.W
variable {pr : Program} {wd : World} {Ar : Around} {Er : Value → Shared → Prop} {st : Shared} {Kf : Frag} {ex D : Addr} {oex : Obj} {odx : Option Obj}
theorem found_cls {C : Addr} {at1 g1 : Value} (hc : (clsIn Kf C).isSome = true) (ha : findIn Kf (.ref C) "__class__" = some (some at1)) (hg : specialIn Kf at1 "__get__" = some (some g1)) (ht : takesIn Kf at1 = some true) : findObj Kf C odx "__class__" = some (.bind g1 at1) := by
  obtain ⟨cd, hc⟩ := Option.isSome_iff_exists.mp hc
  unfold findObj
  rw [hc, Option.bind_some, ha, Option.bind_some]
  simp [hg, ht]
theorem class_of_exc {Q : Option Value → Shared → Prop} (C : ExcC Kf D) (KI : Kf.In st.heap) (I : InstAt st.heap ex oex D odx) (h : Q (some (.ref D)) { st with toks := st.toks + 1 }) : wpAny (model pr wd) Ar (getAttr? (.ref ex) "__class__") Q Er st := by
  have hf : findObj Kf D odx "__class__" = some (.bind (.builtin "getset_descriptor.__get__") (.builtin "object.__class__")) := found_cls (by obtain ⟨cd, hc, _⟩ := any_some C.hd; rw [hc]; rfl) C.ha C.hn C.ht
  obtain ⟨hh, gg, dd, tt, oo⟩ := st
  have T0 := I.type (M := model pr wd)
  have T1 := looks_findIn (M := model pr wd) KI C.hg
  have T2 := looks_findIn (M := model pr wd) KI C.hk
  have T3 := looks_find (M := model pr wd) KI I hf
  have isE : Looks (model pr wd) hh (isInstance (.ref ex) (.type "BaseException")) true := T0.andThen (looks_subIn KI C.hs)
  have b0 : (false && onTheHeap (Value.builtin "BaseException.__getattribute__")) = false := rfl
  have b2 : (Value.builtin "BaseException.__getattribute__" == Value.builtin "object.__getattribute__") = false := by decide +kernel
  have b1 : (onTheHeap (Value.ref D) && Value.builtin "BaseException.__getattribute__" == Value.builtin "object.__getattribute__") = false := by
    rw [b2]
    rfl
  unfold getAttr? getAttrBy? getAttrBy
  refine wpAny_bind (wpAny_mkText (wpAny_bind (wpAny_attempt (wpAny_holding (wpAny_bind (T0.at (wpAny_bind (T1.at ?_))))))))
  show wpAny _ _ (ite ((onTheHeap (Value.ref D) && Value.builtin "BaseException.__getattribute__" == Value.builtin "object.__getattribute__") = true) _ _) _ _ _
  rw [b1, if_neg Bool.false_ne_true]
  unfold getAttrByItsOwn hookBefore
  refine wpAny_bind ?_
  rw [if_pos (show onTheHeap (Value.ref D) = true from rfl)]
  refine T2.at ?_
  refine wpAny_bind (wpAny_attempt (wpAny_holding ?_))
  unfold callGetattribute
  rw [b0, if_neg Bool.false_ne_true]
  unfold boundAndCalled
  rw [PySem.F.excAttr_ValueError.ga.bind (.ref ex)]
  refine wpAny_bind (wpAny_pure ?_)
  show wpAny _ _ (call (.builtin "BaseException.__getattribute__") [.ref ex, .str "__class__" tt]) _ _ _
  refine wpAny_call (codeAny_call_builtin PySem.F.excAttr_ValueError.ga.plain PySem.F.entry_bexc_ga ?_)
  refine @check_slot (model pr wd) _ _ ⟨hh, gg, dd, tt + 1, oo⟩ "BaseException.__getattribute__" "BaseException" "__getattribute__" (.ref ex) [.str "__class__" tt] [] _ (by decide +kernel) (by decide +kernel) isE (PySem.F.args_bexc_ga (.ref ex) (.str "__class__" tt)) ?_
  unfold Builtin.«object.__getattribute__»
  refine wpAny_bind (wpAny_of_eq (a := ((Value.ref ex : Value), [Value.str "__class__" tt])) (by first | rfl | (simp only [slotArgs]; rfl)) ?_)
  refine wpAny_bind (wpAny_pure (wpAny_bind (T0.at (wpAny_bind (T3.at ?_)))))
  show wpAny _ _ (holding [Value.builtin "object.__class__"] (call (.builtin "getset_descriptor.__get__") [.builtin "object.__class__", .ref ex, .ref D]) >>= ret) _ _ _
  refine wpAny_bind (wpAny_holding (wpAny_call (class_get (s := ⟨hh, gg, dd, tt + 1, oo⟩) (ox := oex) (od := odx) KI I C.hm ?_)))
  refine wpAny_pure ?_
  show wpAny _ _ (handedOut (.ref D)) _ _ _
  rw [handedOut_of (v := .ref D) rfl]
  first
    | exact wpAny_pure (wpAny_pure h)
    | exact wpAny_pure h
    | exact wpAny_pure (wpAny_bind (wpAny_pure (wpAny_pure h)))
theorem kitx_of_exc (C : ExcC Kf D) : KitX Kf (.ref ex) (.ref D) (fun h => InstAt h ex oex D odx) where
  ty := fun _ _ _ I => I.type
  it := fun _ _ KI _ => by
    obtain ⟨cdD, hcD, _⟩ := any_some C.hd
    unfold clsIn at hcD
    split at hcD
    · rename_i c' d' cd' sl' ho
      intro A' Q' E' s' k q
      unfold isType loadHead
      exact wpAny_bind (wpAny_loadPart (k _ _ (KI _ _ ho)) (wpAny_pure q))
    · cases hcD
  ne := fun h tp dx its n sl KI htp => by
    obtain ⟨cdD, hcD, _⟩ := any_some C.hd
    refine Bool.eq_false_iff.mpr fun q => ?_
    have e : D = tp := Value.ref.inj (beq_iff_eq.mp q)
    subst e
    unfold clsIn at hcD
    split at hcD
    · rename_i c' d' cd' sl' ho
      have z := (KI _ _ ho).symm.trans htp
      cases z
    · cases hcD
  ca := fun KI I k => class_of_exc C KI I k
end
section
variable {X : Cx} {ad : Str → Addr} {pos p p2 np : Pos}
def rIsX (K : PySem.W.Frag) (D a : Addr) (od : Option Addr) : List V → Hp → VK → Prop := fun xs H Q => ∃ (c : V) (cv : Value) (b : Bool), xs = [.ref a, c] ∧ (∀ u, RelV c u → u = cv) ∧ PySem.W.kitOne K (.ref D) cv = some b ∧ (∀ dd, od = some dd → ∃ us, H dd = some (.xd us)) ∧ Q (.bl b) H
theorem call_isX {a D : Addr} {od : Option Addr} {oe : Obj} {pn : List (Addr × Obj)} (C : ExcC X.K D) (hz : Zc (.ref D) od oe) (hf : ∃ vs, oe.data = .fields vs) : CallR (X.suite a ((a, oe) :: pn)) (.builtin "isinstance") (rIsX X.K D a od) := by
  intro pins s σ H xs us Q I r h
  obtain ⟨c, cv, b, rfl, hcv, e, hd, q⟩ := h
  cases r with
  | cons rx rr =>
    cases rr with
    | cons rt rr =>
      cases rr
      cases rx
      have ec := hcv _ rt
      subst ec
      obtain ⟨hget, _⟩ := I.pin (a, oe) (List.mem_append.mpr (.inl List.mem_cons_self))
      obtain ⟨vs, hv⟩ := hf
      have J : ∃ odx, PySem.W.InstAt s.heap a oe D odx := by
        obtain ⟨oc, od1, oda, osl⟩ := oe
        obtain ⟨h1, h2⟩ := hz
        dsimp only at h1 h2 hv
        subst h1 h2 hv
        cases od1 with
        | none => exact ⟨none, hget, rfl, rfl, trivial⟩
        | some dd =>
          obtain ⟨us2, hu⟩ := hd dd rfl
          have hx : ObjOk X.prog X.w H s.heap dd (.xd us2) := I.hok dd _ hu
          obtain ⟨mA, hns, _⟩ := hx
          obtain ⟨ob, ho, _⟩ := lookIn_ns hns
          exact ⟨some ob, hget, rfl, rfl, ho⟩
      obtain ⟨odx, J⟩ := J
      exact PySem.W.kia_one (kitx_of_exc C) I.kIn J e (fun z => nomatch z) fun tk => ⟨.bl b, H, I.kept (t' := tk) fun _ _ z => z, rfl, q⟩
theorem de_isX {y : Exn} {a : Addr} {od : Option Addr} {oe : Obj} {pn : List (Addr × Obj)} {x ex : Str} {i : Nat} {v : V} {cv : Value} {b : Bool} (C : ExcC X.K (ad y.cls)) (hz : Zc (.ref (ad y.cls)) od oe) (hf : ∃ vs, oe.data = .fields vs) (hv : PE (X.suite a ((a, oe) :: pn)) (.Name ex p) (tVar i)) (hC : PE (X.suite a ((a, oe) :: pn)) (.Name x p2) (tC v))
    (hcv : ∀ u, RelV v u → u = cv) (hk : PySem.W.kitOne X.K (.ref (ad y.cls)) cv = some b) (hg : Gl X "isinstance") (hm : X.mg "isinstance" = none) (hbv : bootBuiltins "isinstance" = some (.builtin "isinstance"))
    (hs1 : starEach (.Name ex p :: [.Name x p2]) X.env = (false, eval (.Name ex p) X.env) :: starEach [.Name x p2] X.env := by rfl) (hs2 : starEach (.Name x p2 :: []) X.env = (false, eval (.Name x p2) X.env) :: starEach [] X.env := by rfl)
    (hpl : (backTo pos (starEach [.Name x p2] X.env)).any (·.1) = false := by rfl) :
    PE (X.suite a ((a, oe) :: pn)) (.Call (.Name "isinstance" np) [.Name ex p, .Name x p2] [] pos) (tE X.K ad (Jf i a y od) WF (mC (.bl b))) := by
  refine pe_imp (pe_callB (X := X.suite a ((a, oe) :: pn)) (call_isX C hz hf) hg hm hbv (pa_cons hv (pa_cons hC pa_nil hs2) hs1) (by decide) (by decide) hs1 hpl) ?_
  rintro σ H Q ⟨S, r, L, O, ⟨j1, j2⟩, rl, rs, q⟩
  refine ⟨.ref a, j1, v, cv, b, rfl, hcv, hk, fun dd hdd => ?_, q S r H _ (Ext.refl _ _) rs rfl⟩
  obtain ⟨c, fs⟩ := y
  cases fs with
  | none =>
    have : od = none := j2
    rw [this] at hdd
    cases hdd
  | some fs =>
    obtain ⟨d2, us, h1, h2, _⟩ := j2
    rw [h1] at hdd
    cases hdd
    exact ⟨us, rs.sub _ _ h2⟩
end
/-! ### an __init__ by its parts -/
def mkOne (N : List Str) (ms : EM) (f1 : Str) (j1 : Nat) : XM := fun ds O => match ms (iniL N ds) O, (iniL N ds)[j1]? with
  | .ok _ O', some (some d1) => some ([(f1, d1)], O')
  | _, _ => none
section
variable {P : Program} {w : World} {K : PySem.W.Frag} {mg : Str → Option Value} {base : Heap} {main : Str} {d : IniD} {N ps : List Str} {self : Str} {ar : Arg} {e : Expr} {rest : List Stmt} {ms : EM} {p0 p1 apos pos pos2 : Pos} {k : Nat}
theorem hasX_tr {tr : TS} {mk : XM} {n : Nat} (I : IniK K main d) (hbody : d.body = .Expr (.Call (.Attribute (.Call (.Name "super" p0) [] [] p1) "__init__" apos) [e] [] pos) pos2 :: rest) (S : SupScope N ps d.scope) (h0 : N[0]? = some self) (hps : ps.length = n + 1) (hp : (d.params.posonlyargs ++ d.params.args).head? = some ar) (har : ar.arg = self) (hself : d.scope.names.lookup self = some .local)
    (hmain : ((P.main.file : Str) == main) = true) (htop : (P.main.scope.names.lookup ("super" : Str)).isSome = false) (hm : mg "super" = none)
    (hbind : ∀ (f : Addr) (fd : FuncData) (kV doc pm : Value) (an : Option Addr) (cda : Value) (ct : Value) (cc : Addr) (us : List Value), us.length = ps.length → bindArgs (PySem.W.ksFn "__init__" d.qual d.params d.body d.scope .none kV doc pm an cda ct cc) ⟨us, []⟩ = pure (ps.zip us))
    (he : ∀ (f cda cc : Addr) (A : Around) (outer : List Env) (s : Shared) (H : Hp) (E : XK), Room k (A.deeper (PySem.W.ksEnv d.qual d.scope s.heap.objs.size f (.ref cda) cc)) → PE (cxI P w K mg base N d.qual d.scope f (.ref cda) cc A outer s H E) e (tE K (He.ga K) JT WF ms))
    (hrest : ∀ (f cda cc : Addr) (A : Around) (outer : List Env) (s : Shared) (H : Hp) (E : XK), PSs (cxI P w K mg base N d.qual d.scope f (.ref cda) cc A outer s H E) rest tr)
    {pl : Sem Bool} (hev : ∀ f cda cc L : Addr, eval (.Call (.Attribute (.Call (.Name "super" p0) [] [] p1) "__init__" apos) [e] [] pos) (PySem.W.ksEnv d.qual d.scope L f (.ref cda) cc) = (do
      let ov ← attributeBase (.Call (.Name "super" p0) [] [] p1) "__init__" (PySem.W.ksEnv d.qual d.scope L f (.ref cda) cc) (eval (.Call (.Name "super" p0) [] [] p1) (PySem.W.ksEnv d.qual d.scope L f (.ref cda) cc))
      standAt apos.atName
      let (f1, first) ← holding [ov] (getMethod ov "__init__" pl)
      callWith pos f1 first (backTo pos (starEach [e] (PySem.W.ksEnv d.qual d.scope L f (.ref cda) cc))) []))
    (hst : ∀ f cda cc L : Addr, starEach [e] (PySem.W.ksEnv d.qual d.scope L f (.ref cda) cc) = [(false, eval e (PySem.W.ksEnv d.qual d.scope L f (.ref cda) cc))])
    (hsw : ∀ f cda cc L : Addr, swapsWith (.Call (.Attribute (.Call (.Name "super" p0) [] [] p1) "__init__" apos) [e] [] pos) none pos2.line (PySem.W.ksEnv d.qual d.scope L f (.ref cda) cc) = pure false)
    (hint : ∀ f cda cc L : Addr, interactive (PySem.W.ksEnv d.qual d.scope L f (.ref cda) cc) = false)
    (hsp : ∀ (S : Hp) (r : Rg) (O : Store) (H : Hp) (a : Addr) (ds : List D) (ws : List V) (fs : List (Str × D)) (O' : Store) (Qx : Option Addr → Hp → Prop) (E : XK), Rs K (He.ga K) S r O H → RpAll K S r ds ws → ds.length = n → H a = none → mk ds O = some (fs, O') → EndI K (He.ga K) S r O' fs Qx →
      spI N ps (He.ga K d.cls) (tE K (He.ga K) JT WF ms) tr (V.ref a :: ws) (upd H a (exo a (He.ga K d.cls) none)) (QI a (He.ga K d.cls) H Qx) E) :
    HasX P w K mg base (k + 1) d.cls n mk := by
  obtain ⟨oc, od, kV, doc, pm, an, cda, ct, cc, osl, lk, hcd, Z⟩ := I.lk
  refine ⟨I.T, I.iC, I.tI, _, ps, _, fnI_of (kV := kV) (doc := doc) (pm := pm) (ct := ct) (an := an) (main := main) (by rw [hbody] at lk; exact lk) hcd S Z I.T h0 (by omega) hp har hself hmain htop hm (fun A outer s H E hr => he _ cda cc A outer s H E hr) (fun A outer s H E hr => hrest _ cda cc A outer s H E) (fun L => hev _ cda cc L) (fun L => hst _ cda cc L) (fun L => hsw _ cda cc L) (fun L => hint _ cda cc L), ?_, hsp⟩
  exact .all fun us hl => by
    have := hbind (He.fAd K d.at_) (PySem.W.ksFn "__init__" d.qual d.params d.body d.scope .none kV doc pm an (.ref cda) ct cc) kV doc pm an (.ref cda) ct cc us hl
    rw [hbody] at this
    exact this
end
section
variable {K : PySem.W.Frag} {C : Addr} {N ps : List Str} {ms : EM} {n : Nat} {f1 f2 : Str} {j1 j2 : Nat}
theorem hsp_one (T : OexC K C) (hno : PySem.W.findIn K (.ref C) f1 = some none) (hps : ps.length = n + 1) (hN : ps.length ≤ N.length) : ∀ (S : Hp) (r : Rg) (O : Store) (H : Hp) (a : Addr) (ds : List D) (ws : List V) (fs : List (Str × D)) (O' : Store) (Qx : Option Addr → Hp → Prop) (E : XK), Rs K (He.ga K) S r O H → RpAll K S r ds ws → ds.length = n → H a = none → mkOne N ms f1 j1 ds O = some (fs, O') → EndI K (He.ga K) S r O' fs Qx →
    spI N ps C (tE K (He.ga K) JT WF ms) (tOst K f1 (tVar 0) (tVar j1)) (V.ref a :: ws) (upd H a (exo a C none)) (QI a C H Qx) E := fun S r O H a ds ws fs O' Qx E rs p hn ha hmk q => by
  unfold mkOne at hmk
  split at hmk
  · rename_i dm O2 d1 h1 h2
    cases hmk
    exact spI_one T hno rs p (by omega) hN ha h1 h2 q
  · cases hmk
end
theorem free_of {sc : Scope} (h : ∀ p ∈ sc.names, p.2 = .free → p.1 = ("__class__" : Str)) : ∀ y, sc.names.lookup y = some .free → y = "__class__" := fun y hy => h (y, .free) (PySem.mem_of_lookup hy) rfl
structure KnowsI (fa : List He.Fa) (fn : List He.DefD) (fx : List Fx) (main : Str) (ins : List IniD) (K : PySem.W.Frag) (mg : Str → Option Value) : Prop extends Knows fa fn fx K mg where
  i : ∀ d ∈ ins, IniK K main d
theorem xf_of {K : PySem.W.Frag} {C : Addr} (h : ExcC K C) : XfC K C := ⟨h.hg, h.hk, h.hs, h.hd⟩
end DK
end
section
set_option Elab.async false
set_option linter.all false
set_option autoImplicit false
set_option maxRecDepth 100000
set_option maxHeartbeats 4000000
/-! DKManyE: several except clauses, with and without a name, over errors with fields; by mirrors. -/
namespace DK
open PySem PySem.Spec PyProof.Rows L2
/-- a clause's class, its name's slot, its suite -/
structure Cls3 where
  c : Value
  oi : Option Nat
  ts : Addr → Value → Option Addr → TS
inductive HdAll (X : Cx) : List ExceptHandler → List Cls3 → Prop
  | nil : HdAll X [] []
  | cons {x : Str} {c : Value} {ts : Addr → Value → Option Addr → TS} {b₀ : Stmt} {suite : List Stmt} {np pos' : Pos} {hds : List ExceptHandler} {l : List Cls3} (hc : Names X x c)
      (hsu : ∀ (a : Addr) (oe : Obj) (cls : Value) (d : Option Addr) (pn : List (Addr × Obj)), Zc cls d oe → (∃ vs, oe.data = .fields vs) → PSs (X.suite a ((a, oe) :: pn)) (b₀ :: suite) (ts a cls d)) (r : HdAll X hds l) :
      HdAll X (.ExceptHandler (some (.Name x np)) none (b₀ :: suite) pos' :: hds) (⟨c, none, ts⟩ :: l)
  | named {x n : Str} {i : Nat} {c : Value} {ts : Addr → Value → Option Addr → TS} {b₀ : Stmt} {suite : List Stmt} {np pos' : Pos} {hds : List ExceptHandler} {l : List Cls3} (hc : Names X x c) (hN : X.N.Nodup) (hi : X.N[i]? = some n) (hln : X.env.kindOf n = some .local)
      (hsu : ∀ (a : Addr) (oe : Obj) (cls : Value) (d : Option Addr) (pn : List (Addr × Obj)), Zc cls d oe → (∃ vs, oe.data = .fields vs) → PSs (X.suite a ((a, oe) :: pn)) (b₀ :: suite) (ts a cls d)) (r : HdAll X hds l) :
      HdAll X (.ExceptHandler (some (.Name x np)) (some n) (b₀ :: suite) pos' :: hds) (⟨c, some i, ts⟩ :: l)
/-! ### mirrors -/
structure HdE where
  sub : Str → Option Bool
  oi : Option Nat
  ss : Exn → SM
section
variable {X : Cx} {ad : Str → Addr} {W : WX} {pos : Pos} {body : List Stmt} {sb : SM}
inductive HdsE (X : Cx) (ad : Str → Addr) : List ExceptHandler → List HdE → List Cls3 → Prop
  | nil : HdsE X ad [] [] []
  | cons {x : Str} {cv : Value} {sub : Str → Option Bool} {ss : Exn → SM} {b0 : Stmt} {suite : List Stmt} {np pos' : Pos} {hds : List ExceptHandler} {ms : List HdE} {l : List Cls3} (hc : Names X x cv)
      (hsub : ∀ nm b, sub nm = some b → PySem.W.exmOne X.K (.ref (ad nm)) cv = some b)
      (hsu : ∀ (y : Exn) (a : Addr) (od : Option Addr) (oe : Obj) (pn : List (Addr × Obj)), sub y.cls = some true → Zc (.ref (ad y.cls)) od oe → (∃ vs, oe.data = .fields vs) → PSs (X.suite a ((a, oe) :: pn)) (b0 :: suite) (tS X.K ad (Jn y od) WF (ss y)))
      (r : HdsE X ad hds ms l) : HdsE X ad (.ExceptHandler (some (.Name x np)) none (b0 :: suite) pos' :: hds) (⟨sub, none, ss⟩ :: ms)
        (⟨cv, none, fun a cls d En σ H => ∃ y : Exn, (cls = .ref (ad y.cls) ∧ sub y.cls = some true) ∧ tS X.K ad (Jn y d) WF (ss y) En σ H⟩ :: l)
  | named {x n : Str} {i : Nat} {cv : Value} {sub : Str → Option Bool} {ss : Exn → SM} {b0 : Stmt} {suite : List Stmt} {np pos' : Pos} {hds : List ExceptHandler} {ms : List HdE} {l : List Cls3} (hc : Names X x cv) (hN : X.N.Nodup) (hi : X.N[i]? = some n) (hln : X.env.kindOf n = some .local)
      (hsub : ∀ nm b, sub nm = some b → PySem.W.exmOne X.K (.ref (ad nm)) cv = some b)
      (hsu : ∀ (y : Exn) (a : Addr) (od : Option Addr) (oe : Obj) (pn : List (Addr × Obj)), sub y.cls = some true → Zc (.ref (ad y.cls)) od oe → (∃ vs, oe.data = .fields vs) → PSs (X.suite a ((a, oe) :: pn)) (b0 :: suite) (tS X.K ad (Jf i a y od) WF (ss y)))
      (r : HdsE X ad hds ms l) : HdsE X ad (.ExceptHandler (some (.Name x np)) (some n) (b0 :: suite) pos' :: hds) (⟨sub, some i, ss⟩ :: ms)
        (⟨cv, some i, fun a cls d En σ H => ∃ y : Exn, (cls = .ref (ad y.cls) ∧ sub y.cls = some true) ∧ tS X.K ad (Jf i a y d) WF (ss y) En σ H⟩ :: l)
theorem HdsE.ok {hds : List ExceptHandler} {ms : List HdE} {l : List Cls3} (k : HdsE X ad hds ms l) : HdAll X hds l := by
  induction k with
  | nil => exact .nil
  | cons hc hsub hsu r ih =>
    refine .cons hc (fun a oe cls d pn hz hfl => ?_) ih
    exact pss_ex fun y hp => by
      obtain ⟨rfl, h3⟩ := hp
      exact hsu y a d oe pn h3 hz hfl
  | named hc hN hi hln hsub hsu r ih =>
    refine .named hc hN hi hln (fun a oe cls d pn hz hfl => ?_) ih
    exact pss_ex fun y hp => by
      obtain ⟨rfl, h3⟩ := hp
      exact hsu y a d oe pn h3 hz hfl
end
end DK
end
section
set_option Elab.async false
set_option linter.all false
set_option autoImplicit false
set_option maxRecDepth 100000
set_option maxHeartbeats 4000000
/-! DKRepl: text.replace(y, z) of two written texts, where a token is out already; by mirrors. -/
namespace DK
open PySem PySem.Spec PyProof.Rows L2
def PTT (X : Cx) (e : Expr) (t : TT) : Prop :=
  ∀ (pins : List (Addr × Obj)) (s : Shared) (σ : L2.St) (H : Hp) (Q : Bool → Hp → Prop), 1 ≤ s.toks → Inv X pins σ H s → t σ H Q → wpAny (model X.prog X.w) X.A (isTrue e X.env (eval e X.env)) (TP X pins σ Q) X.xe s
theorem pet_imp {X : Cx} {e : Expr} {t t' : TE} (h : PET X e t) (k : ∀ σ H Q, t' σ H Q → t σ H Q) : PET X e t' := fun pins s σ H Q h0 I q => h pins s σ H Q h0 I (k σ H Q q)
theorem patT_imp {X : Cx} {e : List Expr} {t t' : TA} (h : PAT X e t) (k : ∀ σ H Q, t' σ H Q → t σ H Q) : PAT X e t' := fun pos pins s σ H Q h0 I q => h pos pins s σ H Q h0 I (k σ H Q q)
theorem ptt_imp {X : Cx} {e : Expr} {t t' : TT} (h : PTT X e t) (k : ∀ σ H Q, t' σ H Q → t σ H Q) : PTT X e t' := fun pins s σ H Q h0 I q => h pins s σ H Q h0 I (k σ H Q q)
theorem pst_imp {X : Cx} {e : Stmt} {t t' : TS} (h : PST X e t) (k : ∀ En σ H, t' En σ H → t En σ H) : PST X e t' := fun pins s σ H En h0 I q => h pins s σ H En h0 I (k En σ H q)
section
variable {X : Cx} {a c e o : Expr} {es : List Expr} {st : Stmt} {rest body els : List Stmt} {tA : TT} {te to : TE} {ta : TA} {t u v : TS} {pos apos cpos p : Pos} {y z x : Str} {j k : Nat} {c0 c1 : Pos}
theorem ptt_not (ha : PTT X a tA) : PTT X (.UnaryOp .Not a pos) (tNot tA) := fun pins s σ H Q h0 I h =>
  isTrue_not (ha pins s σ H (fun c H1 => Q (!c) H1) h0 I h)
theorem ptt_val (h : PET X e te) (he : ∀ whole, isTrue e X.env whole = (do let v ← whole; standAt e.pos; holding [v] (truthy v)) := by intro _; rfl) : PTT X e (tB te) := by
  intro pins s σ H Q h0 I hw
  refine isTrue_plain (thn (h pins s σ H _ h0 I hw) fun v s1 ⟨x, H1, I1, r1, q1⟩ => ?_) (he _)
  obtain ⟨d, rfl, q⟩ := q1
  cases r1
  exact wpAny_truthy_bool ⟨H1, I1, q⟩
theorem pst_ifT (hc : PTT X c tA) (ha : PSsT X body t) (hb : PSsT X els u) : PST X (.If c body els pos) (tIfS tA t u) := by
  intro pins s σ H D h0 I h
  refine wpAny_If (wpAny_mono (PySem.wpAny_toks (hc pins s σ H _ h0 I h)) (fun d s1 q => ?_) fun _ _ z => z.2)
  obtain ⟨hk, H1, I1, q1⟩ := q
  cases d with
  | true => exact ha pins s1 σ H1 D (Nat.le_trans h0 hk) I1 q1
  | false => exact hb pins s1 σ H1 D (Nat.le_trans h0 hk) I1 q1
end
section
variable {X : Cx} {CX : CXT} {k : Nat} {f : Addr} {fd : FuncData} {ps : List Str} {sp : Sp} {dvs : List V} {ds : List Value} {E : L2.St → XK} {x : Str} {p pos : Pos} {e : Expr} {es : List Expr} {t : TA}
theorem pet_callSD (F : FnOk X.prog X.w X.K X.mg X.base CX k f fd ps sp) (hr : Room k X.A) (hg : Gl X x) (hm : X.mg x = some (.ref f)) (hk : PySem.W.keepIn X.K (.ref f) = true) (hb : Binds X.K fd ps ds) (hd : Vals dvs ds) (hx : ∀ σ, PassesAt CX X σ (E σ))
    (ha : PAT X (e :: es) t) (hdb : (x == ("__debug__" : Str)) = false := by decide) (he : starEach (e :: es) X.env = (false, eval e X.env) :: starEach es X.env := by rfl) (hpl : (backTo pos (starEach es X.env)).any (·.1) = false := by rfl) :
    PET X (.Call (.Name x p) (e :: es) [] pos) (tCallSD sp dvs E t) := by
  intro pins s σ H Q h0 I h
  refine wpAny_Call_Name_kw (ld_glob I hg hm ?_ hdb)
  refine PySem.W.callWith_K (h₀ := X.base) I.ok.mod.kin hk (thn (ha pos pins s σ H _ h0 I h) fun us s1 ⟨vs, H1, I1, r, q⟩ => ⟨I1.kIn, ?_⟩) he hpl
  exact run_fnSD F hr hb hd (hx σ) I1 r q
end
/-! ### by mirrors -/
def mRepl (y z : Str) (m : EM) : EM := fun L O => (m L O).bind fun d O1 => match d with
  | .str x => if x.length + (x.length + 1) * z.length ≤ 16777216 then .ok (.str (Txt.replace x y z)) O1 else .bad
  | _ => .bad
section
variable {X : Cx} {ad : Str → Addr} {J : JP} {W : WX} {pos apos cpos p p' : Pos} {a c e o : Expr} {es : List Expr} {ma mo : EM} {mt : AM} {ta tm : TM} {s1 s2 s3 : SM} {body els rest : List Stmt} {st : Stmt} {y z : Str} {j k : Nat} {c0 c1 : Pos}
theorem det_repl (ho : PE X o (tE X.K ad J W mo)) (hyz : (y == z) = false := by decide)
    (hst : starEach [.Constant (.str y) j c0, .Constant (.str z) k c1] X.env = [(false, eval (.Constant (.str y) j c0) X.env), (false, eval (.Constant (.str z) k c1) X.env)] := by rfl)
    (hbase : attributeBase o "replace" X.env (eval o X.env) = eval o X.env := by rfl) (hline : (apos.endLine == pos.line) = true := by rfl) :
    PET X (.Call (.Attribute o "replace" apos) [.Constant (.str y) j c0, .Constant (.str z) k c1] [] pos) (tE X.K ad J W (mRepl y z mo)) := by
  refine pet_imp (CwR.pet_replC ho hyz hst hbase hline) ?_
  rintro σ H Q ⟨S, r, L, O, jj, rl, rs, q⟩
  refine ⟨S, r, L, O, jj, rl, rs, (Post.bind q).imp ?_⟩
  rintro v H1 ⟨S1, r1, d, O1, e1, s1, p1, q1⟩
  cases d with
  | str x =>
    by_cases hl : x.length + (x.length + 1) * z.length ≤ 16777216
    · simp only [if_pos hl] at q1
      exact ⟨x, p1, hl, q1 S1 r1 H1 _ (Ext.refl _ _) s1 rfl⟩
    · simp only [if_neg hl] at q1
      exact q1.elim
  | hdl n => exact q1.elim
  | lst n => exact q1.elim
  | rol n => exact q1.elim
  | tup n => exact q1.elim
  | non => exact q1.elim
  | bl b => exact q1.elim
  | int i => exact q1.elim
theorem dat_one (he : PET X e (tE X.K ad J W ma)) (hs : starEach [e] X.env = (false, eval e X.env) :: starEach [] X.env := by rfl) : PAT X [e] (tA X.K ad J W (mCons ma mNil)) := by
  refine patT_imp (pat_cons he pat_nil hs) ?_
  rintro σ H Q ⟨S, r, L, O, jj, rl, rs, q⟩
  refine ⟨S, r, L, O, jj, rl, rs, (Post.bind q).imp ?_⟩
  rintro v H1 ⟨S1, r1, d, O1, e1, s1, p1, q1⟩
  exact q1 S1 r1 H1 _ (Ext.refl _ _) s1 ⟨_, _, rfl, p1, rfl⟩
theorem det_call {k n : Nat} {f : Addr} {fd : FuncData} {ps : List Str} {m : FM} {dvs : List V} {dds : List D} {ds : List Value} {x : Str} {p : Pos} (F : FnOk X.prog X.w X.K X.mg X.base (L2.CX X.prog X.w) k f fd ps (spM X.K ad n m)) (hr : Room k X.A) (hg : Gl X x) (hm : X.mg x = some (.ref f)) (hk : PySem.W.keepIn X.K (.ref f) = true)
    (hb : Binds X.K fd ps ds) (hd : Vals dvs ds) (hdd : ∀ S r, RpAll X.K S r dds dvs) (tk : Takes X W) (ha : PAT X (e :: es) (tA X.K ad J W mt)) (hdb : (x == ("__debug__" : Str)) = false := by decide)
    (he : starEach (e :: es) X.env = (false, eval e X.env) :: starEach es X.env := by rfl) (hpl : (backTo pos (starEach es X.env)).any (·.1) = false := by rfl) :
    PET X (.Call (.Name x p) (e :: es) [] pos) (tE X.K ad J W (mFn (arity n m) dds mt)) := by
  refine pet_imp (pet_callSD F hr hg hm hk hb hd (fun σ => passAt tk σ) ha hdb he hpl) ?_
  rintro σ H Q ⟨S, r, L, O, j, rl, rs, p⟩
  refine ⟨S, r, L, O, j, rl, rs, (Post.bind p).imp ?_⟩
  rintro xs H1 ⟨S1, r1, ds, O1, e1, s1, p1, q1⟩
  exact spM_ar s1 (p1.append (hdd S1 r1)) q1
theorem dtt_val (h : PET X e (tE X.K ad J W ma)) (he : ∀ whole, isTrue e X.env whole = (do let v ← whole; standAt e.pos; holding [v] (truthy v)) := by intro _; rfl) : PTT X e (tT X.K ad J W (mTest ma)) := by
  refine ptt_imp (ptt_val h he) ?_
  intro σ H Q q
  exact test_imp (J := J) (W := W) (fun _ _ _ z => z) σ H Q q
theorem dtt_not (ha : PTT X a (tT X.K ad J W ta)) : PTT X (.UnaryOp .Not a pos) (tT X.K ad J W (mNot ta)) := by
  refine ptt_imp (ptt_not ha) ?_
  rintro σ H Q ⟨S, r, L, O, j, rl, rs, p⟩
  refine ⟨S, r, L, O, j, rl, rs, (Post.bind p).imp ?_⟩
  rintro k H1 ⟨S1, r1, d, O1, e1, s1, rfl, q1⟩
  exact q1 S1 r1 H1 _ (Ext.refl _ _) s1 rfl
theorem if_imp {σ : L2.St} {H : Hp} {En : Ends} (h : tS X.K ad J W (sIf tm s1 s2) En σ H) : tIfS (tT X.K ad J W tm) (tS X.K ad J W s1) (tS X.K ad J W s2) En σ H := by
  obtain ⟨S, r, L, O, j, rl, rs, p⟩ := h
  refine ⟨S, r, L, O, j, rl, rs, (bindS j rl p).imp ?_⟩
  rintro k H1 ⟨S1, r1, d, O1, e1, q1, rfl, k1⟩
  cases k with
  | true =>
    rw [if_pos rfl] at k1 ⊢
    exact ⟨S1, r1, L, O1, J.mono e1.s j, rl.mono e1, q1, k1⟩
  | false =>
    rw [if_neg Bool.false_ne_true] at k1 ⊢
    exact ⟨S1, r1, L, O1, J.mono e1.s j, rl.mono e1, q1, k1⟩
theorem dst_if (hc : PTT X c (tT X.K ad J W tm)) (ha : PSs X body (tS X.K ad J W s1)) (hb : PSs X els (tS X.K ad J W s2)) : PST X (.If c body els pos) (tS X.K ad J W (sIf tm s1 s2)) :=
  pst_imp (pst_ifT hc (PSsT.of ha) (PSsT.of hb)) fun _ _ _ h => if_imp h
theorem dsst_one (h : PST X st (tS X.K ad J W s1)) : PSsT X [st] (tS X.K ad J W s1) := CwR.psst_one h
end
/-! ### behind a written text that a test hands over, a token is out -/
section
variable {X : Cx} {T : String} {name : Str} {id : String} {r : V → List V → Hp → VK → Prop} {to : TE} {o : Expr} {apos cpos c0 : Pos} {y : Str} {j : Nat}
theorem bm1_toks (pa : PlainAttrs T) (slot : Slot T name id) (hty : typeOf (.builtin id) = pure (.type "method_descriptor")) (hm : MtR X id r) (ho : PE X o to)
    (hbase : attributeBase o name X.env (eval o X.env) = eval o X.env)
    (hfew : ((backTo cpos (starEach [.Constant (.str y) j c0] X.env)).all (fun x => !x.1) && (backToKw cpos (keywordEach [] X.env)).all (fun x => x.1.isSome)
      && decide (([.Constant (.str y) j c0] : List Expr).length + ([] : List Keyword).length + (if ([] : List Keyword).isEmpty then 0 else 1) < 30)) = true)
    (hline : (apos.endLine == cpos.line) = true) (hs : starEach [.Constant (.str y) j c0] X.env = (false, eval (.Constant (.str y) j c0) X.env) :: starEach [] X.env) (hplain : (backTo cpos (starEach [] X.env)).any (·.1) = false)
    (pins : List (Addr × Obj)) (s : Shared) (σ : L2.St) (H : Hp) (Q : VK) (I : Inv X pins σ H s) (h : tBM X.K T r to (tCons (tC (.str y)) tNil) σ H Q) :
    wpAny (model X.prog X.w) X.A (eval (.Call (.Attribute o name apos) [.Constant (.str y) j c0] [] cpos) X.env) (fun v s' => 1 ≤ s'.toks ∧ EP X pins σ Q v s') X.xe s := by
  refine wpAny_Call_method_late hbase hfew hline rfl (thn (ho.run pins s σ H _ I h) fun v s1 ⟨x, H1, I1, r1, ty, q1⟩ => ?_)
  obtain ⟨h1, h2⟩ := tyV_is I1 r1 ty
  refine ⟨T, id, pa, slot, hty, h1, h2, ?_⟩
  rw [hs]
  refine Calls.callWith_builtin (by show (false || (backTo cpos (starEach [] X.env)).any (·.1)) = false; rw [hplain] <;> rfl) (Calls.evalArgs_plain ?_)
  refine Calls.spliced_cons (Calls.Constant_str (k := j) (pos := c0) (Calls.spliced_nil ?_))
  exact wpAny_mono (PySem.wpAny_toks (hm pins _ σ H1 x [.str y] v [.str y s1.toks] Q (I1.tok _) r1 (.cons ⟨_, rfl⟩ .nil) q1)) (fun v2 s2 q => ⟨Nat.le_trans (Nat.le_add_left 1 s1.toks) q.1, q.2⟩) fun _ _ z => z.2
theorem pss_bm1T {body els rest : List Stmt} {pos : Pos} {t u v : TS} (pa : PlainAttrs T) (slot : Slot T name id) (hty : typeOf (.builtin id) = pure (.type "method_descriptor")) (hm : MtR X id r) (ho : PE X o to)
    (ha : PSs X body t) (hb : PSs X els u) (hr : PSsT X rest v)
    (hbase : attributeBase o name X.env (eval o X.env) = eval o X.env := by rfl)
    (hfew : ((backTo cpos (starEach [.Constant (.str y) j c0] X.env)).all (fun x => !x.1) && (backToKw cpos (keywordEach [] X.env)).all (fun x => x.1.isSome)
      && decide (([.Constant (.str y) j c0] : List Expr).length + ([] : List Keyword).length + (if ([] : List Keyword).isEmpty then 0 else 1) < 30)) = true := by rfl)
    (hline : (apos.endLine == cpos.line) = true := by rfl) (hs : starEach [.Constant (.str y) j c0] X.env = (false, eval (.Constant (.str y) j c0) X.env) :: starEach [] X.env := by rfl) (hplain : (backTo cpos (starEach [] X.env)).any (·.1) = false := by rfl)
    (he : ∀ whole, isTrue (.Call (.Attribute o name apos) [.Constant (.str y) j c0] [] cpos) X.env whole = (do let v ← whole; standAt (Expr.Call (.Attribute o name apos) [.Constant (.str y) j c0] [] cpos).pos; holding [v] (truthy v)) := by intro _; rfl) :
    PSs X (.If (.Call (.Attribute o name apos) [.Constant (.str y) j c0] [] cpos) body els pos :: rest) (tSeq (tIfS (tB (tBM X.K T r to (tCons (tC (.str y)) tNil))) t u) v) := by
  refine ⟨fun pins s σ H D I h => ?_⟩
  have hc := bm1_toks pa slot hty hm ho hbase hfew hline hs hplain pins s σ H _ I h
  have hc2 : wpAny (model X.prog X.w) X.A (isTrue (.Call (.Attribute o name apos) [.Constant (.str y) j c0] [] cpos) X.env (eval (.Call (.Attribute o name apos) [.Constant (.str y) j c0] [] cpos) X.env)) (fun b s1 => 1 ≤ s1.toks ∧ TP X pins σ (fun b H1 => if b = true then t { D with nx := v D } σ H1 else u { D with nx := v D } σ H1) b s1) X.xe s := by
    refine isTrue_plain (thn hc fun w s1 ⟨hk, x, H1, I1, r1, q1⟩ => ?_) (he _)
    obtain ⟨d, rfl, q⟩ := q1
    cases r1
    exact wpAny_truthy_bool ⟨hk, H1, I1, q⟩
  refine wpAny_execs_cons (wpAny_If (thn hc2 fun d s1 ⟨hk, H1, I1, q1⟩ => ?_))
  have fin : ∀ (f : Flow) (s2 : Shared), s1.toks ≤ s2.toks → SP X pins { D with nx := v D } f s2 → (match f with
      | .next => wpAny (model X.prog X.w) X.A (execs rest X.env) (SP X pins D) X.xe s2
      | _ => SP X pins D f s2) := fun f s2 hk2 q => by
    cases f with
    | next =>
      obtain ⟨σ', H', I', q⟩ := q
      exact hr pins s2 σ' H' D (Nat.le_trans hk hk2) I' q
    | ret v => exact q
    | brk => exact q
    | cont => exact q
  cases d with
  | true =>
    refine wpAny_mono (PySem.wpAny_toks (ha.run pins s1 σ H1 _ I1 q1)) (fun f s2 q => ?_) fun _ _ z => z.2
    have := fin f s2 q.1 q.2
    cases f <;> exact this
  | false =>
    refine wpAny_mono (PySem.wpAny_toks (hb.run pins s1 σ H1 _ I1 q1)) (fun f s2 q => ?_) fun _ _ z => z.2
    have := fin f s2 q.1 q.2
    cases f <;> exact this
end
section
variable {X : Cx} {ad : Str → Addr} {J : JP} {W : WX} {pos apos cpos c0 : Pos} {o : Expr} {mo : EM} {s1 s2 s3 : SM} {body els rest : List Stmt} {y : Str} {j : Nat}
theorem a1_imp {σ : L2.St} {H : Hp} {Q : List V → Hp → Prop} (h : tA X.K ad J W (mCons (mC (.str y)) mNil) σ H Q) : tCons (tC (.str y)) tNil σ H Q := by
  obtain ⟨S, r, L, O, j, rl, rs, p⟩ := h
  exact p S r H [.str y] (Ext.refl S r) rs ⟨.str y, [], rfl, rfl, rfl⟩
theorem bS1_imp {g : Store → Str → List D → Option (D × Store)} {rr : V → List V → Hp → VK → Prop} (h2 : ∀ (S : Hp) (r : Rg) (O : Store) (H : Hp) (s : Str) (vs : List V) (ds : List D) (W : WX) (σ : L2.St) (Q : VK), Rs X.K ad S r O H → RpAll X.K S r ds vs →
    Post X.K ad (fun S r => Rp X.K S r) W σ S r Q (ofO (g O s ds)) → rr (.str s) vs H Q) {σ : L2.St} {H : Hp} {Q : VK} (h : tE X.K ad J W (mBS g mo (mCons (mC (.str y)) mNil)) σ H Q) : tBM X.K "str" rr (tE X.K ad J W mo) (tCons (tC (.str y)) tNil) σ H Q := by
  obtain ⟨S, r, L, O, j, rl, rs, q⟩ := h
  refine ⟨S, r, L, O, j, rl, rs, (Post.bind q).imp ?_⟩
  rintro x H1 ⟨S1, r1, d, O1, e1, s1, p1, q1⟩
  cases d with
  | str s =>
    refine ⟨by rw [show x = .str s from p1]; rfl, a1_imp ⟨S1, r1, L, O1, J.mono e1.s j, rl.mono e1, s1, (Post.bind q1).imp ?_⟩⟩
    rintro vs H2 ⟨S2, r2, ds, O2, e2, s2, p2, q2⟩
    rw [show x = .str s from p1]
    exact h2 S2 r2 O2 H2 s vs ds W σ Q s2 p2 q2
  | hdl n => exact q1.elim
  | lst n => exact q1.elim
  | rol n => exact q1.elim
  | tup n => exact q1.elim
  | non => exact q1.elim
  | bl b => exact q1.elim
  | int i => exact q1.elim
/-- if o.name('..'): behind it, what wants a token -/
theorem dss_bS1T {name : Str} {id : String} {g : Store → Str → List D → Option (D × Store)} (pa : PlainAttrs "str") (slot : Slot "str" name id) (hty : typeOf (.builtin id) = pure (.type "method_descriptor")) (hm : MethS X ad id g) (ho : PE X o (tE X.K ad J W mo))
    (ha : PSs X body (tS X.K ad J W s1)) (hb : PSs X els (tS X.K ad J W s2)) (hr : PSsT X rest (tS X.K ad J W s3))
    (hbase : attributeBase o name X.env (eval o X.env) = eval o X.env := by rfl)
    (hfew : ((backTo cpos (starEach [.Constant (.str y) j c0] X.env)).all (fun x => !x.1) && (backToKw cpos (keywordEach [] X.env)).all (fun x => x.1.isSome)
      && decide (([.Constant (.str y) j c0] : List Expr).length + ([] : List Keyword).length + (if ([] : List Keyword).isEmpty then 0 else 1) < 30)) = true := by rfl)
    (hline : (apos.endLine == cpos.line) = true := by rfl) (hs : starEach [.Constant (.str y) j c0] X.env = (false, eval (.Constant (.str y) j c0) X.env) :: starEach [] X.env := by rfl) (hplain : (backTo cpos (starEach [] X.env)).any (·.1) = false := by rfl)
    (he : ∀ whole, isTrue (.Call (.Attribute o name apos) [.Constant (.str y) j c0] [] cpos) X.env whole = (do let v ← whole; standAt (Expr.Call (.Attribute o name apos) [.Constant (.str y) j c0] [] cpos).pos; holding [v] (truthy v)) := by intro _; rfl) :
    PSs X (.If (.Call (.Attribute o name apos) [.Constant (.str y) j c0] [] cpos) body els pos :: rest) (tS X.K ad J W (sSeq (sIf (mTest (mBS g mo (mCons (mC (.str y)) mNil))) s1 s2) s3)) := by
  obtain ⟨rr, h1, h2⟩ := hm.ok
  refine pss_imp (pss_bm1T pa slot hty h1 ho ha hb hr hbase hfew hline hs hplain he) ?_
  rintro En σ H ⟨S, r, L, O, j, rl, rs, p⟩
  have key : tS X.K ad J W (sIf (mTest (mBS g mo (mCons (mC (.str y)) mNil))) s1 s2) { En with nx := tS X.K ad J W s3 En } σ H := by
    refine ⟨S, r, L, O, j, rl, rs, ?_⟩
    unfold sSeq at p
    generalize (sIf (mTest (mBS g mo (mCons (mC (.str y)) mNil))) s1 s2) L O = z at p
    cases z with
    | next L1 O1 => exact fun S1 r1 σ1 H1 e1 j1 l1 q1 => ⟨S1, r1, L1, O1, j1, l1, q1, PostS.mono e1 p⟩
    | ret d O1 => exact p
    | exc x L1 O1 => exact p
    | brk L1 O1 => exact p
    | cnt L1 O1 => exact p
    | bad => exact p
  have k2 := if_imp key
  exact test_imp (J := J) (W := W) (fun _ _ _ z => bS1_imp h2 z) σ H _ k2
end
end DK
end
section
set_option Elab.async false
set_option linter.all false
set_option autoImplicit false
set_option maxRecDepth 100000
set_option maxHeartbeats 4000000
/-! The walk of darkrise_k11_lines_and_words: printed by gen.py. -/
namespace DK.k11
open PySem L2 DK
def top (i : Nat) : Stmt := PySem.Challenge.pw_darkrise_k11_lines_and_words.main.body.getD i (.Pass ⟨0, 0, 0, 0⟩)
abbrev s_law_cell : Stmt := top 7
abbrev s_law_take : Stmt := top 8
abbrev s_law_text : Stmt := top 9
abbrev s_lines_of : Stmt := top 5
abbrev s_law_lines : Stmt := top 10
abbrev s_words : Stmt := top 4
abbrev s_law_words_right : Stmt := top 12
abbrev s_law_due : Stmt := top 11
abbrev s_law : Stmt := top 13
def d_law_cell : He.DefD := ⟨("_law_cell", none), "_law_cell", "_law_cell", defArgs s_law_cell, defBody s_law_cell, defScope s_law_cell, [], []⟩
theorem sc_law_cell : FnScope ["script", "k"] ["script", "k"] (defScope s_law_cell) := ⟨rfl, rfl, rfl, by decide +kernel, rfl, by decide +kernel, by decide +kernel⟩
def d_law_take : He.DefD := ⟨("_law_take", none), "_law_take", "_law_take", defArgs s_law_take, defBody s_law_take, defScope s_law_take, [], []⟩
theorem sc_law_take : FnScope ["state", "limit", "found", "cell"] ["state", "limit"] (defScope s_law_take) := ⟨rfl, rfl, rfl, by decide +kernel, rfl, by decide +kernel, by decide +kernel⟩
def d_law_text : He.DefD := ⟨("_law_text", none), "_law_text", "_law_text", defArgs s_law_text, defBody s_law_text, defScope s_law_text, [], []⟩
theorem sc_law_text : FnScope ["state", "text", "k"] ["state"] (defScope s_law_text) := ⟨rfl, rfl, rfl, by decide +kernel, rfl, by decide +kernel, by decide +kernel⟩
def d_lines_of : He.DefD := ⟨("lines_of", none), "lines_of", "lines_of", defArgs s_lines_of, defBody s_lines_of, defScope s_lines_of, [], []⟩
theorem sc_lines_of : FnScope ["text", "rows"] ["text"] (defScope s_lines_of) := ⟨rfl, rfl, rfl, by decide +kernel, rfl, by decide +kernel, by decide +kernel⟩
def d_law_lines : He.DefD := ⟨("_law_lines", none), "_law_lines", "_law_lines", defArgs s_law_lines, defBody s_law_lines, defScope s_law_lines, [], []⟩
theorem sc_law_lines : FnScope ["text", "e"] ["text"] (defScope s_law_lines) := ⟨rfl, rfl, rfl, by decide +kernel, rfl, by decide +kernel, by decide +kernel⟩
def d_words : He.DefD := ⟨("words", none), "words", "words", defArgs s_words, defBody s_words, defScope s_words, [], []⟩
theorem sc_words : FnScope ["line"] ["line"] (defScope s_words) := ⟨rfl, rfl, rfl, by decide +kernel, rfl, by decide +kernel, by decide +kernel⟩
def d_law_words_right : He.DefD := ⟨("_law_words_right", none), "_law_words_right", "_law_words_right", defArgs s_law_words_right, defBody s_law_words_right, defScope s_law_words_right, [], []⟩
theorem sc_law_words_right : FnScope ["line", "rows", "due", "sign"] ["line"] (defScope s_law_words_right) := ⟨rfl, rfl, rfl, by decide +kernel, rfl, by decide +kernel, by decide +kernel⟩
def d_law_due : He.DefD := ⟨("_law_due", none), "_law_due", "_law_due", defArgs s_law_due, defBody s_law_due, defScope s_law_due, [], []⟩
theorem sc_law_due : FnScope ["text", "rows", "sign"] ["text"] (defScope s_law_due) := ⟨rfl, rfl, rfl, by decide +kernel, rfl, by decide +kernel, by decide +kernel⟩
def d_law : He.DefD := ⟨("law", none), "law", "law", defArgs s_law, defBody s_law, defScope s_law, [], []⟩
theorem sc_law : FnScope ["script", "state", "k", "text", "found", "line"] ["script"] (defScope s_law) := ⟨rfl, rfl, rfl, by decide +kernel, rfl, by decide +kernel, by decide +kernel⟩
abbrev PP : Program := PySem.Challenge.pw_darkrise_k11_lines_and_words
abbrev s_invalidline_init : Stmt := inC (top 2) 0
def ini_InvalidLine : IniD := ⟨"InvalidLine", "InvalidLine.__init__", defArgs s_invalidline_init, defBody s_invalidline_init, defScope s_invalidline_init⟩
theorem sup_InvalidLine : SupScope ["self", "line"] ["self", "line"] (defScope s_invalidline_init) := ⟨rfl, rfl, rfl, by decide +kernel, rfl, by decide +kernel, by decide +kernel, free_of (by decide +kernel), rfl, rfl⟩
def fn : List He.DefD := [d_law_cell, d_law_take, d_law_text, d_lines_of, d_law_lines, d_words, d_law_words_right, d_law_due, d_law]
def fa : List He.Fa := [.glo "law", .free "str", .free "super", .noat "InvalidLine" "line", .free "len", .free "int", .free "abs", .glo "_law_cell", .glo "_law_take", .free "range", .glo "InvalidLine", .exm "InvalidLine" "InvalidLine" true, .glo "lines_of", .free "isinstance", .glo "RiseError", .glo "words", .free "list", .glo "_law_text", .glo "_law_lines", .glo "_law_due", .glo "_law_words_right"]
def fx : List Fx := [.exc "InvalidLine", .kitR "InvalidLine" "RiseError" true]
def ins : List IniD := [ini_InvalidLine]
abbrev Kn (K : PySem.W.Frag) (mg : Str → Option Value) : Prop := KnowsI fa fn fx "/claim/cut.py" ins K mg
def m_invalidline_init : EM := (mOp (gAdd false) (mC (.str "line ")) (mCall (g1 gStr) (mCons (mVar 1) mNil)))
def x_InvalidLine : XM := mkOne ["self", "line"] m_invalidline_init "line" 1
theorem has_InvalidLine {w : World} {K : PySem.W.Frag} {mg : Str → Option Value} {base : Heap} (kn : Kn K mg) : HasX PP w K mg base 1 "InvalidLine" 1 x_InvalidLine := by
  have I : IniK K "/claim/cut.py" ini_InvalidLine := kn.i _ (by simp [ins])
  refine hasX_tr (k := 0) (d := ini_InvalidLine) (N := ["self", "line"]) (ps := ["self", "line"]) (self := "self") (ms := m_invalidline_init) I rfl sup_InvalidLine rfl rfl rfl rfl rfl (by decide +kernel) (by decide +kernel) (kn.free 2) (fun f fd kV doc pm an cda ct cc us hl => match us, hl with | [_, _], _ => rfl) (fun f cda cc A outer s H E hr => ?_) (fun f cda cc A outer s H E => (pss_one (ps_ost (pv 0) (pv 1)))) (fun _ _ _ _ => rfl) (fun _ _ _ _ => rfl) (fun _ _ _ _ => rfl) (fun _ _ _ _ => rfl) (hsp_one I.T (kn.noat 3) rfl (by decide))
  delta m_invalidline_init
  exact (de_op (od_add false) de_str (de_callTy cd_str rfl (kn.free 1) (by decide +kernel) (da_cons (de_var (pv 1)) da_nil)))
def b_law_cell : SM := (sSeq (sIf (mTest (mOp gLt (mVar 1) (mCall (g1 gLen) (mCons (mVar 0) mNil)))) (sRet (mCall (g1 gAbs) (mCons (mCall (g1 gInt) (mCons (mOp gIx (mVar 0) (mVar 1)) mNil)) mNil))) sNext)
    (sRet (mOp (gAdd false) (mOp gMul (mC (.int 37)) (mVar 1)) (mC (.int 11)))))
def f_law_cell : FM := runF 2 b_law_cell
theorem ok_law_cell {w : World} {K : PySem.W.Frag} {mg : Str → Option Value} {base : Heap} (kn : Kn K mg) : Has PP w K mg base 1 d_law_cell ["script", "k"] f_law_cell := by
  refine has_def (k := 0) (N := ["script", "k"]) (d := d_law_cell) (kn.c.def_ 0 (d := d_law_cell) rfl) sc_law_cell fun f cdv A outer s H E hr => ?_
  delta b_law_cell
  exact (dss_cons (ds_if (dt_cmp od_lt (de_var (pv 1)) (de_callB cd_len rfl (kn.free 4) (by decide +kernel) (da_cons (de_var (pv 0)) da_nil)) (nomark _)) (dss_one (ds_ret (de_callB cd_abs rfl (kn.free 6) (by decide +kernel) (da_cons (de_callTy cd_int rfl (kn.free 5) (by decide +kernel) (da_cons (de_ix (de_var (pv 0)) (de_var (pv 1)) (fun _ _ => rfl)) da_nil)) da_nil)))) dss_nil)
    (dss_one (ds_ret (de_op (od_add false) (de_op od_mul de_int (de_var (pv 1))) de_int))))
def b_law_take : SM := (sSeq (sIf (mTest (mOp gGt (mOp gIx (mVar 0) (mC (.int 2))) (mC (.int 0)))) (sSeq (sAsg (mOp gMod (mCall (g1 gInt) (mCons (mOp gIx (mVar 0) (mC (.int 2))) mNil)) (mVar 1)) (bName 2))
    (sSeq (sAsg (mOp gFdiv (mCall (g1 gInt) (mCons (mOp gIx (mVar 0) (mC (.int 2))) mNil)) (mVar 1)) (bSubL (mVar 0) (mC (.int 2))))
    (sRet (mVar 2)))) sNext)
    (sSeq (sAsg (mFn (arity 2 f_law_cell) [] (mCons (mOp gIx (mVar 0) (mC (.int 0))) (mCons (mOp gIx (mVar 0) (mC (.int 1))) mNil))) (bName 3))
    (sSeq (sAsg (mOp (gAdd false) (mOp gIx (mVar 0) (mC (.int 1))) (mC (.int 1))) (bSubL (mVar 0) (mC (.int 1))))
    (sSeq (sIf (mTest (mOp gGe (mVar 3) (mOp gPow (mC (.int 10)) (mC (.int 9))))) (sAsg (mOp gFdiv (mCall (g1 gInt) (mCons (mVar 3) mNil)) (mVar 1)) (bSubL (mVar 0) (mC (.int 2)))) sNext)
    (sRet (mOp gMod (mCall (g1 gInt) (mCons (mVar 3) mNil)) (mVar 1)))))))
def f_law_take : FM := runF 4 b_law_take
theorem ok_law_take {w : World} {K : PySem.W.Frag} {mg : Str → Option Value} {base : Heap} (kn : Kn K mg) : Has PP w K mg base 2 d_law_take ["state", "limit"] f_law_take := by
  obtain ⟨fd0, F0, O0⟩ := ok_law_cell (w := w) (base := base) kn
  have B1 := FunD.bindsN (ps := ["script", "k"]) F0 (fun _ _ _ _ _ _ us hl => match us, hl with | [_, _], _ => rfl)
  refine has_def (k := 1) (N := ["state", "limit", "found", "cell"]) (d := d_law_take) (kn.c.def_ 1 (d := d_law_take) rfl) sc_law_take fun f cdv A outer s H E hr => ?_
  delta b_law_take
  exact (dss_cons (ds_if (dt_cmp od_gt (de_ix (de_var (pv 0)) de_int (fun _ _ => rfl)) de_int (nomark _)) (dss_cons (ds_set (i := 2) sc_law_take.nd rfl (by first | exact .inl rfl | exact .inr rfl) (de_op od_mod (de_callTy cd_int rfl (kn.free 5) (by decide +kernel) (da_cons (de_ix (de_var (pv 0)) de_int (fun _ _ => rfl)) da_nil)) (de_var (pv 1))))
    (dss_cons (ds_asg (de_op od_fdiv (de_callTy cd_int rfl (kn.free 5) (by decide +kernel) (da_cons (de_ix (de_var (pv 0)) de_int (fun _ _ => rfl)) da_nil)) (de_var (pv 1))) (dg_subL (W := WF) (de_var (pv 0)) de_int))
    (dss_one (ds_ret (de_var (pv 2)))))) dss_nil)
    (dss_cons (ds_set (i := 3) sc_law_take.nd rfl (by first | exact .inl rfl | exact .inr rfl) (de_call (dds := []) O0 (hr.mono (by omega)) rfl (kn.glo 7) F0.kp B1 .nil (fun _ _ => rfl) tk_of (da_cons (de_ix (de_var (pv 0)) de_int (fun _ _ => rfl)) (da_cons (de_ix (de_var (pv 0)) de_int (fun _ _ => rfl)) da_nil))))
    (dss_cons (ds_asg (de_op (od_add false) (de_ix (de_var (pv 0)) de_int (fun _ _ => rfl)) de_int) (dg_subL (W := WF) (de_var (pv 0)) de_int))
    (dss_cons (ds_if (dt_cmp od_ge (de_var (pv 3)) (de_op od_pow de_int de_int) (nomark _)) (dss_one (ds_asg (de_op od_fdiv (de_callTy cd_int rfl (kn.free 5) (by decide +kernel) (da_cons (de_var (pv 3)) da_nil)) (de_var (pv 1))) (dg_subL (W := WF) (de_var (pv 0)) de_int))) dss_nil)
    (dss_one (ds_ret (de_op od_mod (de_callTy cd_int rfl (kn.free 5) (by decide +kernel) (da_cons (de_var (pv 3)) da_nil)) (de_var (pv 1)))))))))
def b_law_text : SM := (sSeq (sAsg (mC (.str "")) (bName 1))
    (sSeq (sForR1 (mCons (mFn (arity 2 f_law_take) [] (mCons (mVar 0) (mCons (mC (.int 13)) mNil))) mNil) (bName 2) (sAsg (mOp (gAdd false) (mVar 1) (mOp gIx (mC (.str "ab \n	~")) (mOp gIx (mLst false (mCons (mC (.int 0)) (mCons (mC (.int 1)) (mCons (mC (.int 2)) (mCons (mC (.int 2)) (mCons (mC (.int 3)) (mCons (mC (.int 3)) (mCons (mC (.int 3)) (mCons (mC (.int 4)) (mCons (mC (.int 5)) mNil)))))))))) (mFn (arity 2 f_law_take) [] (mCons (mVar 0) (mCons (mC (.int 9)) mNil)))))) (bName 1)))
    (sRet (mVar 1))))
def f_law_text : FM := runF 3 b_law_text
theorem ok_law_text {w : World} {K : PySem.W.Frag} {mg : Str → Option Value} {base : Heap} (kn : Kn K mg) : Has PP w K mg base 3 d_law_text ["state"] f_law_text := by
  obtain ⟨fd0, F0, O0⟩ := ok_law_take (w := w) (base := base) kn
  have B1 := FunD.bindsN (ps := ["state", "limit"]) F0 (fun _ _ _ _ _ _ us hl => match us, hl with | [_, _], _ => rfl)
  refine has_def (k := 2) (N := ["state", "text", "k"]) (d := d_law_text) (kn.c.def_ 2 (d := d_law_text) rfl) sc_law_text fun f cdv A outer s H E hr => ?_
  delta b_law_text
  exact (dss_cons (ds_set (i := 1) sc_law_text.nd rfl (by first | exact .inl rfl | exact .inr rfl) de_str)
    (dss_cons (ds_forR1 own_of rfl rfl (kn.free 9) (da_cons (de_call (dds := []) O0 (hr.mono (by omega)) rfl (kn.glo 8) F0.kp B1 .nil (fun _ _ => rfl) tk_of (da_cons (de_var (pv 0)) (da_cons de_int da_nil))) da_nil) (dg_name (i := 2) sc_law_text.nd rfl (by first | exact .inl rfl | exact .inr rfl)) (dss_one (ds_set (i := 1) sc_law_text.nd rfl (by first | exact .inl rfl | exact .inr rfl) (de_op (od_add false) (de_var (pv 1)) (de_ix de_str (de_ix (de_lst (hm := false) (da_cons de_int (da_cons de_int (da_cons de_int (da_cons de_int (da_cons de_int (da_cons de_int (da_cons de_int (da_cons de_int (da_cons de_int da_nil)))))))))) (de_call (dds := []) O0 (hr.mono (by omega)) rfl (kn.glo 8) F0.kp B1 .nil (fun _ _ => rfl) tk_of (da_cons (de_var (pv 0)) (da_cons de_int da_nil))) (fun _ _ => rfl)) (fun _ _ => rfl))))))
    (dss_one (ds_ret (de_var (pv 1))))))
def b_lines_of : SM := (sSeq (sIf (mTest (mOp gEq (mVar 0) (mC (.str "")))) (sRet (mLst true mNil)) sNext)
    (sSeq (sAsg (mBS (gSplit false) (mVar 0) (mCons (mC (.str "\n")) mNil)) (bName 1))
    (sSeq (sIf (mTest (mOp gNe (mOp gIx (mVar 1) (mNeg (mC (.int 1)))) (mC (.str "")))) (sRaiseX "InvalidLine" 1 x_InvalidLine (mCons (mCall (g1 gLen) (mCons (mVar 1) mNil)) mNil)) sNext)
    (sRet (mSl true (mVar 1) oNone (oSome (mNeg (mC (.int 1)))))))))
def f_lines_of : FM := runF 2 b_lines_of
theorem ok_lines_of {w : World} {K : PySem.W.Frag} {mg : Str → Option Value} {base : Heap} (kn : Kn K mg) : Has PP w K mg base 3 d_lines_of ["text"] f_lines_of := by
  have X0 := has_InvalidLine (w := w) (base := base) kn
  refine has_def (k := 2) (N := ["text", "rows"]) (d := d_lines_of) (kn.c.def_ 3 (d := d_lines_of) rfl) sc_lines_of fun f cdv A outer s H E hr => ?_
  delta b_lines_of
  exact (dss_cons (ds_if (dt_cmp (od_eq hr.units) (de_var (pv 0)) de_str (nomark _)) (dss_one (ds_ret (de_lst (hm := true) da_nil))) dss_nil)
    (dss_cons (ds_set (i := 1) sc_lines_of.nd rfl (by first | exact .inl rfl | exact .inr rfl) (de_bS PySem.F.plainAttrs_str PySem.F.slot_str_split PySem.F.type_str_split (ms_split false) (de_var (pv 0)) (da_cons de_str da_nil)))
    (dss_cons (ds_if (dt_cmp (od_ne hr.units) (de_ix (de_var (pv 1)) (de_neg de_int) (fun _ _ => rfl)) de_str (nomark _)) (dss_one (ds_raiseX rfl tk_of X0 (hr.mono (by omega)) rfl (kn.glo 10) (da_cons (de_callB cd_len rfl (kn.free 4) (by decide +kernel) (da_cons (de_var (pv 1)) da_nil)) da_nil))) dss_nil)
    (dss_one (ds_ret (de_sl (hm := true) (de_var (pv 1)) do_none (do_some (de_neg de_int))))))))
def sub_law_lines_40 (nm : Str) : Option Bool := if nm = "InvalidLine" then some true else none
theorem subok_law_lines_40 {K : PySem.W.Frag} {mg : Str → Option Value} (kn : Kn K mg) (nm : Str) (b : Bool) (z : sub_law_lines_40 nm = some b) : PySem.W.exmOne K (.ref (He.ga K nm)) (.ref (He.ga K "InvalidLine")) = some b := by
  unfold sub_law_lines_40 at z
  split at z
  · rename_i e; cases z; rw [e]; exact kn.exm 11
  cases z
def b_law_lines : SM := (sTryE sub_law_lines_40 (some 1) (sRet (mFn (arity 1 f_lines_of) [] (mCons (mVar 0) mNil))) (fun y => if y.cls = "InvalidLine" then (sRet (mLst true (mCons (mXf y "line") (mCons (mC (.bl true)) mNil)))) else fun _ _ => .bad))
def f_law_lines : FM := runF 2 b_law_lines
theorem ok_law_lines {w : World} {K : PySem.W.Frag} {mg : Str → Option Value} {base : Heap} (kn : Kn K mg) : Has PP w K mg base 4 d_law_lines ["text"] f_law_lines := by
  obtain ⟨fd0, F0, O0⟩ := ok_lines_of (w := w) (base := base) kn
  have B1 := FunD.bindsN (ps := ["text"]) F0 (fun _ _ _ _ _ _ us hl => match us, hl with | [_], _ => rfl)
  refine has_def (k := 3) (N := ["text", "e"]) (d := d_law_lines) (kn.c.def_ 4 (d := d_law_lines) rfl) sc_law_lines fun f cdv A outer s H E hr => ?_
  delta b_law_lines
  exact (dss_one (ds_tryE_as (i := 1) (cv := (.ref (He.ga K "InvalidLine"))) rfl rfl sc_law_lines.nd rfl rfl (⟨rfl, by decide, .inl (kn.glo 10)⟩) tk_of (subok_law_lines_40 kn) (fun W1 pn1 xe1 tk1 own1 => (dss_one (ds_ret (de_call (dds := []) O0 (hr.mono (by omega)) rfl (kn.glo 12) F0.kp B1 .nil (fun _ _ => rfl) tk1 (da_cons (de_var (pv 0)) da_nil))))) (fun ⟨yc, yf⟩ a od oe pn hc hz hf => by
      replace hc : sub_law_lines_40 yc = some true := hc
      unfold sub_law_lines_40 at hc
      split at hc
      · rename_i e; subst e; show PSs _ _ (tS _ _ _ _ (sRet (mLst true (mCons (mXf (⟨"InvalidLine", yf⟩ : Exn) "line") (mCons (mC (.bl true)) mNil))))); exact (dss_one (ds_ret (de_lst (hm := true) (da_cons (de_xf (xf_of (fx_exc (fx_at kn.x 0))) (kn.noat 3) hz hf (pv 1)) (da_cons (by exact de_isX (fx_exc (fx_at kn.x 0)) hz hf (pv 1) (pe_glob (v := .ref (He.ga K "RiseError")) rfl (kn.glo 14) rfl) (fun _ r => r) (fx_kitR (fx_at kn.x 1)) rfl (kn.free 13) (by decide +kernel)) da_nil)))))
      cases hc)))
def b_words : SM := (sRet (mBS (gSplit false) (mVar 0) (mCons (mC (.str " ")) mNil)))
def f_words : FM := runF 1 b_words
theorem ok_words {w : World} {K : PySem.W.Frag} {mg : Str → Option Value} {base : Heap} (kn : Kn K mg) : Has PP w K mg base 1 d_words ["line"] f_words := by
  refine has_def (k := 0) (N := ["line"]) (d := d_words) (kn.c.def_ 5 (d := d_words) rfl) sc_words fun f cdv A outer s H E hr => ?_
  delta b_words
  exact (dss_one (ds_ret (de_bS PySem.F.plainAttrs_str PySem.F.slot_str_split PySem.F.type_str_split (ms_split false) (de_var (pv 0)) (da_cons de_str da_nil))))
def b_law_words_right : SM := (sSeq (sAsg (mFn (arity 1 f_words) [] (mCons (mVar 0) mNil)) (bName 1))
    (sSeq (sAsg (mLst true (mCons (mC (.str "")) mNil)) (bName 2))
    (sSeq (sForS (mVar 0) (bName 3) (sIf (mTest (mOp gEq (mVar 3) (mC (.str " ")))) (sDrop (mApp (mVar 2) (mC (.str "")))) (sAsg (mOp (gAdd false) (mOp gIx (mVar 2) (mNeg (mC (.int 1)))) (mVar 3)) (bSubL (mVar 2) (mNeg (mC (.int 1)))))))
    (sRet (mAndV (mIsi "list" (mVar 1)) (mOp gEq (mVar 1) (mVar 2)))))))
def f_law_words_right : FM := runF 4 b_law_words_right
theorem ok_law_words_right {w : World} {K : PySem.W.Frag} {mg : Str → Option Value} {base : Heap} (kn : Kn K mg) : Has PP w K mg base 2 d_law_words_right ["line"] f_law_words_right := by
  obtain ⟨fd0, F0, O0⟩ := ok_words (w := w) (base := base) kn
  have B1 := FunD.bindsN (ps := ["line"]) F0 (fun _ _ _ _ _ _ us hl => match us, hl with | [_], _ => rfl)
  refine has_def (k := 1) (N := ["line", "rows", "due", "sign"]) (d := d_law_words_right) (kn.c.def_ 6 (d := d_law_words_right) rfl) sc_law_words_right fun f cdv A outer s H E hr => ?_
  delta b_law_words_right
  exact (dss_cons (ds_set (i := 1) sc_law_words_right.nd rfl (by first | exact .inl rfl | exact .inr rfl) (de_call (dds := []) O0 (hr.mono (by omega)) rfl (kn.glo 15) F0.kp B1 .nil (fun _ _ => rfl) tk_of (da_cons (de_var (pv 0)) da_nil)))
    (dss_cons (ds_set (i := 2) sc_law_words_right.nd rfl (by first | exact .inl rfl | exact .inr rfl) (de_lst (hm := true) (da_cons de_str da_nil)))
    (dss_cons (ds_forS own_of rfl (de_var (pv 0)) (dg_name (i := 3) sc_law_words_right.nd rfl (by first | exact .inl rfl | exact .inr rfl)) (dss_one (ds_if (dt_cmp (od_eq hr.units) (de_var (pv 3)) de_str (nomark _)) (dss_one (ds_expr (de_app (de_var (pv 2)) de_str))) (dss_one (ds_asg (de_op (od_add false) (de_ix (de_var (pv 2)) (de_neg de_int) (fun _ _ => rfl)) (de_var (pv 3))) (dg_subL (W := WF) (de_var (pv 2)) (de_neg de_int)))))))
    (dss_one (ds_ret (de_and (de_isi (T := "list") rfl (kn.free 13) (by decide +kernel) rfl (kn.free 16) (by decide +kernel) (de_var (pv 1))) (de_and1 (by exact (de_cmp (od_eq hr.units) (de_var (pv 1)) (de_var (pv 2)) (nomark _))))))))))
def b_law_due : SM := (sSeq (sAsg (mLst true (mCons (mC (.str "")) mNil)) (bName 1))
    (sSeq (sForS (mVar 0) (bName 2) (sIf (mTest (mOp gEq (mVar 2) (mC (.str "\n")))) (sDrop (mApp (mVar 1) (mC (.str "")))) (sAsg (mOp (gAdd false) (mOp gIx (mVar 1) (mNeg (mC (.int 1)))) (mVar 2)) (bSubL (mVar 1) (mNeg (mC (.int 1)))))))
    (sSeq (sIf (mTest (mOp gEq (mVar 0) (mC (.str "")))) (sRet (mLst false mNil)) sNext)
    (sRet (mIf (mTest (mOp gEq (mOp gIx (mVar 1) (mNeg (mC (.int 1)))) (mC (.str "")))) (mSl false (mVar 1) oNone (oSome (mNeg (mC (.int 1))))) (mLst false (mCons (mCall (g1 gLen) (mCons (mVar 1) mNil)) (mCons (mC (.bl true)) mNil))))))))
def f_law_due : FM := runF 3 b_law_due
theorem ok_law_due {w : World} {K : PySem.W.Frag} {mg : Str → Option Value} {base : Heap} (kn : Kn K mg) : Has PP w K mg base 1 d_law_due ["text"] f_law_due := by
  refine has_def (k := 0) (N := ["text", "rows", "sign"]) (d := d_law_due) (kn.c.def_ 7 (d := d_law_due) rfl) sc_law_due fun f cdv A outer s H E hr => ?_
  delta b_law_due
  exact (dss_cons (ds_set (i := 1) sc_law_due.nd rfl (by first | exact .inl rfl | exact .inr rfl) (de_lst (hm := true) (da_cons de_str da_nil)))
    (dss_cons (ds_forS own_of rfl (de_var (pv 0)) (dg_name (i := 2) sc_law_due.nd rfl (by first | exact .inl rfl | exact .inr rfl)) (dss_one (ds_if (dt_cmp (od_eq hr.units) (de_var (pv 2)) de_str (nomark _)) (dss_one (ds_expr (de_app (de_var (pv 1)) de_str))) (dss_one (ds_asg (de_op (od_add false) (de_ix (de_var (pv 1)) (de_neg de_int) (fun _ _ => rfl)) (de_var (pv 2))) (dg_subL (W := WF) (de_var (pv 1)) (de_neg de_int)))))))
    (dss_cons (ds_if (dt_cmp (od_eq hr.units) (de_var (pv 0)) de_str (nomark _)) (dss_one (ds_ret (de_lst (hm := false) da_nil))) dss_nil)
    (dss_one (ds_ret (de_if (dt_cmp (od_eq hr.units) (de_ix (de_var (pv 1)) (de_neg de_int) (fun _ _ => rfl)) de_str (nomark _)) (de_sl (hm := false) (de_var (pv 1)) do_none (do_some (de_neg de_int))) (de_lst (hm := false) (da_cons (de_callB cd_len rfl (kn.free 4) (by decide +kernel) (da_cons (de_var (pv 1)) da_nil)) (da_cons de_bl da_nil)))))))))
theorem blk_law_71_23 : BlkOk ["script", "state", "k", "text", "found", "line"] (defScope s_law) { kind := .function, names := [(".0", .local), ("line", .local)], isGenerator := false, isCoroutine := false, more := [] } [("line", 5)] := ⟨rfl, by decide +kernel, by decide +kernel, by decide +kernel, by decide +kernel⟩
theorem blk_law_71_71 : BlkOk ["script", "state", "k", "text", "found", "line"] (defScope s_law) { kind := .function, names := [(".0", .local), ("line", .local), ("_law_words_right", .globalImplicit)], isGenerator := false, isCoroutine := false, more := [] } [("line", 5)] := ⟨rfl, by decide +kernel, by decide +kernel, by decide +kernel, by decide +kernel⟩
def b_law : SM := (sSeq (sAsg (mLst true (mCons (mVar 0) (mCons (mC (.int 0)) (mCons (mC (.int 0)) mNil)))) (bName 1))
    (sSeq (sForR1 (mCons (mC (.int 8)) mNil) (bName 2) (sSeq (sAsg (mFn (arity 1 f_law_text) [] (mCons (mVar 1) mNil)) (bName 3))
    (sSeq (sAsg (mFn (arity 1 f_law_lines) [] (mCons (mVar 3) mNil)) (bName 4))
    (sSeq (sIf (mOr (mTest (mOp gNe (mVar 4) (mFn (arity 1 f_law_due) [] (mCons (mVar 3) mNil)))) (mNot (mTest (mIsi "list" (mVar 4))))) (sRet (mC (.bl false))) sNext)
    (sSeq (sIf (mTest (mBS (gEnds) (mVar 3) (mCons (mC (.str "\n")) mNil))) (sSeq (sIf (mOr (mTest (mOp gNe (mBS (gJoin) (mC (.str "")) (mCons (mLcL false (mVar 4) [5] (bName 5) mYes (mOp (gAdd false) (mVar 5) (mC (.str "\n")))) mNil)) (mVar 3))) (mTest (mOp gGt (mCall (g1 gLen) (mCons (mLcL false (mVar 4) [5] (bName 5) (mNot (mTest (mFn (arity 1 f_law_words_right) [] (mCons (mVar 5) mNil)))) (mVar 5)) mNil)) (mC (.int 0))))) (sRet (mC (.bl false))) sNext)
    (sSeq (sDrop (mApp (mVar 4) (mC (.str "x"))))
    (sIf (mTest (mOp gEq (mFn (arity 1 f_lines_of) [] (mCons (mVar 3) mNil)) (mVar 4))) (sRet (mC (.bl false))) sNext))) sNext)
    (sIf (mNot (mTest (mFn (arity 1 f_law_words_right) [] (mCons (mRepl "\n" " " (mVar 3)) mNil)))) (sRet (mC (.bl false))) sNext))))))
    (sRet (mC (.bl true)))))
def f_law : FM := runF 6 b_law
theorem ok_law {w : World} {K : PySem.W.Frag} {mg : Str → Option Value} {base : Heap} (kn : Kn K mg) : ∃ fd, FunD K "law" "law" (defArgs s_law) (defBody s_law) (defScope s_law) [] [] (He.ga K "law") fd ∧ FnOk PP w K mg base CX0 5 (He.ga K "law") fd ["script"] (spLaw K f_law) := by
  obtain ⟨fd0, F0, O0⟩ := ok_law_text (w := w) (base := base) kn
  have B1 := FunD.bindsN (ps := ["state"]) F0 (fun _ _ _ _ _ _ us hl => match us, hl with | [_], _ => rfl)
  obtain ⟨fd2, F2, O2⟩ := ok_law_lines (w := w) (base := base) kn
  have B3 := FunD.bindsN (ps := ["text"]) F2 (fun _ _ _ _ _ _ us hl => match us, hl with | [_], _ => rfl)
  obtain ⟨fd4, F4, O4⟩ := ok_law_due (w := w) (base := base) kn
  have B5 := FunD.bindsN (ps := ["text"]) F4 (fun _ _ _ _ _ _ us hl => match us, hl with | [_], _ => rfl)
  obtain ⟨fd6, F6, O6⟩ := ok_law_words_right (w := w) (base := base) kn
  have B7 := FunD.bindsN (ps := ["line"]) F6 (fun _ _ _ _ _ _ us hl => match us, hl with | [_], _ => rfl)
  obtain ⟨fd8, F8, O8⟩ := ok_lines_of (w := w) (base := base) kn
  have B9 := FunD.bindsN (ps := ["text"]) F8 (fun _ _ _ _ _ _ us hl => match us, hl with | [_], _ => rfl)
  obtain ⟨fd, F⟩ := kn.c.def_ 8 (d := d_law) rfl
  refine ⟨fd, F, law_def (ad := He.ga K) (k := 4) (N := ["script", "state", "k", "text", "found", "line"]) F sc_law fun cdv A outer s H E hr => ?_⟩
  delta b_law
  exact (dss_cons (ds_set (i := 1) sc_law.nd rfl (by first | exact .inl rfl | exact .inr rfl) (de_lst (hm := true) (da_cons (de_var (pv 0)) (da_cons de_int (da_cons de_int da_nil)))))
    (dss_cons (ds_forR1 own_of rfl rfl (kn.free 9) (da_cons de_int da_nil) (dg_name (i := 2) sc_law.nd rfl (by first | exact .inl rfl | exact .inr rfl)) (dss_cons (ds_set (i := 3) sc_law.nd rfl (by first | exact .inl rfl | exact .inr rfl) (de_call (dds := []) O0 (hr.mono (by omega)) rfl (kn.glo 17) F0.kp B1 .nil (fun _ _ => rfl) takesF (da_cons (de_var (pv 1)) da_nil)))
    (dss_cons (ds_set (i := 4) sc_law.nd rfl (by first | exact .inl rfl | exact .inr rfl) (de_call (dds := []) O2 (hr.mono (by omega)) rfl (kn.glo 18) F2.kp B3 .nil (fun _ _ => rfl) takesF (da_cons (de_var (pv 3)) da_nil)))
    (dss_cons (ds_if (PW.pt (dw_or (dt_cmp (od_ne hr.units) (de_var (pv 4)) (de_call (dds := []) O4 (hr.mono (by omega)) rfl (kn.glo 19) F4.kp B5 .nil (fun _ _ => rfl) takesF (da_cons (de_var (pv 3)) da_nil)) (nomark _)) (dw_or1 (dt_not (dt_val (de_isi (T := "list") rfl (kn.free 13) (by decide +kernel) rfl (kn.free 16) (by decide +kernel) (de_var (pv 4)))))))) (dss_one (ds_ret de_bl)) dss_nil)
    (dss_bS1T PySem.F.plainAttrs_str PySem.F.slot_str_endswith PySem.F.type_str_endswith ms_ends (de_var (pv 3)) (dss_cons (ds_if (PW.pt (dw_or (dt_cmp (od_ne hr.units) (de_bS PySem.F.plainAttrs_str PySem.F.slot_str_join PySem.F.type_str_join ms_join de_str (da_cons (de_lcL (own := [("line", 5)]) (hm := false) rfl sc_law.nd (de_var (pv 4)) blk_law_71_23 (fun s1 H1 C1 cl1 fp1 J1 hJ1 => (dg_name (i := 5) sc_law.nd rfl (by first | exact .inl rfl | exact .inr rfl) (hJ := fun σ v S h => hJ1 σ v S 5 (by simp) h))) (fun s1 H1 C1 cl1 fp1 J1 hJ1 => dts_nil) (fun s1 H1 C1 cl1 fp1 J1 hJ1 => (de_op (od_add false) (de_var (pv 5)) de_str))) da_nil)) (de_var (pv 3)) (nomark _)) (dw_or1 (dt_cmp od_gt (de_callB cd_len rfl (kn.free 4) (by decide +kernel) (da_cons (de_lcL (own := [("line", 5)]) (hm := false) rfl sc_law.nd (de_var (pv 4)) blk_law_71_71 (fun s2 H2 C2 cl2 fp2 J2 hJ2 => (dg_name (i := 5) sc_law.nd rfl (by first | exact .inl rfl | exact .inr rfl) (hJ := fun σ v S h => hJ2 σ v S 5 (by simp) h))) (fun s2 H2 C2 cl2 fp2 J2 hJ2 => (dts_one (dt_not (dt_val (de_call (dds := []) O6 (hr.mono (by omega)) rfl (kn.glo 20) F6.kp B7 .nil (fun _ _ => rfl) takesF (da_cons (de_var (pv 5)) da_nil)))))) (fun s2 H2 C2 cl2 fp2 J2 hJ2 => (de_var (pv 5)))) da_nil)) de_int (nomark _))))) (dss_one (ds_ret de_bl)) dss_nil)
    (dss_cons (ds_expr (de_app (de_var (pv 4)) de_str))
    (dss_one (ds_if (dt_cmp (od_eq hr.units) (de_call (dds := []) O8 (hr.mono (by omega)) rfl (kn.glo 12) F8.kp B9 .nil (fun _ _ => rfl) takesF (da_cons (de_var (pv 3)) da_nil)) (de_var (pv 4)) (nomark _)) (dss_one (ds_ret de_bl)) dss_nil)))) dss_nil
    (dsst_one (dst_if (dtt_not (dtt_val (det_call (dds := []) O6 (hr.mono (by omega)) rfl (kn.glo 20) F6.kp B7 .nil (fun _ _ => rfl) takesF (dat_one (det_repl (de_var (pv 3)) (y := "\n") (z := " ")))))) (dss_one (ds_ret de_bl)) dss_nil)))))))
    (dss_one (ds_ret de_bl))))
end DK.k11
end
section
set_option Elab.async false
set_option linter.all false
set_option autoImplicit false
set_option maxRecDepth 100000
set_option maxHeartbeats 0
/-! The head of darkrise_k11_lines_and_words: printed by gen.py. -/
namespace DK.k11
open PySem L2 DK
def loose0 : List PySem.Str := ["RiseError", "InvalidLine", "words", "lines_of", "_law_cell", "_law_take", "_law_text", "_law_lines", "_law_due", "_law_words_right"]
def loose : List PySem.Str := loose0
abbrev R : PySem.W.OpenRow := PySem.W.OpenLaw.row PySem.Challenge.rw_darkrise_k11_lines_and_words
abbrev hk : PySem.W.Hook := hookJ fa fn fx "/claim/cut.py" ins
def ob (s : PySem.W.SharedT) : AlI := obsJG fa fn fx "/claim/cut.py" ins (HandSHeadRun.getT s)
theorem ob_eq (s : PySem.W.SharedT) : ob s = hk.obs s.abs := obsJG_eq (HandSHeadRun.getT_eq s)
theorem runA (w : World) : HandSHeadRun.RunEq R (PySem.W.view R.prog [13]) (hkL (Bool × Bool × (Bool × List FnC)) (true, true, (true, ins.map IniD.val))) (fun s => (lookA fa s, lookX fx s, lookI "/claim/cut.py" ins s)) 20000 loose w := by
  intro os
  kernel_rfl
theorem runB (w : World) : HandSHeadRun.RunEq R (PySem.W.view R.prog [13]) (hkL (Bool × List He.FnW) (true, fn.map He.DefD.val)) (fun s => (lookD fn s, lookV fn s)) 20000 loose w := by
  intro os
  kernel_rfl
theorem run (w : World) : HandSHeadRun.RunEq R (PySem.W.view R.prog [13]) hk ob 20000 loose w := run_of (run_and (runA w) (runB w)) fun s h => look_join h
end DK.k11
open PySem PySem.W PySem.Calls PyProof.Rows
theorem DK.k11.core (hm : ∀ ns : List Int, ns.length ≤ 63 → ∃ O, DK.k11.f_law [.rol (ns.map DK.D.int)] [] = .ok (.bl true) O) : PySem.Challenge.rw_darkrise_k11_lines_and_words.Holds := by
  w_on; o_law
  refine HandSHeadRun.head_any (r := OpenLaw.row PySem.Challenge.rw_darkrise_k11_lines_and_words) (q := view (OpenLaw.row PySem.Challenge.rw_darkrise_k11_lines_and_words).prog [13]) (H := DK.k11.hk) (ob := DK.k11.ob) (M := 20000) (loose := DK.k11.loose) (d := HandSHeadRun.topDef (OpenLaw.row PySem.Challenge.rw_darkrise_k11_lines_and_words).prog 13) (kwd := []) DK.k11.ob_eq
    (by kernel_rfl) (fun s => by kernel_rfl) DK.k11.run (by kernel_rfl) (by kernel_rfl) (by kernel_rfl) (by rfl) (by first | assumption | decide +kernel) (by decide +kernel) ⟨rfl, rfl, rfl, rfl, rfl, by decide +kernel⟩ ?hw ?hc
  case hw => w_witness2
  case hc =>
    refine L2.walk_ofE (l := PySem.Challenge.rw_darkrise_k11_lines_and_words) (n := 63) (k := 5) (x := "script") (CX := L2.CX0) rfl (by decide) (by kernel_rfl) ⟨rfl, by decide, by decide⟩ ?F (fun _ _ _ _ z => z)
    intro w mg fa h Y G hmg0
    obtain ⟨K, KX, c⟩ := Y
    have hmg : mg ("law" : PySem.Str) = some (.ref fa) := by
      have e : (HandSHeadRun.topDef (OpenLaw.row PySem.Challenge.rw_darkrise_k11_lines_and_words).prog 13).name = ("law" : PySem.Str) := by kernel_rfl
      rw [← e]
      exact hmg0
    have kn : DK.k11.Kn K mg := ⟨⟨c.c, c.x, h, KX, G⟩, c.i⟩
    have e := hmg.symm.trans (kn.glo 0)
    cases e
    obtain ⟨fd1, F1⟩ := kn.c.def_ 8 (d := DK.k11.d_law) rfl
    obtain ⟨fd, F, _⟩ := DK.k11.ok_law (w := w) (base := h) kn
    have b := L2.FunD.bindsA (ps := ["script"]) F fun _ _ _ _ _ _ us hl => match us, hl with | [_], _ => rfl
    refine ⟨K, fd, DK.spLaw K DK.k11.f_law, KX, fun s v => b s [v] rfl, fun H a ns hl _ hS => ⟨a, ns, rfl, hS, hl, hm ns hl, fun _ => rfl⟩, fun base _ _ => ?_⟩
    obtain ⟨fd2, F2, O2⟩ := DK.k11.ok_law (w := w) (base := base) kn
    rw [DK.fd_eq F F2]
    exact O2
end
section
set_option Elab.async false
set_option linter.all false
set_option autoImplicit false
set_option maxRecDepth 100000
set_option maxHeartbeats 4000000
/-! K11A: rows of a text, in plain Lean. -/
namespace DK.k11
open PySem L2 DK
abbrev one (c : Nat) : Str := ⟨#[c]⟩
def jn (c : Nat) (ps : List Str) : List Nat := (Str.join (one c) ps).cps.toList
def free (c : Nat) (ps : List Str) : Prop := ∀ p ∈ ps, c ∉ p.cps.toList
theorem str_ext {a b : Str} (h : a.cps.toList = b.cps.toList) : a = b := Str.ext' (Array.toList_inj.mp h)
theorem jn_one (c : Nat) (x : Str) : jn c [x] = x.cps.toList := rfl
theorem jn_cons (c : Nat) (x y : Str) (r : List Str) : jn c (x :: y :: r) = x.cps.toList ++ c :: jn c (y :: r) := by
  unfold jn
  show ((x ++ one c ++ Str.join (one c) (y :: r)).cps).toList = _
  rw [Str.cps_append, Str.cps_append, Array.toList_append, Array.toList_append, List.append_assoc]
  rfl
theorem cut_eq {c : Nat} : ∀ {x y A B : List Nat}, c ∉ x → c ∉ y → x ++ c :: A = y ++ c :: B → x = y ∧ A = B
  | [], [], A, B, _, _, h => ⟨rfl, (List.cons.inj h).2⟩
  | [], b :: y, A, B, _, hy, h => absurd (List.mem_cons.mpr (.inl (List.cons.inj h).1)) hy
  | a :: x, [], A, B, hx, _, h => absurd (List.mem_cons.mpr (.inl (List.cons.inj h).1.symm)) hx
  | a :: x, b :: y, A, B, hx, hy, h => by
    obtain ⟨h1, h2⟩ := List.cons.inj h
    obtain ⟨h3, h4⟩ := cut_eq (fun z => hx (List.mem_cons_of_mem _ z)) (fun z => hy (List.mem_cons_of_mem _ z)) h2
    exact ⟨by rw [h1, h3], h4⟩
theorem jn_uniq {c : Nat} : ∀ {ps qs : List Str}, ps ≠ [] → qs ≠ [] → free c ps → free c qs → jn c ps = jn c qs → ps = qs
  | [], _, h, _, _, _, _ => absurd rfl h
  | _, [], _, h, _, _, _ => absurd rfl h
  | [x], [y], _, _, _, _, h => by rw [jn_one, jn_one] at h; rw [str_ext h]
  | [x], y :: z :: r, _, _, hp, _, h => by
    rw [jn_one, jn_cons] at h
    exact absurd (by rw [h]; simp) (hp x List.mem_cons_self)
  | x :: z :: r, [y], _, _, _, hq, h => by
    rw [jn_one, jn_cons] at h
    exact absurd (by rw [← h]; simp) (hq y List.mem_cons_self)
  | x :: z :: r, y :: z' :: r', _, _, hp, hq, h => by
    rw [jn_cons, jn_cons] at h
    obtain ⟨h1, h2⟩ := cut_eq (hp x List.mem_cons_self) (hq y List.mem_cons_self) h
    rw [str_ext h1, jn_uniq (ps := z :: r) (qs := z' :: r') (by simp) (by simp) (fun p hp' => hp p (List.mem_cons_of_mem _ hp')) (fun p hp' => hq p (List.mem_cons_of_mem _ hp')) h2]
theorem jn_last {c s : Nat} {l : Str} : ∀ {A : List Str}, jn c (A ++ [l ++ one s]) = jn c (A ++ [l]) ++ [s]
  | [] => by
    show (l ++ one s).cps.toList = l.cps.toList ++ [s]
    rw [Str.cps_append, Array.toList_append]
  | [x] => by
    show jn c (x :: (l ++ one s) :: []) = jn c (x :: l :: []) ++ [s]
    rw [jn_cons, jn_cons, jn_one, jn_one, Str.cps_append, Array.toList_append, List.append_assoc]
    rfl
  | x :: y :: A => by
    show jn c (x :: y :: (A ++ [l ++ one s])) = jn c (x :: y :: (A ++ [l])) ++ [s]
    rw [jn_cons, jn_cons, show y :: (A ++ [l ++ one s]) = (y :: A) ++ [l ++ one s] from rfl, jn_last (A := y :: A), List.append_assoc]
    rfl
theorem jn_new {c : Nat} {l : Str} : ∀ {A : List Str}, jn c (A ++ [l, Str.empty]) = jn c (A ++ [l]) ++ [c]
  | [] => by
    show jn c (l :: Str.empty :: []) = l.cps.toList ++ [c]
    rw [jn_cons]
    rfl
  | [x] => by
    show jn c (x :: l :: Str.empty :: []) = jn c (x :: l :: []) ++ [c]
    rw [jn_cons, jn_cons, jn_cons, jn_one, jn_one, List.append_assoc]
    rfl
  | x :: y :: A => by
    show jn c (x :: y :: (A ++ [l, Str.empty])) = jn c (x :: y :: (A ++ [l])) ++ [c]
    rw [jn_cons, jn_cons, show y :: (A ++ [l, Str.empty]) = (y :: A) ++ [l, Str.empty] from rfl, jn_new (A := y :: A), List.append_assoc]
    rfl
theorem split_is {c : Nat} {x : Str} {ps : List Str} (h0 : ps ≠ []) (hf : free c ps) (h : jn c ps = x.cps.toList) : Txt.split x (one c) = ps := by
  have j : Str.join (one c) (Txt.split x (one c)) = x := StrLaws.join_split x (one c)
  have hs : Txt.split x (one c) ≠ [] := fun e => by
    unfold Txt.split at e
    split at e
    · cases e
    · split at e
      · cases e
      · rw [StrLaws.partsBetween_eq] at e
        obtain ⟨p, r, e2⟩ := StrLaws.partsFrom_ne x (one c).length 0 (Builtin.Str.occurrences x (one c) 0 x.length (x.length + 1))
        rw [e2] at e
        cases e
  exact jn_uniq hs h0 (StrLaws.split_free x c) hf (by unfold jn at h ⊢; rw [j, h])
/-! ### the loop over a text -/
section
variable {O : Store} {n : Nat} {c : Nat}
/-- rows so far: the last one is still open -/
structure RowsAt (n c : Nat) (xs : List Nat) (O : Store) : Prop where
  e : ∃ (A : List Str) (l : Str), O[n]? = some (.lst ((A ++ [l]).map .str)) ∧ free c (A ++ [l]) ∧ jn c (A ++ [l]) = xs ∧ A.length ≤ xs.length ∧ l.length ≤ xs.length
theorem rows_new {xs : List Nat} (h : RowsAt n c xs O) : ∃ A l, O[n]? = some (.lst ((A ++ [l]).map .str)) ∧ A.length ≤ xs.length ∧ RowsAt n c (xs ++ [c]) (O.set n (.lst ((A ++ [l]).map .str ++ [.str Str.empty]))) := by
  obtain ⟨A, l, e, hf, hj, hA, hl⟩ := h.e
  refine ⟨A, l, e, hA, A ++ [l], Str.empty, ?_, fun p hp => ?_, ?_, by rw [List.length_append, List.length_append]; simp; omega, Nat.zero_le _⟩
  · rw [List.getElem?_set_self (List.getElem?_eq_some_iff.mp e).1]
    simp
  · rcases List.mem_append.mp hp with q | q
    · exact hf p q
    · rw [List.mem_singleton.mp q]
      simp [Str.empty]
  · rw [show A ++ [l] ++ [Str.empty] = A ++ [l, Str.empty] by simp, jn_new, hj]
theorem rows_sign {xs : List Nat} {s : Nat} (hs : s ≠ c) (h : RowsAt n c xs O) : ∃ A l, O[n]? = some (.lst ((A ++ [l]).map .str)) ∧ A.length ≤ xs.length ∧ l.length ≤ xs.length ∧ RowsAt n c (xs ++ [s]) (O.set n (.lst ((A ++ [l ++ one s]).map .str))) := by
  obtain ⟨A, l, e, hf, hj, hA, hl⟩ := h.e
  refine ⟨A, l, e, hA, hl, A, l ++ one s, List.getElem?_set_self (List.getElem?_eq_some_iff.mp e).1, fun p hp => ?_, by rw [jn_last, hj], by rw [List.length_append]; omega, by rw [Str.length_append, List.length_append]; show l.length + 1 ≤ _; simp; omega⟩
  rcases List.mem_append.mp hp with q | q
  · exact hf p (List.mem_append_left _ q)
  · rw [List.mem_singleton.mp q, Str.cps_append, Array.toList_append]
    intro z
    rcases List.mem_append.mp z with z | z
    · exact hf l (by simp) z
    · have z : c ∈ [s] := z
      exact hs (List.mem_singleton.mp z).symm
theorem rows_fin {x : Str} (h : RowsAt n c x.cps.toList O) : O[n]? = some (.lst ((Txt.split x (one c)).map .str)) := by
  obtain ⟨A, l, e, hf, hj, _⟩ := h.e
  rw [split_is (by simp) hf hj]
  exact e
end
end DK.k11
end
section
set_option Elab.async false
set_option linter.all false
set_option autoImplicit false
set_option maxRecDepth 100000
set_option maxHeartbeats 4000000
/-! DKPlain: the draws of the laws, in plain Lean. -/
namespace DK
open PySem L2
theorem set_at {O : Store} {n : Nat} {o p : Ob} (h : O[n]? = some o) : (O.set n p)[n]? = some p := List.getElem?_set_self (List.getElem?_eq_some_iff.mp h).1
theorem gMul_ok {O : Store} {i j : Int} (hi : i.natAbs < 2 ^ 4096) (hj : j.natAbs < 2 ^ 4096) : gMul O (.int i) (.int j) = some (.int (i * j), O) := by
  have h1 : i.natAbs.log2 ≤ 4096 := by
    by_cases h : i.natAbs = 0
    · rw [h]; decide
    · exact Nat.le_of_lt ((Nat.log2_lt h).mpr hi)
  have h2 : j.natAbs.log2 ≤ 4096 := by
    by_cases h : j.natAbs = 0
    · rw [h]; decide
    · exact Nat.le_of_lt ((Nat.log2_lt h).mpr hj)
  unfold gMul gI
  have e : decide (i.natAbs.log2 + j.natAbs.log2 < 1000000) = true := decide_eq_true (by omega)
  simp only [e, if_pos]
theorem gFdiv_ok {O : Store} {i j : Int} (h0 : 0 < j) (hj : j.natAbs < 2 ^ 4096) : gFdiv O (.int i) (.int j) = some (.int (i / j), O) := by
  have h2 : j.natAbs.log2 ≤ 4096 := Nat.le_of_lt ((Nat.log2_lt (by omega)).mpr hj)
  unfold gFdiv gI
  have e : decide (0 < j ∧ j.natAbs.log2 < 9000) = true := decide_eq_true ⟨h0, by omega⟩
  simp only [e, if_pos]
theorem gMod_ok {O : Store} {i j : Int} (h0 : 0 < j) : gMod O (.int i) (.int j) = some (.int (i % j), O) := by
  unfold gMod gI
  have e : decide (0 < j) = true := decide_eq_true h0
  simp only [e, if_pos]
theorem gPow_ok {O : Store} {i j : Int} (h0 : 0 ≤ j) (h1 : j ≤ 1000000) (h2 : i.natAbs < 2 ^ 64) : gPow O (.int i) (.int j) = some (.int (i ^ j.toNat), O) := by
  unfold gPow gI
  have e : decide (0 ≤ j ∧ j ≤ 1000000 ∧ i.natAbs < 2 ^ 64) = true := decide_eq_true ⟨h0, h1, h2⟩
  simp only [e, if_pos]
theorem gSub_ok {O : Store} {i j : Int} : gSub O (.int i) (.int j) = some (.int (i - j), O) := rfl
theorem gAdd_ok {O : Store} {h : Bool} {i j : Int} : gAdd h O (.int i) (.int j) = some (.int (i + j), O) := rfl
theorem gEq_int {O : Store} {i j : Int} : gEq O (.int i) (.int j) = some (.bl (decide (i = j)), O) := by
  have : decide (V.int i = V.int j) = decide (i = j) := by simp
  show (match some (decide (V.int i = V.int j)) with | some b => some (D.bl b, O) | none => none) = _
  rw [this]
theorem gNe_int {O : Store} {i j : Int} : gNe O (.int i) (.int j) = some (.bl (!decide (i = j)), O) := by
  have : decide (V.int i = V.int j) = decide (i = j) := by simp
  show (match some (decide (V.int i = V.int j)) with | some b => some (D.bl (!b), O) | none => none) = _
  rw [this]
theorem gLt_int {O : Store} {i j : Int} : gLt O (.int i) (.int j) = some (.bl (decide (i < j)), O) := rfl
theorem gLe_int {O : Store} {i j : Int} : gLe O (.int i) (.int j) = some (.bl (decide (i ≤ j)), O) := rfl
theorem gGt_int {O : Store} {i j : Int} : gGt O (.int i) (.int j) = some (.bl (decide (j < i)), O) := rfl
theorem gGe_int {O : Store} {i j : Int} : gGe O (.int i) (.int j) = some (.bl (decide (j ≤ i)), O) := rfl
theorem atI_nat {α : Type} {xs : List α} {i : Int} {x : α} (h0 : 0 ≤ i) (h : xs[i.toNat]? = some x) : atI xs i = some x := by
  have hl := (List.getElem?_eq_some_iff.mp h).1
  unfold atI ixN
  rw [if_pos h0, if_pos (by omega)]
  exact h
theorem big_of {i : Int} {n : Nat} (h0 : 0 ≤ i) (h : i ≤ n) (hn : n < 2 ^ 4096) : i.natAbs < 2 ^ 4096 := by omega
theorem atI_c0 {α : Type} {a : α} {xs : List α} : atI (a :: xs) 0 = some a := atI_nat (by decide) rfl
theorem atI_c1 {α : Type} {a b : α} {xs : List α} : atI (a :: b :: xs) 1 = some b := atI_nat (by decide) rfl
theorem atI_c2 {α : Type} {a b c : α} {xs : List α} : atI (a :: b :: c :: xs) 2 = some c := atI_nat (by decide) rfl
theorem atI_c3 {α : Type} {a b c d : α} {xs : List α} : atI (a :: b :: c :: d :: xs) 3 = some d := atI_nat (by decide) rfl
theorem atI_c4 {α : Type} {a b c d e : α} {xs : List α} : atI (a :: b :: c :: d :: e :: xs) 4 = some e := atI_nat (by decide) rfl
/-! ### evaluation -/
theorem kitTab : kitB "NoneType" "bool" = some false ∧ kitB "NoneType" "int" = some false ∧ kitB "NoneType" "str" = some false ∧ kitB "NoneType" "list" = some false ∧ kitB "NoneType" "tuple" = some false ∧ kitB "NoneType" "dict" = some false ∧ kitB "bool" "bool" = some true ∧ kitB "bool" "int" = some true ∧ kitB "bool" "str" = some false ∧ kitB "bool" "list" = some false ∧ kitB "bool" "tuple" = some false ∧ kitB "bool" "dict" = some false ∧ kitB "int" "bool" = some false ∧ kitB "int" "int" = some true ∧ kitB "int" "str" = some false ∧ kitB "int" "list" = some false ∧ kitB "int" "tuple" = some false ∧ kitB "int" "dict" = some false ∧ kitB "str" "bool" = some false ∧ kitB "str" "int" = some false ∧ kitB "str" "str" = some true ∧ kitB "str" "list" = some false ∧ kitB "str" "tuple" = some false ∧ kitB "str" "dict" = some false ∧ kitB "list" "bool" = some false ∧ kitB "list" "int" = some false ∧ kitB "list" "str" = some false ∧ kitB "list" "list" = some true ∧ kitB "list" "tuple" = some false ∧ kitB "list" "dict" = some false ∧ kitB "tuple" "bool" = some false ∧ kitB "tuple" "int" = some false ∧ kitB "tuple" "str" = some false ∧ kitB "tuple" "list" = some false ∧ kitB "tuple" "tuple" = some true ∧ kitB "tuple" "dict" = some false ∧ kitB "dict" "bool" = some false ∧ kitB "dict" "int" = some false ∧ kitB "dict" "str" = some false ∧ kitB "dict" "list" = some false ∧ kitB "dict" "tuple" = some false ∧ kitB "dict" "dict" = some true := by decide +kernel
theorem gNe_bl {O : Store} {i j : Bool} : gNe O (.bl i) (.bl j) = some (.bl (!decide (i = j)), O) := by cases i <;> cases j <;> rfl
theorem gEq_bl {O : Store} {i j : Bool} : gEq O (.bl i) (.bl j) = some (.bl (decide (i = j)), O) := by cases i <;> cases j <;> rfl
theorem gEq_str {O : Store} {i j : Str} : gEq O (.str i) (.str j) = some (.bl (decide (i = j)), O) := by
  have : decide (V.str i = V.str j) = decide (i = j) := by simp
  show (match some (decide (V.str i = V.str j)) with | some b => some (D.bl b, O) | none => none) = _
  rw [this]
theorem gNe_str {O : Store} {i j : Str} : gNe O (.str i) (.str j) = some (.bl (!decide (i = j)), O) := by
  have : decide (V.str i = V.str j) = decide (i = j) := by simp
  show (match some (decide (V.str i = V.str j)) with | some b => some (D.bl (!b), O) | none => none) = _
  rw [this]
theorem isNon_t : isNon .non = true ∧ (∀ b, isNon (.bl b) = false) ∧ (∀ b, isNon (.int b) = false) ∧ (∀ b, isNon (.str b) = false) ∧ (∀ b, isNon (.lst b) = false) ∧ (∀ b, isNon (.tup b) = false) ∧ (∀ b, isNon (.hdl b) = false) := ⟨rfl, fun _ => rfl, fun _ => rfl, fun _ => rfl, fun _ => rfl, fun _ => rfl, fun _ => rfl⟩
/-- a loop keeps what each turn keeps -/
theorem loopD_keeps {turn : D → SM} {I : Nat → Loc → Store → Prop} : ∀ (ds : List D) (i : Nat) (L : Loc) (O : Store), I i L O → (∀ j d L O, ds[j]? = some d → I (i + j) L O → ∃ L' O', turn d L O = .next L' O' ∧ I (i + j + 1) L' O') → ∃ L' O', loopD turn ds L O = .next L' O' ∧ I (i + ds.length) L' O'
  | [], i, L, O, h, _ => ⟨L, O, rfl, h⟩
  | d :: ds, i, L, O, h, k => by
    obtain ⟨L1, O1, e, h1⟩ := k 0 d L O rfl h
    obtain ⟨L2, O2, e2, h2⟩ := loopD_keeps ds (i + 1) L1 O1 h1 fun j d' L O hd hI => by
      have := k (j + 1) d' L O hd (by rw [show i + (j + 1) = i + 1 + j by omega]; exact hI)
      rw [show i + (j + 1) + 1 = i + 1 + j + 1 by omega] at this
      exact this
    refine ⟨L2, O2, ?_, by rw [show i + (d :: ds).length = i + 1 + ds.length by rw [List.length_cons]; omega]; exact h2⟩
    show (match turn d L O with
      | .next L1 O1 => loopD turn ds L1 O1
      | .cnt L1 O1 => loopD turn ds L1 O1
      | .brk L1 O1 => .next L1 O1
      | .ret d O1 => .ret d O1
      | .exc x L1 O1 => .exc x L1 O1
      | .bad => .bad) = _
    rw [e]
    exact e2
end DK
end
section
set_option Elab.async false
set_option linter.all false
set_option autoImplicit false
set_option maxRecDepth 100000
set_option maxHeartbeats 4000000
/-! DKLaws: what many laws share, in plain Lean: draws that keep the rest of the store, picks, checked numbers, sameness. -/
namespace DK
open PySem L2
/-! ### checked numbers -/
/-! ### comprehensions over a range -/
theorem rangeD_len (a : Int) (n : Nat) : (rangeD a n).length = n := by simp [rangeD]
end DK
end
section
set_option Elab.async false
set_option linter.all false
set_option autoImplicit false
set_option maxRecDepth 100000
set_option maxHeartbeats 4000000
/-! DKText: the takes of the laws; loops over the signs of a text, in plain Lean. -/
namespace DK
open PySem L2
def fCell : FM := runF 2 (sSeq (sIf (mTest (mOp gLt (mVar 1) (mCall (g1 gLen) (mCons (mVar 0) mNil)))) (sRet (mCall (g1 gAbs) (mCons (mCall (g1 gInt) (mCons (mOp gIx (mVar 0) (mVar 1)) mNil)) mNil))) sNext)
    (sRet (mOp (gAdd false) (mOp gMul (mC (.int 37)) (mVar 1)) (mC (.int 11)))))
def bTake : SM := (sSeq (sIf (mTest (mOp gGt (mOp gIx (mVar 0) (mC (.int 2))) (mC (.int 0)))) (sSeq (sAsg (mOp gMod (mCall (g1 gInt) (mCons (mOp gIx (mVar 0) (mC (.int 2))) mNil)) (mVar 1)) (bName 2))
    (sSeq (sAsg (mOp gFdiv (mCall (g1 gInt) (mCons (mOp gIx (mVar 0) (mC (.int 2))) mNil)) (mVar 1)) (bSubL (mVar 0) (mC (.int 2))))
    (sRet (mVar 2)))) sNext)
    (sSeq (sAsg (mFn (arity 2 fCell) [] (mCons (mOp gIx (mVar 0) (mC (.int 0))) (mCons (mOp gIx (mVar 0) (mC (.int 1))) mNil))) (bName 3))
    (sSeq (sAsg (mOp (gAdd false) (mOp gIx (mVar 0) (mC (.int 1))) (mC (.int 1))) (bSubL (mVar 0) (mC (.int 1))))
    (sSeq (sIf (mTest (mOp gGe (mVar 3) (mOp gPow (mC (.int 10)) (mC (.int 9))))) (sAsg (mOp gFdiv (mCall (g1 gInt) (mCons (mVar 3) mNil)) (mVar 1)) (bSubL (mVar 0) (mC (.int 2)))) sNext)
    (sRet (mOp gMod (mCall (g1 gInt) (mCons (mVar 3) mNil)) (mVar 1)))))))
def fTake : FM := runF 4 bTake
/-- the state of the takes at n: its script, place (at most b), what is left -/
def takeL (ns : List Int) (z la : Int) : List D := [.rol (ns.map D.int), .int z, .int la]
structure Take (b : Nat) (n : Nat) (O : Store) : Prop where
  ex : ∃ ns z la, O[n]? = some (.lst (takeL ns z la)) ∧ ns.length ≤ 1000 ∧ 0 ≤ z ∧ z ≤ b ∧ 0 ≤ la
theorem tmono {n a c : Nat} {O : Store} (hac : a ≤ c) : Take a n O → Take c n O := fun ⟨ns, z, la, h, h0, h1, h2, h3⟩ => ⟨ns, z, la, h, h0, h1, by omega, h3⟩
theorem cell_ok {ns : List Int} {z : Int} {O : Store} (h0 : 0 ≤ z) (h1 : z ≤ 2 ^ 64) : ∃ c, fCell [.rol (ns.map D.int), .int z] O = .ok (.int c) O ∧ 0 ≤ c := by
  have ml : ∀ O : Store, gMul O (.int 37) (.int z) = some (.int (37 * z), O) := fun O => gMul_ok (by decide) (big_of (n := 2 ^ 64) h0 (by omega) (by decide))
  by_cases c : z < ns.length
  · obtain ⟨x, hx⟩ : ∃ x, ns[z.toNat]? = some x := ⟨ns[z.toNat]'(by omega), List.getElem?_eq_getElem _⟩
    have hix : atI (ns.map D.int) z = some (.int x) := atI_nat h0 (by rw [List.getElem?_map, hx]; rfl)
    exact ⟨if x < 0 then -x else x, by simp [fCell, runF, sSeq, sIf, sNext, sDrop, sRet, sRetN, sAsg, ofRes, ofB, bName, bNil, bCons, bTup, bLst, bSubL, mTest, mOp, mVar, mC, mChain, mAnd, mOr, mNot, mIf, mAndV, mOrV, mNotV, mNeg, mCons, mNil, mTup, mLst, newL, mCall, mFn, arity, g1, g2, gLen, gInt, gAbs, gMax2, gMin2, gIx, seqOf, lsqOf, lstOf, Res.bind, ofO, gAdd_ok, gSub_ok, gEq_int, gNe_int, gLt_int, gLe_int, gGt_int, gGe_int, gEq_bl, gNe_bl, gEq_str, gNe_str, mIsi, mIsiT, tyD, kitL, kitTab, atI_c0, atI_c1, atI_c2, atI_c3, atI_c4, sForR1, int1, int2, mMeth, mMake, mFld, sFldM, gIs, gIsNot, isNon_t, sRaise, gList, newLO, c, hix], by split <;> omega⟩
  · exact ⟨37 * z + 11, by simp [fCell, runF, sSeq, sIf, sNext, sDrop, sRet, sRetN, sAsg, ofRes, ofB, bName, bNil, bCons, bTup, bLst, bSubL, mTest, mOp, mVar, mC, mChain, mAnd, mOr, mNot, mIf, mAndV, mOrV, mNotV, mNeg, mCons, mNil, mTup, mLst, newL, mCall, mFn, arity, g1, g2, gLen, gInt, gAbs, gMax2, gMin2, gIx, seqOf, lsqOf, lstOf, Res.bind, ofO, gAdd_ok, gSub_ok, gEq_int, gNe_int, gLt_int, gLe_int, gGt_int, gGe_int, gEq_bl, gNe_bl, gEq_str, gNe_str, mIsi, mIsiT, tyD, kitL, kitTab, atI_c0, atI_c1, atI_c2, atI_c3, atI_c4, sForR1, int1, int2, mMeth, mMake, mFld, sFldM, gIs, gIsNot, isNon_t, sRaise, gList, newLO, c, ml], by omega⟩
theorem ixN3_1 : ixN 3 1 = some 1 := rfl
theorem ixN3_2 : ixN 3 2 = some 2 := rfl
theorem take_ok {b n : Nat} {O : Store} {m : Int} (h : Take b n O) (hm : 0 < m) (hm2 : m ≤ 2 ^ 64) (hb : b ≤ 2 ^ 32) :
    ∃ v P, fTake [.hdl n, .int m] O = .ok (.int v) (O.set n (.lst P)) ∧ 0 ≤ v ∧ v < m ∧ Take (b + 1) n (O.set n (.lst P)) := by
  obtain ⟨ns, z, la, h, hl, hz0, hz1, hla0⟩ := h
  have hmb : m.natAbs < 2 ^ 4096 := big_of (n := 2 ^ 64) (by omega) hm2 (by decide)
  have fd : ∀ (O : Store) (i : Int), gFdiv O (.int i) (.int m) = some (.int (i / m), O) := fun O i => gFdiv_ok hm hmb
  have md : ∀ (O : Store) (i : Int), gMod O (.int i) (.int m) = some (.int (i % m), O) := fun O i => gMod_ok hm
  have v0 : ∀ i : Int, 0 ≤ i % m ∧ i % m < m := fun i => ⟨Int.emod_nonneg i (by omega), Int.emod_lt_of_pos i hm⟩
  have hset : ∀ p : Ob, (O.set n p)[n]? = some p := fun p => set_at h
  have pw : ∀ (O : Store), gPow O (.int 10) (.int 9) = some (.int (10 ^ 9), O) := fun O => gPow_ok (by decide) (by decide) (by decide)
  by_cases c1 : 0 < la
  · refine ⟨la % m, takeL ns z (la / m), ?_, (v0 la).1, (v0 la).2, ns, z, la / m, set_at h, hl, hz0, by omega, Int.ediv_nonneg (by omega) (by omega)⟩
    simp [fTake, bTake, runF, sSeq, sIf, sNext, sDrop, sRet, sRetN, sAsg, ofRes, ofB, bName, bNil, bCons, bTup, bLst, bSubL, mTest, mOp, mVar, mC, mChain, mAnd, mOr, mNot, mIf, mAndV, mOrV, mNotV, mNeg, mCons, mNil, mTup, mLst, newL, mCall, mFn, arity, g1, g2, gLen, gInt, gAbs, gMax2, gMin2, gIx, seqOf, lsqOf, lstOf, Res.bind, ofO, gAdd_ok, gSub_ok, gEq_int, gNe_int, gLt_int, gLe_int, gGt_int, gGe_int, gEq_bl, gNe_bl, gEq_str, gNe_str, mIsi, mIsiT, tyD, kitL, kitTab, atI_c0, atI_c1, atI_c2, atI_c3, atI_c4, sForR1, int1, int2, mMeth, mMake, mFld, sFldM, gIs, gIsNot, isNon_t, sRaise, gList, newLO, h, hset, takeL, fd, md, c1, ixN3_1, ixN3_2]
  · obtain ⟨c, hc, c0⟩ := cell_ok (ns := ns) (O := O) hz0 (by omega)
    by_cases c2 : (10 : Int) ^ 9 ≤ c
    · refine ⟨c % m, takeL ns (z + 1) (c / m), ?_, (v0 c).1, (v0 c).2, ns, z + 1, c / m, set_at h, hl, by omega, by omega, Int.ediv_nonneg c0 (by omega)⟩
      simp only [show (10 : Int) ^ 9 = 1000000000 by decide] at c2 pw
      simp [fTake, bTake, runF, sSeq, sIf, sNext, sDrop, sRet, sRetN, sAsg, ofRes, ofB, bName, bNil, bCons, bTup, bLst, bSubL, mTest, mOp, mVar, mC, mChain, mAnd, mOr, mNot, mIf, mAndV, mOrV, mNotV, mNeg, mCons, mNil, mTup, mLst, newL, mCall, mFn, arity, g1, g2, gLen, gInt, gAbs, gMax2, gMin2, gIx, seqOf, lsqOf, lstOf, Res.bind, ofO, gAdd_ok, gSub_ok, gEq_int, gNe_int, gLt_int, gLe_int, gGt_int, gGe_int, gEq_bl, gNe_bl, gEq_str, gNe_str, mIsi, mIsiT, tyD, kitL, kitTab, atI_c0, atI_c1, atI_c2, atI_c3, atI_c4, sForR1, int1, int2, mMeth, mMake, mFld, sFldM, gIs, gIsNot, isNon_t, sRaise, gList, newLO, h, hset, takeL, fd, md, c1, c2, pw, hc, ixN3_1, ixN3_2]
    · refine ⟨c % m, takeL ns (z + 1) la, ?_, (v0 c).1, (v0 c).2, ns, z + 1, la, set_at h, hl, by omega, by omega, hla0⟩
      simp only [show (10 : Int) ^ 9 = 1000000000 by decide] at c2 pw
      simp [fTake, bTake, runF, sSeq, sIf, sNext, sDrop, sRet, sRetN, sAsg, ofRes, ofB, bName, bNil, bCons, bTup, bLst, bSubL, mTest, mOp, mVar, mC, mChain, mAnd, mOr, mNot, mIf, mAndV, mOrV, mNotV, mNeg, mCons, mNil, mTup, mLst, newL, mCall, mFn, arity, g1, g2, gLen, gInt, gAbs, gMax2, gMin2, gIx, seqOf, lsqOf, lstOf, Res.bind, ofO, gAdd_ok, gSub_ok, gEq_int, gNe_int, gLt_int, gLe_int, gGt_int, gGe_int, gEq_bl, gNe_bl, gEq_str, gNe_str, mIsi, mIsiT, tyD, kitL, kitTab, atI_c0, atI_c1, atI_c2, atI_c3, atI_c4, sForR1, int1, int2, mMeth, mMake, mFld, sFldM, gIs, gIsNot, isNon_t, sRaise, gList, newLO, h, hset, takeL, fd, md, c1, c2, pw, hc, ixN3_1, ixN3_2]
/-! ### signs -/
end DK
end
section
set_option Elab.async false
set_option linter.all false
set_option autoImplicit false
set_option maxRecDepth 100000
set_option maxHeartbeats 4000000
/-! DKLoop: loops, comprehensions and frames, in plain Lean. -/
namespace DK
open PySem L2
/-! ### frames -/
/-- all but the draws' state stands as before -/
def Fr (O O' : Store) : Prop := O.length ≤ O'.length ∧ ∀ i, 0 < i → i < O.length → O'[i]? = O[i]?
theorem Fr.refl (O : Store) : Fr O O := ⟨Nat.le_refl _, fun _ _ _ => rfl⟩
theorem Fr.trans {O O1 O2 : Store} (a : Fr O O1) (b : Fr O1 O2) : Fr O O2 := ⟨Nat.le_trans a.1 b.1, fun i h0 h => (b.2 i h0 (Nat.lt_of_lt_of_le h a.1)).trans (a.2 i h0 h)⟩
theorem Fr.at {O O' : Store} {i : Nat} {x : Ob} (f : Fr O O') (h0 : 0 < i) (h : O[i]? = some x) : O'[i]? = some x := (f.2 i h0 (List.getElem?_eq_some_iff.mp h).1).trans h
theorem fr_set0 {O : Store} {p : Ob} : Fr O (O.set 0 p) := ⟨by rw [List.length_set]; exact Nat.le_refl _, fun i h0 _ => List.getElem?_set_ne (by omega)⟩
/-- everything stands as before -/
def Fz (O O' : Store) : Prop := O.length ≤ O'.length ∧ ∀ i, i < O.length → O'[i]? = O[i]?
theorem Fz.refl (O : Store) : Fz O O := ⟨Nat.le_refl _, fun _ _ => rfl⟩
theorem Fz.trans {O O1 O2 : Store} (a : Fz O O1) (b : Fz O1 O2) : Fz O O2 := ⟨Nat.le_trans a.1 b.1, fun i h => (b.2 i (Nat.lt_of_lt_of_le h a.1)).trans (a.2 i h)⟩
theorem Fz.at {O O' : Store} {i : Nat} {x : Ob} (f : Fz O O') (h : O[i]? = some x) : O'[i]? = some x := (f.2 i (List.getElem?_eq_some_iff.mp h).1).trans h
theorem Fz.fr {O O' : Store} (f : Fz O O') : Fr O O' := ⟨f.1, fun i _ h => f.2 i h⟩
theorem fz_app {O : Store} {J : Store} : Fz O (O ++ J) := ⟨by rw [List.length_append]; omega, fun i h => List.getElem?_append_left h⟩
theorem fz_setNew {O O' : Store} {n : Nat} {p : Ob} (f : Fz O O') (h : O.length ≤ n) : Fz O (O'.set n p) := ⟨by rw [List.length_set]; exact f.1, fun i hi => by rw [List.getElem?_set_ne (by omega)]; exact f.2 i hi⟩
theorem Take.fz {b : Nat} {O O' : Store} (h : Take b 0 O) (f : Fz O O') : Take b 0 O' := by
  obtain ⟨ns, z, la, h, r⟩ := h
  exact ⟨ns, z, la, f.at h, r⟩
theorem Take.len {b : Nat} {O : Store} (h : Take b 0 O) : 0 < O.length := by
  obtain ⟨ns, z, la, h, r⟩ := h
  exact (List.getElem?_eq_some_iff.mp h).1
theorem Take.set {b n : Nat} {O : Store} {p : Ob} (h : Take b 0 O) (hn : n ≠ 0) : Take b 0 (O.set n p) := by
  obtain ⟨ns, z, la, h, r⟩ := h
  exact ⟨ns, z, la, by rw [List.getElem?_set_ne hn]; exact h, r⟩
theorem tk1 {b : Nat} {O : Store} {m : Int} (h : Take b 0 O) (hm : 0 < m) (hm2 : m ≤ 2 ^ 32) (hb : b ≤ 2 ^ 31) :
    ∃ v O', fTake [.hdl 0, .int m] O = .ok (.int v) O' ∧ 0 ≤ v ∧ v < m ∧ Take (b + 1) 0 O' ∧ Fr O O' ∧ O'.length = O.length := by
  obtain ⟨v, P, e, v0, v1, p⟩ := take_ok h hm (by omega) (by omega)
  exact ⟨v, _, e, v0, v1, p, fr_set0, List.length_set ..⟩
/-! ### loops -/
theorem forR1_keeps {t : AM} {b : BM} {body : SM} {I : Nat → Loc → Store → Prop} {L : Loc} {O O1 : Store} {j : Int} (ht : t L O = .ok [.int j] O1) (h0 : 0 ≤ j) (h1 : j ≤ 1000000) (hI : I 0 L O1)
    (st : ∀ (i : Nat) L O, (i : Int) < j → I i L O → ∃ L' O', turnOf b body (.int i) L O = .next L' O' ∧ I (i + 1) L' O') : ∃ L' O', sForR1 t b body L O = .next L' O' ∧ I j.toNat L' O' := by
  obtain ⟨L', O', e, h⟩ := loopD_keeps (turn := turnOf b body) (I := I) (rangeD 0 j.toNat) 0 L O1 hI fun i d L O hd hI => by
    have hl := (List.getElem?_eq_some_iff.mp hd).1
    rw [rangeD_len] at hl
    obtain rfl : d = .int (i : Int) := by
      unfold rangeD at hd
      rw [List.getElem?_map, List.getElem?_range hl] at hd
      have := (Option.some.inj hd).symm
      rw [this]
      show D.int (0 + (i : Int)) = _
      rw [Int.zero_add]
    rw [Nat.zero_add] at hI ⊢
    exact st i L O (by omega) hI
  rw [Nat.zero_add, rangeD_len] at h
  refine ⟨L', O', ?_, h⟩
  show ofRes L (t L O) (fun ds O1 => match int1 ds with
    | some j => loopD (turnOf b body) (rangeD 0 j.toNat) L O1
    | none => .bad) = _
  rw [ht]
  show (match int1 [.int j] with
    | some j => loopD (turnOf b body) (rangeD 0 j.toNat) L O1
    | none => .bad) = _
  rw [show int1 [.int j] = some j by simp [int1]; omega]
  exact e
/-! ### comprehensions -/
/-! ### lists that grow -/
/-! ### texts in order -/
end DK
end
section
set_option Elab.async false
set_option linter.all false
set_option autoImplicit false
set_option maxRecDepth 100000
set_option maxHeartbeats 4000000
/-! K11B: the law's loops over a text, in plain Lean. -/
namespace DK.k11
open PySem L2 DK
abbrev wrB : SM := (sIf (mTest (mOp gEq (mVar 3) (mC (.str " ")))) (sDrop (mApp (mVar 2) (mC (.str "")))) (sAsg (mOp (gAdd false) (mOp gIx (mVar 2) (mNeg (mC (.int 1)))) (mVar 3)) (bSubL (mVar 2) (mNeg (mC (.int 1))))))
abbrev duB : SM := (sIf (mTest (mOp gEq (mVar 2) (mC (.str "\n")))) (sDrop (mApp (mVar 1) (mC (.str "")))) (sAsg (mOp (gAdd false) (mOp gIx (mVar 1) (mNeg (mC (.int 1)))) (mVar 2)) (bSubL (mVar 1) (mNeg (mC (.int 1))))))
section
variable {O : Store} {n c : Nat} {xs : List Nat} {a b : D} {y : Option D}
theorem atI_snoc {ys : List D} {x : D} : atI (ys ++ [x]) (-1) = some x := by
  unfold atI ixN
  simp
  rw [if_pos (by omega)]
  have e : (-1 + ((ys.length : Int) + 1)).toNat = ys.length := by omega
  show (ys ++ [x])[(-1 + ((ys.length : Int) + 1)).toNat]? = _
  rw [e, List.getElem?_append_right (Nat.le_refl _), Nat.sub_self]
  rfl
theorem ixN_last {m : Nat} : ixN (m + 1) (-1) = some m := by
  unfold ixN
  simp
  omega
theorem set_snoc {ys : List D} {x z : D} : (ys ++ [x]).set ys.length z = ys ++ [z] := by
  rw [List.set_append_right _ _ (Nat.le_refl _), Nat.sub_self]
  rfl
theorem ix_snoc {ys : List D} {x : D} (e : O[n]? = some (.lst (ys ++ [x]))) : gIx O (.hdl n) (.int (-1)) = some (x, O) := by
  have h := atI_snoc (ys := ys) (x := x)
  show (match lsqOf O (.hdl n) with | some zs => (match atI zs (-1) with | some d => some (d, O) | none => none) | none => none) = _
  rw [show lsqOf O (.hdl n) = some (ys ++ [x]) by simp [lsqOf, lstOf, e]]
  simp only [h]
theorem wr_turn (h : RowsAt n 32 xs O) (hl : xs.length ≤ 1000) : ∃ O', turnOf (bName 3) wrB (.str (one c)) [some a, some b, some (.hdl n), y] O = .next [some a, some b, some (.hdl n), some (.str (one c))] O' ∧ RowsAt n 32 (xs ++ [c]) O' ∧ ∃ p, O' = O.set n p := by
  by_cases hc : c = 32
  · subst hc
    obtain ⟨A, l, e, hA, R⟩ := rows_new h
    have hln : ((A ++ [l]).map D.str).length ≤ 1000000 := by rw [List.length_map, List.length_append]; simp; omega
    refine ⟨_, ?_, R, _, rfl⟩
    show wrB [some a, some b, some (.hdl n), some (.str (one 32))] O = _
    have e0 : ("" : Str) = Str.empty := rfl
    have e1 : (one 32 = (" " : Str)) = True := eq_true rfl
    generalize (A ++ [l]).map D.str = zs at *
    simp [wrB, mApp, runF, sSeq, sIf, sNext, sDrop, sRet, sRetN, sAsg, ofRes, ofB, bName, bNil, bCons, bTup, bLst, bSubL, mTest, mOp, mVar, mC, mChain, mAnd, mOr, mNot, mIf, mAndV, mOrV, mNotV, mNeg, mCons, mNil, mTup, mLst, newL, mCall, mFn, arity, g1, g2, gLen, gInt, gAbs, gMax2, gMin2, gIx, seqOf, lsqOf, lstOf, Res.bind, ofO, gAdd_ok, gSub_ok, gEq_int, gNe_int, gLt_int, gLe_int, gGt_int, gGe_int, gEq_bl, gNe_bl, gEq_str, gNe_str, mIsi, mIsiT, tyD, kitL, kitTab, atI_c0, atI_c1, atI_c2, atI_c3, atI_c4, sForR1, int1, int2, mMeth, mMake, mFld, sFldM, gIs, gIsNot, isNon_t, sRaise, gList, newLO, e, hln, e1, e0]
  · obtain ⟨A, l, e, hA, hll, R⟩ := rows_sign hc h
    have ne : (one c = (" " : Str)) = False := eq_false fun q => hc (by
      have q2 : (one c).cps[0]? = ((" " : Str)).cps[0]? := congrArg (fun z : Str => z.cps[0]?) q
      exact Option.some.inj ((show (one c).cps[0]? = some c from rfl).symm.trans (q2.trans (show ((" " : Str)).cps[0]? = some 32 from by decide +kernel))))
    rw [List.map_append] at e
    have ix := ix_snoc e
    have ad : gAdd false O (.str l) (.str (one c)) = some (.str (l ++ one c), O) := by
      show (if l.length + (one c).length ≤ 1000000 then _ else none) = _
      rw [if_pos (by show l.length + 1 ≤ _; omega)]
    have hn : ((A.map D.str) ++ [l].map D.str).length = A.length + 1 := by simp
    have hx := ixN_last (m := A.length)
    have hs := set_snoc (ys := A.map D.str) (x := .str l) (z := .str (l ++ one c))
    rw [List.length_map] at hs
    refine ⟨_, ?_, R, _, rfl⟩
    show wrB [some a, some b, some (.hdl n), some (.str (one c))] O = _
    rw [List.map_append]
    show _ = SR.next _ (O.set n (.lst (A.map D.str ++ [.str (l ++ one c)])))
    rw [← hs]
    have e : O[n]? = some (.lst (A.map D.str ++ [.str l])) := e
    have hn : (A.map D.str ++ [D.str l]).length = A.length + 1 := by simp
    generalize A.map D.str ++ [D.str l] = zs at *
    simp [wrB, bSubL, lstOf, runF, sSeq, sIf, sNext, sDrop, sRet, sRetN, sAsg, ofRes, ofB, bName, bNil, bCons, bTup, bLst, bSubL, mTest, mOp, mVar, mC, mChain, mAnd, mOr, mNot, mIf, mAndV, mOrV, mNotV, mNeg, mCons, mNil, mTup, mLst, newL, mCall, mFn, arity, g1, g2, gLen, gInt, gAbs, gMax2, gMin2, seqOf, lsqOf, lstOf, Res.bind, ofO, gAdd_ok, gSub_ok, gEq_int, gNe_int, gLt_int, gLe_int, gGt_int, gGe_int, gEq_bl, gNe_bl, gEq_str, gNe_str, mIsi, mIsiT, tyD, kitL, kitTab, atI_c0, atI_c1, atI_c2, atI_c3, atI_c4, sForR1, int1, int2, mMeth, mMake, mFld, sFldM, gIs, gIsNot, isNon_t, sRaise, gList, newLO, ne, ix, ad, e, hn, hx]
theorem du_turn (h : RowsAt n 10 xs O) (hl : xs.length ≤ 1000) : ∃ O', turnOf (bName 2) duB (.str (one c)) [some a, some (.hdl n), y] O = .next [some a, some (.hdl n), some (.str (one c))] O' ∧ RowsAt n 10 (xs ++ [c]) O' ∧ ∃ p, O' = O.set n p := by
  by_cases hc : c = 10
  · subst hc
    obtain ⟨A, l, e, hA, R⟩ := rows_new h
    have hln : ((A ++ [l]).map D.str).length ≤ 1000000 := by rw [List.length_map, List.length_append]; simp; omega
    refine ⟨_, ?_, R, _, rfl⟩
    show duB [some a, some (.hdl n), some (.str (one 10))] O = _
    have e0 : ("" : Str) = Str.empty := rfl
    have e1 : (one 10 = ("\n" : Str)) = True := eq_true rfl
    generalize (A ++ [l]).map D.str = zs at *
    simp [duB, mApp, runF, sSeq, sIf, sNext, sDrop, sRet, sRetN, sAsg, ofRes, ofB, bName, bNil, bCons, bTup, bLst, bSubL, mTest, mOp, mVar, mC, mChain, mAnd, mOr, mNot, mIf, mAndV, mOrV, mNotV, mNeg, mCons, mNil, mTup, mLst, newL, mCall, mFn, arity, g1, g2, gLen, gInt, gAbs, gMax2, gMin2, gIx, seqOf, lsqOf, lstOf, Res.bind, ofO, gAdd_ok, gSub_ok, gEq_int, gNe_int, gLt_int, gLe_int, gGt_int, gGe_int, gEq_bl, gNe_bl, gEq_str, gNe_str, mIsi, mIsiT, tyD, kitL, kitTab, atI_c0, atI_c1, atI_c2, atI_c3, atI_c4, sForR1, int1, int2, mMeth, mMake, mFld, sFldM, gIs, gIsNot, isNon_t, sRaise, gList, newLO, e, hln, e1, e0]
  · obtain ⟨A, l, e, hA, hll, R⟩ := rows_sign hc h
    have ne : (one c = ("\n" : Str)) = False := eq_false fun q => hc (by
      have q2 : (one c).cps[0]? = (("\n" : Str)).cps[0]? := congrArg (fun z : Str => z.cps[0]?) q
      exact Option.some.inj ((show (one c).cps[0]? = some c from rfl).symm.trans (q2.trans (show (("\n" : Str)).cps[0]? = some 10 from by decide +kernel))))
    rw [List.map_append] at e
    have ix := ix_snoc e
    have ad : gAdd false O (.str l) (.str (one c)) = some (.str (l ++ one c), O) := by
      show (if l.length + (one c).length ≤ 1000000 then _ else none) = _
      rw [if_pos (by show l.length + 1 ≤ _; omega)]
    have hn : ((A.map D.str) ++ [l].map D.str).length = A.length + 1 := by simp
    have hx := ixN_last (m := A.length)
    have hs := set_snoc (ys := A.map D.str) (x := .str l) (z := .str (l ++ one c))
    rw [List.length_map] at hs
    refine ⟨_, ?_, R, _, rfl⟩
    show duB [some a, some (.hdl n), some (.str (one c))] O = _
    rw [List.map_append]
    show _ = SR.next _ (O.set n (.lst (A.map D.str ++ [.str (l ++ one c)])))
    rw [← hs]
    have e : O[n]? = some (.lst (A.map D.str ++ [.str l])) := e
    have hn : (A.map D.str ++ [D.str l]).length = A.length + 1 := by simp
    generalize A.map D.str ++ [D.str l] = zs at *
    simp [duB, bSubL, lstOf, runF, sSeq, sIf, sNext, sDrop, sRet, sRetN, sAsg, ofRes, ofB, bName, bNil, bCons, bTup, bLst, bSubL, mTest, mOp, mVar, mC, mChain, mAnd, mOr, mNot, mIf, mAndV, mOrV, mNotV, mNeg, mCons, mNil, mTup, mLst, newL, mCall, mFn, arity, g1, g2, gLen, gInt, gAbs, gMax2, gMin2, seqOf, lsqOf, lstOf, Res.bind, ofO, gAdd_ok, gSub_ok, gEq_int, gNe_int, gLt_int, gLe_int, gGt_int, gGe_int, gEq_bl, gNe_bl, gEq_str, gNe_str, mIsi, mIsiT, tyD, kitL, kitTab, atI_c0, atI_c1, atI_c2, atI_c3, atI_c4, sForR1, int1, int2, mMeth, mMake, mFld, sFldM, gIs, gIsNot, isNon_t, sRaise, gList, newLO, ne, ix, ad, e, hn, hx]
theorem part_in {c q : Nat} {p : Str} : ∀ {ps : List Str}, p ∈ ps → q ∈ p.cps.toList → q ∈ jn c ps
  | [], h, _ => by cases h
  | [x], h, hq => by rw [jn_one, ← List.mem_singleton.mp h]; exact hq
  | x :: y :: r, h, hq => by
    rw [jn_cons]
    rcases List.mem_cons.mp h with rfl | h
    · exact List.mem_append_left _ hq
    · exact List.mem_append_right _ (List.mem_cons_of_mem _ (part_in (ps := y :: r) h hq))
theorem strOk_iff {x : Str} : PyData.strOk x = true ↔ ∀ q ∈ x.cps.toList, q < 0x110000 := by
  unfold PyData.strOk
  rw [Array.all_eq_true]
  constructor
  · intro h q hq
    obtain ⟨i, hi, e⟩ := List.getElem_of_mem hq
    have := h i (by simpa using hi)
    rw [← e]
    simpa using this
  · intro h i hi
    have := h (x.cps[i]) (by simp)
    simpa using this
theorem split_ok {c : Nat} {x : Str} (h : PyData.strOk x = true) : ∀ p ∈ Txt.split x (one c), PyData.strOk p = true := fun p hp => strOk_iff.mpr fun q hq => strOk_iff.mp h q (by
  have j : Str.join (one c) (Txt.split x (one c)) = x := StrLaws.join_split x (one c)
  have := part_in (c := c) hp hq
  unfold jn at this
  rwa [j] at this)
/-- the loop: all the rows -/
theorem wr_loop {x : Str} (hx : x.length ≤ 900) (h : RowsAt n 32 [] O) : ∃ y' O', sForS (mVar 0) (bName 3) wrB [some (.str x), some b, some (.hdl n), none] O = .next [some (.str x), some b, some (.hdl n), y'] O' ∧ O'[n]? = some (.lst ((Txt.split x (one 32)).map .str)) ∧ O'.length = O.length ∧ ∀ j, j ≠ n → O'[j]? = O[j]? := by
  obtain ⟨L', O', e, y', rfl, R, hl, hk⟩ := loopD_keeps (turn := turnOf (bName 3) wrB) (I := fun i L O' => ∃ y, L = [some (.str x), some b, some (.hdl n), y] ∧ RowsAt n 32 (x.cps.toList.take i) O' ∧ O'.length = O.length ∧ ∀ j, j ≠ n → O'[j]? = O[j]?) (charsD x) 0 [some (.str x), some b, some (.hdl n), none] O ⟨none, rfl, by simpa using h, rfl, fun _ _ => rfl⟩ fun i d L O' hd ⟨y, hL, R, hl, hk⟩ => by
    rw [Nat.zero_add] at R ⊢
    subst hL
    unfold charsD at hd
    rw [List.getElem?_map] at hd
    obtain ⟨c, hc, rfl⟩ := Option.map_eq_some_iff.mp hd
    have hi := (List.getElem?_eq_some_iff.mp hc).1
    have hx' : x.cps.toList.length = x.length := by simp [Str.length]
    obtain ⟨O'', e, R', p, rfl⟩ := wr_turn (a := .str x) (b := b) (y := y) (c := c) R (by rw [List.length_take]; omega)
    refine ⟨_, _, e, _, rfl, ?_, by rw [List.length_set]; exact hl, fun j hj => by rw [List.getElem?_set_ne (Ne.symm hj)]; exact hk j hj⟩
    rw [List.take_succ, hc]
    exact R'
  refine ⟨y', O', e, ?_, hl, hk⟩
  rw [Nat.zero_add] at R
  have : (charsD x).length = x.cps.toList.length := by unfold charsD; rw [List.length_map]
  rw [this, List.take_length] at R
  exact rows_fin R
end
end DK.k11
end
section
set_option Elab.async false
set_option linter.all false
set_option autoImplicit false
set_option maxRecDepth 100000
set_option maxHeartbeats 4000000
/-! DKEq: == of values that stand as they are, in plain Lean. -/
namespace DK
open PySem L2
mutual
def pdD : D → PyData
  | .non => .none
  | .bl b => .bool b
  | .int i => .int i
  | .str s => .str s
  | .lst xs => .list (pdAll xs)
  | .rol xs => .list (pdAll xs)
  | .tup xs => .tuple (pdAll xs)
  | .hdl _ => .none
def pdAll : List D → List PyData
  | [] => []
  | x :: xs => pdD x :: pdAll xs
end
mutual
/-- no object of the store within, at most n deep -/
def okV : D → Nat → Bool
  | .non, _ => true
  | .bl _, _ => true
  | .int _, _ => true
  | .str s, _ => PySem.PyData.strOk s
  | .lst xs, n => okAll xs (n - 1) && decide (0 < n)
  | .rol xs, n => okAll xs (n - 1) && decide (0 < n)
  | .tup xs, n => okAll xs (n - 1) && decide (0 < n)
  | .hdl _, _ => false
def okAll : List D → Nat → Bool
  | [], _ => true
  | x :: xs, n => okV x n && okAll xs n
end
mutual
theorem deep_pd (O : Store) : ∀ (d : D) (n : Nat), okV d n = true → deep O (n + 1) d = some (pdD d)
  | .non, n, _ => rfl
  | .bl _, n, _ => rfl
  | .int _, n, _ => rfl
  | .str _, n, _ => rfl
  | .hdl _, n, h => by cases h
  | .lst xs, n, h => by
    obtain ⟨h1, h2⟩ := Bool.and_eq_true_iff.mp (show (okAll xs (n - 1) && decide (0 < n)) = true from h)
    have h2 := of_decide_eq_true h2
    show (xs.mapM (deep O n)).map PyData.list = _
    have := deep_pdAll O xs (n - 1) h1
    rw [show n - 1 + 1 = n by omega] at this
    rw [this]
    rfl
  | .rol xs, n, h => by
    obtain ⟨h1, h2⟩ := Bool.and_eq_true_iff.mp (show (okAll xs (n - 1) && decide (0 < n)) = true from h)
    have h2 := of_decide_eq_true h2
    show (xs.mapM (deep O n)).map PyData.list = _
    have := deep_pdAll O xs (n - 1) h1
    rw [show n - 1 + 1 = n by omega] at this
    rw [this]
    rfl
  | .tup xs, n, h => by
    obtain ⟨h1, h2⟩ := Bool.and_eq_true_iff.mp (show (okAll xs (n - 1) && decide (0 < n)) = true from h)
    have h2 := of_decide_eq_true h2
    show (xs.mapM (deep O n)).map PyData.tuple = _
    have := deep_pdAll O xs (n - 1) h1
    rw [show n - 1 + 1 = n by omega] at this
    rw [this]
    rfl
theorem deep_pdAll (O : Store) : ∀ (ds : List D) (n : Nat), okAll ds n = true → ds.mapM (deep O (n + 1)) = some (pdAll ds)
  | [], n, _ => by simp [pdAll]
  | d :: ds, n, h => by
    obtain ⟨h1, h2⟩ := Bool.and_eq_true_iff.mp (show (okV d n && okAll ds n) = true from h)
    rw [mapM_cons, deep_pd O d n h1]
    show (ds.mapM (deep O (n + 1))).bind _ = _
    rw [deep_pdAll O ds n h2]
    rfl
end
mutual
theorem shape_pd : ∀ (d : D) (n : Nat), okV d n = true → (pdD d).canLay0 = true ∧ (pdD d).depth ≤ n
  | .non, n, _ => ⟨rfl, Nat.zero_le _⟩
  | .bl _, n, _ => ⟨rfl, Nat.zero_le _⟩
  | .int _, n, _ => ⟨rfl, Nat.zero_le _⟩
  | .str s, n, h => ⟨by simpa [pdD, PyData.canLay0, okV] using h, Nat.zero_le _⟩
  | .hdl _, n, h => by cases h
  | .lst xs, n, h => by
    obtain ⟨h1, h2⟩ := Bool.and_eq_true_iff.mp (show (okAll xs (n - 1) && decide (0 < n)) = true from h)
    have h2 := of_decide_eq_true h2
    obtain ⟨q1, q2⟩ := shape_pdAll xs (n - 1) h1
    exact ⟨by simpa [pdD, PyData.canLay0] using q1, by simp only [pdD, PyData.depth]; omega⟩
  | .rol xs, n, h => by
    obtain ⟨h1, h2⟩ := Bool.and_eq_true_iff.mp (show (okAll xs (n - 1) && decide (0 < n)) = true from h)
    have h2 := of_decide_eq_true h2
    obtain ⟨q1, q2⟩ := shape_pdAll xs (n - 1) h1
    exact ⟨by simpa [pdD, PyData.canLay0] using q1, by simp only [pdD, PyData.depth]; omega⟩
  | .tup xs, n, h => by
    obtain ⟨h1, h2⟩ := Bool.and_eq_true_iff.mp (show (okAll xs (n - 1) && decide (0 < n)) = true from h)
    have h2 := of_decide_eq_true h2
    obtain ⟨q1, q2⟩ := shape_pdAll xs (n - 1) h1
    exact ⟨by simpa [pdD, PyData.canLay0] using q1, by simp only [pdD, PyData.depth]; omega⟩
theorem shape_pdAll : ∀ (ds : List D) (n : Nat), okAll ds n = true → PyData.canLayAll0 (pdAll ds) = true ∧ PyData.depthAll (pdAll ds) ≤ n
  | [], n, _ => ⟨by simp [pdAll, PyData.canLayAll0], by simp [pdAll, PyData.depthAll]⟩
  | d :: ds, n, h => by
    obtain ⟨h1, h2⟩ := Bool.and_eq_true_iff.mp (show (okV d n && okAll ds n) = true from h)
    obtain ⟨p1, p2⟩ := shape_pd d n h1
    obtain ⟨q1, q2⟩ := shape_pdAll ds n h2
    exact ⟨by simp [pdAll, PyData.canLayAll0, p1, q1], by simp only [pdAll, PyData.depthAll]; omega⟩
end
theorem shaped_pd {d : D} (h : okV d 29 = true) : SeqAt.shaped (pdD d) = true := by
  obtain ⟨h1, h2⟩ := shape_pd d 29 h
  unfold SeqAt.shaped
  rw [h1]
  simp
  all_goals omega
theorem eqD_pd {O : Store} {x y : D} (hx : okV x 29 = true) (hy : okV y 29 = true) (hf : flatOf x = none ∨ flatOf y = none) : eqD O x y = some (PyData.eqv (pdD x) (pdD y)) := by
  have e : eqD O x y = match deep O 30 x, deep O 30 y with
    | some p, some q => if SeqAt.shaped p = true ∧ SeqAt.shaped q = true then some (PyData.eqv p q) else none
    | _, _ => none := by
    unfold eqD
    rcases hf with hf | hf
    · rw [hf]
      all_goals (cases flatOf y <;> rfl)
    · rw [hf]
      all_goals (cases flatOf x <;> rfl)
  rw [e, deep_pd O x 29 hx, deep_pd O y 29 hy]
  show (if SeqAt.shaped (pdD x) = true ∧ SeqAt.shaped (pdD y) = true then some (PyData.eqv (pdD x) (pdD y)) else none) = _
  rw [if_pos ⟨shaped_pd hx, shaped_pd hy⟩]
theorem eqv_self {x : D} (hx : okV x 29 = true) : PyData.eqv (pdD x) (pdD x) = true := PySem.SeqAt.eqv_refl_plain _ (PyData.plain_of_canLay0 _ (shape_pd x 29 hx).1)
/-- an object of the store reads as its list -/
theorem eqD_hl {O : Store} {n : Nat} {xs : List D} {y : D} (h : O[n]? = some (.lst xs)) : eqD O (.hdl n) y = eqD O (.lst xs) y := by
  have e : deep O 30 (.hdl n) = deep O 30 (.lst xs) := by
    show (match O[n]? with | some (.lst xs) => (xs.mapM (deep O 29)).map PyData.list | _ => none) = _
    rw [h]
    rfl
  unfold eqD
  rw [e]
  rfl
theorem eqD_hr {O : Store} {n : Nat} {xs : List D} {y : D} (h : O[n]? = some (.lst xs)) : eqD O y (.hdl n) = eqD O y (.lst xs) := by
  have e : deep O 30 (.hdl n) = deep O 30 (.lst xs) := by
    show (match O[n]? with | some (.lst xs) => (xs.mapM (deep O 29)).map PyData.list | _ => none) = _
    rw [h]
    rfl
  unfold eqD
  rw [e]
  cases flatOf y <;> rfl
theorem gEq_of {O : Store} {x y : D} {b : Bool} (h : eqD O x y = some b) : gEq O x y = some (.bl b, O) := by unfold gEq; rw [h]
theorem gNe_of {O : Store} {x y : D} {b : Bool} (h : eqD O x y = some b) : gNe O x y = some (.bl (!b), O) := by unfold gNe; rw [h]
theorem okAll_of {n : Nat} : ∀ {ds : List D}, (∀ d ∈ ds, okV d n = true) → okAll ds n = true
  | [], _ => rfl
  | d :: ds, h => by
    show (okV d n && okAll ds n) = true
    rw [h d (by simp), okAll_of fun x hx => h x (List.mem_cons_of_mem _ hx)]
    rfl
theorem okV_lst {n : Nat} {ds : List D} (h : ∀ d ∈ ds, okV d n = true) : okV (.lst ds) (n + 1) = true := by
  show (okAll ds (n + 1 - 1) && decide (0 < n + 1)) = true
  rw [Nat.add_sub_cancel, okAll_of h]
  simp
theorem okV_strs {n : Nat} {xs : List Str} (h : ∀ x ∈ xs, PyData.strOk x = true) : okV (.lst (xs.map .str)) (n + 1) = true := okV_lst fun d hd => by
  obtain ⟨x, hx, rfl⟩ := List.mem_map.mp hd
  exact h x hx
end DK
end
section
set_option Elab.async false
set_option linter.all false
set_option autoImplicit false
set_option maxRecDepth 100000
set_option maxHeartbeats 4000000
/-! K11C: words of a line, lines of a text, in plain Lean. -/
namespace DK.k11
open PySem L2 DK
section
variable {O : Store} {n c : Nat} {x : Str}
theorem rows_start (hn : O.length = n) : RowsAt n c [] (O ++ [.lst [.str ""]]) := ⟨[], Str.empty, by rw [← hn]; simp; rfl, fun p hp => by
  rw [List.mem_singleton.mp hp]
  simp [Str.empty], rfl, Nat.le_refl _, Nat.le_refl _⟩
theorem words_ok (hx : x.length ≤ 900) (hc : (Txt.split x (one 32)).length ≤ 1000000) : f_words [.str x] O = .ok (.lst ((Txt.split x (one 32)).map .str)) O := by
  have h1 : x.length ≤ 1000000 := by omega
  have h2 : ((" " : Str).length == 0) = false := rfl
  have e : gSplit false O x [.str " "] = some (.lst ((Txt.split x (one 32)).map .str), O) := by
    show (if ((" " : Str).length == 0) = false ∧ x.length ≤ 1000000 then rows false (Txt.split x " ") O else none) = _
    rw [if_pos ⟨h2, h1⟩]
    show newLO false _ O = _
    unfold newLO
    rw [show (" " : Str) = one 32 from rfl, if_pos (by rw [List.length_map]; exact hc)]
    rfl
  simp [f_words, b_words, mBS, runF, sSeq, sIf, sNext, sDrop, sRet, sRetN, sAsg, ofRes, ofB, bName, bNil, bCons, bTup, bLst, bSubL, mTest, mOp, mVar, mC, mChain, mAnd, mOr, mNot, mIf, mAndV, mOrV, mNotV, mNeg, mCons, mNil, mTup, mLst, newL, mCall, mFn, arity, g1, g2, gLen, gInt, gAbs, gMax2, gMin2, seqOf, lsqOf, lstOf, Res.bind, ofO, gAdd_ok, gSub_ok, gEq_int, gNe_int, gLt_int, gLe_int, gGt_int, gGe_int, gEq_bl, gNe_bl, gEq_str, gNe_str, mIsi, mIsiT, tyD, kitL, kitTab, atI_c0, atI_c1, atI_c2, atI_c3, atI_c4, sForR1, int1, int2, mMeth, mMake, mFld, sFldM, gIs, gIsNot, isNon_t, sRaise, gList, newLO, e]
theorem split_len {x : Str} : (Txt.split x (one c)).length ≤ x.length + 1 := by
  have j : Str.join (one c) (Txt.split x (one c)) = x := StrLaws.join_split x (one c)
  have key : ∀ ps : List Str, ps.length ≤ (jn c ps).length + 1 := fun ps => by
    induction ps with
    | nil => exact Nat.zero_le _
    | cons a ps ih =>
      cases ps with
      | nil => simp
      | cons b r =>
        rw [jn_cons, List.length_append, List.length_cons, List.length_cons] at *
        simp only [List.length_cons] at ih ⊢
        omega
  have := key (Txt.split x (one c))
  unfold jn at this
  rw [j] at this
  simpa [Str.length] using this
theorem wr_is : b_law_words_right = sSeq (sAsg (mFn (arity 1 f_words) [] (mCons (mVar 0) mNil)) (bName 1)) (sSeq (sAsg (mLst true (mCons (mC (.str "")) mNil)) (bName 2)) (sSeq (sForS (mVar 0) (bName 3) wrB) (sRet (mAndV (mIsi "list" (mVar 1)) (mOp gEq (mVar 1) (mVar 2)))))) := rfl
theorem wr_ok (hx : x.length ≤ 900) (hs : PyData.strOk x = true) : ∃ O', f_law_words_right [.str x] O = .ok (.bl true) O' ∧ Fz O O' := by
  obtain ⟨n, hn⟩ : ∃ n, O.length = n := ⟨_, rfl⟩
  have sl := split_len (c := 32) (x := x)
  have e1 := words_ok (O := O) hx (by omega)
  obtain ⟨y', O', e2, g, hl, hk⟩ := wr_loop (b := .lst ((Txt.split x (one 32)).map .str)) hx (rows_start (c := 32) hn)
  have ok : okV (.lst ((Txt.split x (one 32)).map .str)) 29 = true := okV_strs (split_ok hs)
  have eq : gEq O' (.lst ((Txt.split x (one 32)).map .str)) (.hdl n) = some (.bl true, O') := gEq_of (by rw [eqD_hr g, eqD_pd ok ok (.inl rfl), eqv_self ok])
  refine ⟨O', ?_, ⟨by rw [hl, List.length_append]; omega, fun j hj => by rw [hk j (by omega)]; exact List.getElem?_append_left hj⟩⟩
  show runF 4 b_law_words_right [.str x] O = _
  unfold runF
  rw [show ([D.str x].map some ++ List.replicate (4 - [D.str x].length) none : Loc) = [some (.str x), none, none, none] from rfl]
  rw [wr_is]
  generalize (Txt.split x (one 32)).map D.str = zs at *
  generalize sForS (mVar 0) (bName 3) wrB = sf at *
  simp [runF, sSeq, sIf, sNext, sDrop, sRet, sRetN, sAsg, ofRes, ofB, bName, bNil, bCons, bTup, bLst, bSubL, mTest, mOp, mVar, mC, mChain, mAnd, mOr, mNot, mIf, mAndV, mOrV, mNotV, mNeg, mCons, mNil, mTup, mLst, newL, mCall, mFn, arity, g1, g2, gLen, gInt, gAbs, gMax2, gMin2, gIx, seqOf, lsqOf, lstOf, Res.bind, ofO, gAdd_ok, gSub_ok, gEq_int, gNe_int, gLt_int, gLe_int, gGt_int, gGe_int, gEq_bl, gNe_bl, gEq_str, gNe_str, mIsi, mIsiT, tyD, kitL, kitTab, atI_c0, atI_c1, atI_c2, atI_c3, atI_c4, sForR1, int1, int2, mMeth, mMake, mFld, sFldM, gIs, gIsNot, isNon_t, sRaise, gList, newLO, e1, hn, e2, eq, tyD, kitL, kitTab]
/-- the loop: all the rows -/
theorem du_loop {x : Str} (hx : x.length ≤ 900) (h : RowsAt n 10 [] O) : ∃ y' O', sForS (mVar 0) (bName 2) duB [some (.str x), some (.hdl n), none] O = .next [some (.str x), some (.hdl n), y'] O' ∧ O'[n]? = some (.lst ((Txt.split x (one 10)).map .str)) ∧ O'.length = O.length ∧ ∀ j, j ≠ n → O'[j]? = O[j]? := by
  obtain ⟨L', O', e, y', rfl, R, hl, hk⟩ := loopD_keeps (turn := turnOf (bName 2) duB) (I := fun i L O' => ∃ y, L = [some (.str x), some (.hdl n), y] ∧ RowsAt n 10 (x.cps.toList.take i) O' ∧ O'.length = O.length ∧ ∀ j, j ≠ n → O'[j]? = O[j]?) (charsD x) 0 [some (.str x), some (.hdl n), none] O ⟨none, rfl, by simpa using h, rfl, fun _ _ => rfl⟩ fun i d L O' hd ⟨y, hL, R, hl, hk⟩ => by
    rw [Nat.zero_add] at R ⊢
    subst hL
    unfold charsD at hd
    rw [List.getElem?_map] at hd
    obtain ⟨c, hc, rfl⟩ := Option.map_eq_some_iff.mp hd
    have hi := (List.getElem?_eq_some_iff.mp hc).1
    have hx' : x.cps.toList.length = x.length := by simp [Str.length]
    obtain ⟨O'', e, R', p, rfl⟩ := du_turn (a := .str x) (y := y) (c := c) R (by rw [List.length_take]; omega)
    refine ⟨_, _, e, _, rfl, ?_, by rw [List.length_set]; exact hl, fun j hj => by rw [List.getElem?_set_ne (Ne.symm hj)]; exact hk j hj⟩
    rw [List.take_succ, hc]
    exact R'
  refine ⟨y', O', e, ?_, hl, hk⟩
  rw [Nat.zero_add] at R
  have : (charsD x).length = x.cps.toList.length := by unfold charsD; rw [List.length_map]
  rw [this, List.take_length] at R
  exact rows_fin R
end
end DK.k11
end
section
set_option Elab.async false
set_option linter.all false
set_option autoImplicit false
set_option maxRecDepth 100000
set_option maxHeartbeats 4000000
/-! K11D: the lines of a text, and what is due, in plain Lean. -/
namespace DK.k11
open PySem L2 DK
section
variable {O : Store} {n : Nat} {x l : Str} {A : List Str}
theorem gs_ok (hx : x.length ≤ 900) (e : Txt.split x (one 10) = A ++ [l]) : gSplit false O x [.str "\n"] = some (.lst (A.map .str ++ [.str l]), O) := by
  have sl := split_len (c := 10) (x := x)
  show (if (("\n" : Str).length == 0) = false ∧ x.length ≤ 1000000 then rows false (Txt.split x "\n") O else none) = _
  rw [if_pos ⟨rfl, by omega⟩]
  show newLO false _ O = _
  unfold newLO
  rw [show ("\n" : Str) = one 10 from rfl, if_pos (by rw [List.length_map]; omega), e, List.map_append]
  rfl
theorem ixl_snoc {ys : List D} {z : D} : gIx O (.lst (ys ++ [z])) (.int (-1)) = some (z, O) := by
  have h := atI_snoc (ys := ys) (x := z)
  show (match atI (ys ++ [z]) (-1) with | some d => some (d, O) | none => none) = _
  rw [h]
theorem slice_last {h : Bool} {ys : List D} {z : D} (hl : ys.length ≤ 1000) : gSl h (.lst (ys ++ [z])) none (some (-1)) O = newL h ys O := by
  show newL h (cutD (ys ++ [z]) none (some (-1))) O = _
  have e : cutD (ys ++ [z]) none (some (-1)) = ys := by
    unfold cutD
    rw [show HT.sIx (ys ++ [z]).length 0 none = 0 from rfl]
    show ((ys ++ [z]).drop 0).take ((if (-1 : Int) < 0 then ((-1 : Int) + ((ys ++ [z]).length : Int)).toNat else min (-1 : Int).toNat (ys ++ [z]).length) - 0) = _
    rw [if_pos (by decide), List.drop_zero, Nat.sub_zero, List.length_append, List.length_singleton, show ((-1 : Int) + ((ys.length + 1 : Nat) : Int)).toNat = ys.length by omega]
    simp
  rw [e]
theorem lines_nil : f_lines_of [.str ""] O = .ok (.hdl O.length) (O ++ [.lst []]) := by
  simp [f_lines_of, b_lines_of, runF, sSeq, sIf, sNext, sDrop, sRet, sRetN, sAsg, ofRes, ofB, bName, bNil, bCons, bTup, bLst, bSubL, mTest, mOp, mVar, mC, mChain, mAnd, mOr, mNot, mIf, mAndV, mOrV, mNotV, mNeg, mCons, mNil, mTup, mLst, newL, mCall, mFn, arity, g1, g2, gLen, gInt, gAbs, gMax2, gMin2, gIx, seqOf, lsqOf, lstOf, Res.bind, ofO, gAdd_ok, gSub_ok, gEq_int, gNe_int, gLt_int, gLe_int, gGt_int, gGe_int, gEq_bl, gNe_bl, gEq_str, gNe_str, mIsi, mIsiT, tyD, kitL, kitTab, atI_c0, atI_c1, atI_c2, atI_c3, atI_c4, sForR1, int1, int2, mMeth, mMake, mFld, sFldM, gIs, gIsNot, isNon_t, sRaise, gList, newLO]
theorem lines_yes (hx : x.length ≤ 900) (h0 : x ≠ "") (e : Txt.split x (one 10) = A ++ [("" : Str)]) : f_lines_of [.str x] O = .ok (.hdl O.length) (O ++ [.lst (A.map .str)]) := by
  have sl := split_len (c := 10) (x := x)
  rw [e, List.length_append] at sl
  have g := gs_ok (O := O) hx e
  have i := ixl_snoc (O := O) (ys := A.map .str) (z := .str "")
  have s := slice_last (O := O) (h := true) (ys := A.map .str) (z := .str "") (by rw [List.length_map]; omega)
  have nl : newL true (A.map D.str) O = .ok (.hdl O.length) (O ++ [.lst (A.map .str)]) := by
    unfold newL
    rw [if_pos (by rw [List.length_map]; omega)]
    rfl
  rw [nl] at s
  generalize A.map D.str ++ [.str ""] = zs at *
  generalize A.map D.str = za at *
  simp [f_lines_of, b_lines_of, mBS, mSl, oNone, oSome, runF, sSeq, sIf, sNext, sDrop, sRet, sRetN, sAsg, ofRes, ofB, bName, bNil, bCons, bTup, bLst, bSubL, mTest, mOp, mVar, mC, mChain, mAnd, mOr, mNot, mIf, mAndV, mOrV, mNotV, mNeg, mCons, mNil, mTup, mLst, newL, mCall, mFn, arity, g1, g2, gLen, gInt, gAbs, gMax2, gMin2, seqOf, lsqOf, lstOf, Res.bind, ofO, gAdd_ok, gSub_ok, gEq_int, gNe_int, gLt_int, gLe_int, gGt_int, gGe_int, gEq_bl, gNe_bl, gEq_str, gNe_str, mIsi, mIsiT, tyD, kitL, kitTab, atI_c0, atI_c1, atI_c2, atI_c3, atI_c4, sForR1, int1, int2, mMeth, mMake, mFld, sFldM, gIs, gIsNot, isNon_t, sRaise, gList, newLO, g, i, s, h0]
theorem num_ok {k : Nat} (hk : k < 100) : (toString ((k : Nat) : Int) : Str).length ≤ 10 ∧ ((k : Nat) : Int).natAbs.log2 < 1920 := by
  have key : ∀ j : Fin 100, ((toString ((j.val : Nat) : Int) : Str).length ≤ 10 ∧ ((j.val : Nat) : Int).natAbs.log2 < 1920) := by decide +kernel
  exact key ⟨k, hk⟩
theorem xline_ok {k : Nat} (hk : k < 100) : x_InvalidLine [.int (k : Int)] O = some ([(("line" : Str), D.int (k : Int))], O) := by
  obtain ⟨h1, h2⟩ := num_ok hk
  have l5 : ("line " : Str).length = 5 := by decide +kernel
  have g1' : gStr O (.int (k : Int)) = some (.str (toString ((k : Nat) : Int) : Str), O) := by
    show (if ((k : Nat) : Int).natAbs.log2 < 1920 then _ else none) = _
    rw [if_pos h2]
  have g2' : gAdd false O (.str "line ") (.str (toString ((k : Nat) : Int) : Str)) = some (.str ("line " ++ (toString ((k : Nat) : Int) : Str)), O) := by
    show (if ("line " : Str).length + (toString ((k : Nat) : Int) : Str).length ≤ 1000000 then _ else none) = _
    rw [if_pos (by omega)]
  generalize (toString ((k : Nat) : Int) : Str) = ts at *
  have e : m_invalidline_init (iniL ["self", "line"] [.int (k : Int)]) O = .ok (.str ("line " ++ ts)) O := by
    show m_invalidline_init [none, some (.int (k : Int))] O = _
    simp [m_invalidline_init, mOp, mC, mCall, DK.g1, mCons, mNil, mVar, ofRes, Res.bind, ofO, g1', g2']
  unfold x_InvalidLine mkOne
  rw [e]
  rfl
theorem lines_no (hx : x.length ≤ 90) (h0 : x ≠ "") (hl : l ≠ "") (e : Txt.split x (one 10) = A ++ [l]) : f_lines_of [.str x] O = .exc ⟨"InvalidLine", some [("line", .int ((A.length + 1 : Nat) : Int))]⟩ O := by
  have sl := split_len (c := 10) (x := x)
  rw [e, List.length_append, List.length_singleton] at sl
  have g := gs_ok (O := O) (by omega) e
  have i := ixl_snoc (O := O) (ys := A.map .str) (z := .str l)
  have hz : (A.map D.str ++ [D.str l]).length = A.length + 1 := by simp
  have xl := xline_ok (O := O) (k := A.length + 1) (by omega)
  generalize A.map D.str ++ [D.str l] = zs at *
  generalize A.length + 1 = k at *
  simp [f_lines_of, b_lines_of, mBS, sRaiseX, runF, sSeq, sIf, sNext, sDrop, sRet, sRetN, sAsg, ofRes, ofB, bName, bNil, bCons, bTup, bLst, bSubL, mTest, mOp, mVar, mC, mChain, mAnd, mOr, mNot, mIf, mAndV, mOrV, mNotV, mNeg, mCons, mNil, mTup, mLst, newL, mCall, mFn, arity, g1, g2, gLen, gInt, gAbs, gMax2, gMin2, seqOf, lsqOf, lstOf, Res.bind, ofO, gAdd_ok, gSub_ok, gEq_int, gNe_int, gLt_int, gLe_int, gGt_int, gGe_int, gEq_bl, gNe_bl, gEq_str, gNe_str, mIsi, mIsiT, tyD, kitL, kitTab, atI_c0, atI_c1, atI_c2, atI_c3, atI_c4, sForR1, int1, int2, mMeth, mMake, mFld, sFldM, gIs, gIsNot, isNon_t, sRaise, gList, newLO, g, i, h0, hl, hz, xl]
end
end DK.k11
end
section
set_option Elab.async false
set_option linter.all false
set_option autoImplicit false
set_option maxRecDepth 100000
set_option maxHeartbeats 4000000
/-! K11E: the lines that are told, and those that are due, in plain Lean. -/
namespace DK.k11
open PySem L2 DK
section
variable {O : Store} {n : Nat} {x l : Str} {A : List Str}
theorem ll_nil : f_law_lines [.str ""] O = .ok (.hdl O.length) (O ++ [.lst []]) := by
  have e := lines_nil (O := O)
  simp [f_law_lines, b_law_lines, sTryE, runF, sSeq, sIf, sNext, sDrop, sRet, sRetN, sAsg, ofRes, ofB, bName, bNil, bCons, bTup, bLst, bSubL, mTest, mOp, mVar, mC, mChain, mAnd, mOr, mNot, mIf, mAndV, mOrV, mNotV, mNeg, mCons, mNil, mTup, mLst, newL, mCall, mFn, arity, g1, g2, gLen, gInt, gAbs, gMax2, gMin2, gIx, seqOf, lsqOf, lstOf, Res.bind, ofO, gAdd_ok, gSub_ok, gEq_int, gNe_int, gLt_int, gLe_int, gGt_int, gGe_int, gEq_bl, gNe_bl, gEq_str, gNe_str, mIsi, mIsiT, tyD, kitL, kitTab, atI_c0, atI_c1, atI_c2, atI_c3, atI_c4, sForR1, int1, int2, mMeth, mMake, mFld, sFldM, gIs, gIsNot, isNon_t, sRaise, gList, newLO, e]
theorem ll_yes (hx : x.length ≤ 900) (h0 : x ≠ "") (e : Txt.split x (one 10) = A ++ [("" : Str)]) : f_law_lines [.str x] O = .ok (.hdl O.length) (O ++ [.lst (A.map .str)]) := by
  have e := lines_yes (O := O) hx h0 e
  generalize A.map D.str = za at *
  simp [f_law_lines, b_law_lines, sTryE, runF, sSeq, sIf, sNext, sDrop, sRet, sRetN, sAsg, ofRes, ofB, bName, bNil, bCons, bTup, bLst, bSubL, mTest, mOp, mVar, mC, mChain, mAnd, mOr, mNot, mIf, mAndV, mOrV, mNotV, mNeg, mCons, mNil, mTup, mLst, newL, mCall, mFn, arity, g1, g2, gLen, gInt, gAbs, gMax2, gMin2, gIx, seqOf, lsqOf, lstOf, Res.bind, ofO, gAdd_ok, gSub_ok, gEq_int, gNe_int, gLt_int, gLe_int, gGt_int, gGe_int, gEq_bl, gNe_bl, gEq_str, gNe_str, mIsi, mIsiT, tyD, kitL, kitTab, atI_c0, atI_c1, atI_c2, atI_c3, atI_c4, sForR1, int1, int2, mMeth, mMake, mFld, sFldM, gIs, gIsNot, isNon_t, sRaise, gList, newLO, e]
theorem ll_no (hx : x.length ≤ 90) (h0 : x ≠ "") (hl : l ≠ "") (e : Txt.split x (one 10) = A ++ [l]) : f_law_lines [.str x] O = .ok (.hdl O.length) (O ++ [.lst [.int ((A.length + 1 : Nat) : Int), .bl true]]) := by
  have e := lines_no (O := O) hx h0 hl e
  have sb : sub_law_lines_40 "InvalidLine" = some true := rfl
  have lk : List.lookup ("line" : Str) [(("line" : Str), D.int ((A.length + 1 : Nat) : Int))] = some (.int ((A.length + 1 : Nat) : Int)) := rfl
  have fl : (flatFs [(("line" : Str), D.int ((A.length + 1 : Nat) : Int))]).isSome = true := rfl
  generalize A.length + 1 = k at *
  simp [f_law_lines, b_law_lines, sTryE, okX, mXf, runF, sSeq, sIf, sNext, sDrop, sRet, sRetN, sAsg, ofRes, ofB, bName, bNil, bCons, bTup, bLst, bSubL, mTest, mOp, mVar, mC, mChain, mAnd, mOr, mNot, mIf, mAndV, mOrV, mNotV, mNeg, mCons, mNil, mTup, mLst, newL, mCall, mFn, arity, g1, g2, gLen, gInt, gAbs, gMax2, gMin2, gIx, seqOf, lsqOf, lstOf, Res.bind, ofO, gAdd_ok, gSub_ok, gEq_int, gNe_int, gLt_int, gLe_int, gGt_int, gGe_int, gEq_bl, gNe_bl, gEq_str, gNe_str, mIsi, mIsiT, tyD, kitL, kitTab, atI_c0, atI_c1, atI_c2, atI_c3, atI_c4, sForR1, int1, int2, mMeth, mMake, mFld, sFldM, gIs, gIsNot, isNon_t, sRaise, gList, newLO, e, sb, lk, fl]
theorem du_is : b_law_due = sSeq (sAsg (mLst true (mCons (mC (.str "")) mNil)) (bName 1)) (sSeq (sForS (mVar 0) (bName 2) duB) (sSeq (sIf (mTest (mOp gEq (mVar 0) (mC (.str "")))) (sRet (mLst false mNil)) sNext) (sRet (mIf (mTest (mOp gEq (mOp gIx (mVar 1) (mNeg (mC (.int 1)))) (mC (.str "")))) (mSl false (mVar 1) oNone (oSome (mNeg (mC (.int 1))))) (mLst false (mCons (mCall (DK.g1 gLen) (mCons (mVar 1) mNil)) (mCons (mC (.bl true)) mNil))))))) := rfl
def dueD (x : Str) (A : List Str) (l : Str) : List D := if x = "" then [] else if l = "" then A.map .str else [.int ((A.length + 1 : Nat) : Int), .bl true]
theorem due_ok (hx : x.length ≤ 900) (e : Txt.split x (one 10) = A ++ [l]) : ∃ O', f_law_due [.str x] O = .ok (.lst (dueD x A l)) O' ∧ Fz O O' := by
  obtain ⟨n, hn⟩ : ∃ n, O.length = n := ⟨_, rfl⟩
  have sl := split_len (c := 10) (x := x)
  rw [e, List.length_append, List.length_singleton] at sl
  obtain ⟨y', O', e2, g, hl, hk⟩ := du_loop hx (rows_start (c := 10) hn)
  rw [e, List.map_append] at g
  have g : O'[n]? = some (.lst (A.map .str ++ [.str l])) := g
  refine ⟨O', ?_, ⟨by rw [hl, List.length_append]; omega, fun j hj => by rw [hk j (by omega)]; exact List.getElem?_append_left hj⟩⟩
  show runF 3 b_law_due [.str x] O = _
  unfold runF
  rw [show ([D.str x].map some ++ List.replicate (3 - [D.str x].length) none : Loc) = [some (.str x), none, none] from rfl, du_is]
  have ix := ix_snoc g
  have hz : (A.map D.str ++ [D.str l]).length = A.length + 1 := by simp
  have s := slice_last (O := O') (h := false) (ys := A.map .str) (z := .str l) (by rw [List.length_map]; omega)
  have nl : newL false (A.map D.str) O' = .ok (.lst (A.map .str)) O' := by
    unfold newL
    rw [if_pos (by rw [List.length_map]; omega)]
    rfl
  rw [nl] at s
  have s2 : gSl false (.hdl n) none (some (-1)) O' = .ok (.lst (A.map .str)) O' := by
    rw [← s]
    show (match lsqOf O' (.hdl n) with | some ds => newL false (cutD ds none (some (-1))) O' | none => .bad) = newL false (cutD (A.map D.str ++ [.str l]) none (some (-1))) O'
    rw [show lsqOf O' (.hdl n) = some (A.map D.str ++ [.str l]) by simp [lsqOf, lstOf, g]]
  unfold dueD
  have hza : (A.map D.str).length = A.length := List.length_map _
  generalize A.map D.str ++ [D.str l] = zs at *
  generalize A.map D.str = za at *
  generalize sForS (mVar 0) (bName 2) duB = sf at *
  by_cases h0 : x = ""
  · subst h0
    simp [runF, sSeq, sIf, sNext, sDrop, sRet, sRetN, sAsg, ofRes, ofB, bName, bNil, bCons, bTup, bLst, bSubL, mTest, mOp, mVar, mC, mChain, mAnd, mOr, mNot, mIf, mAndV, mOrV, mNotV, mNeg, mCons, mNil, mTup, mLst, newL, mCall, mFn, arity, g1, g2, gLen, gInt, gAbs, gMax2, gMin2, gIx, seqOf, lsqOf, lstOf, Res.bind, ofO, gAdd_ok, gSub_ok, gEq_int, gNe_int, gLt_int, gLe_int, gGt_int, gGe_int, gEq_bl, gNe_bl, gEq_str, gNe_str, mIsi, mIsiT, tyD, kitL, kitTab, atI_c0, atI_c1, atI_c2, atI_c3, atI_c4, sForR1, int1, int2, mMeth, mMake, mFld, sFldM, gIs, gIsNot, isNon_t, sRaise, gList, newLO, hn, e2]
  · by_cases hl0 : l = ""
    · subst hl0
      simp [mSl, oNone, oSome, mIf, runF, sSeq, sIf, sNext, sDrop, sRet, sRetN, sAsg, ofRes, ofB, bName, bNil, bCons, bTup, bLst, bSubL, mTest, mOp, mVar, mC, mChain, mAnd, mOr, mNot, mIf, mAndV, mOrV, mNotV, mNeg, mCons, mNil, mTup, mLst, newL, mCall, mFn, arity, g1, g2, gLen, gInt, gAbs, gMax2, gMin2, seqOf, lsqOf, lstOf, Res.bind, ofO, gAdd_ok, gSub_ok, gEq_int, gNe_int, gLt_int, gLe_int, gGt_int, gGe_int, gEq_bl, gNe_bl, gEq_str, gNe_str, mIsi, mIsiT, tyD, kitL, kitTab, atI_c0, atI_c1, atI_c2, atI_c3, atI_c4, sForR1, int1, int2, mMeth, mMake, mFld, sFldM, gIs, gIsNot, isNon_t, sRaise, gList, newLO, hn, e2, h0, ix, s2]
    · simp [mSl, oNone, oSome, mIf, runF, sSeq, sIf, sNext, sDrop, sRet, sRetN, sAsg, ofRes, ofB, bName, bNil, bCons, bTup, bLst, bSubL, mTest, mOp, mVar, mC, mChain, mAnd, mOr, mNot, mIf, mAndV, mOrV, mNotV, mNeg, mCons, mNil, mTup, mLst, newL, mCall, mFn, arity, g1, g2, gLen, gInt, gAbs, gMax2, gMin2, seqOf, lsqOf, lstOf, Res.bind, ofO, gAdd_ok, gSub_ok, gEq_int, gNe_int, gLt_int, gLe_int, gGt_int, gGe_int, gEq_bl, gNe_bl, gEq_str, gNe_str, mIsi, mIsiT, tyD, kitL, kitTab, atI_c0, atI_c1, atI_c2, atI_c3, atI_c4, sForR1, int1, int2, mMeth, mMake, mFld, sFldM, gIs, gIsNot, isNon_t, sRaise, gList, newLO, hn, e2, h0, ix, hl0, g, hz, hza]
end
end DK.k11
end
section
set_option Elab.async false
set_option linter.all false
set_option autoImplicit false
set_option maxRecDepth 100000
set_option maxHeartbeats 4000000
/-! K11F: the drawn text, in plain Lean. -/
namespace DK.k11
open PySem L2 DK
theorem y_take : f_law_take = fTake := rfl
abbrev txB : SM := (sAsg (mOp (gAdd false) (mVar 1) (mOp gIx (mC (.str "ab \n	~")) (mOp gIx (mLst false (mCons (mC (.int 0)) (mCons (mC (.int 1)) (mCons (mC (.int 2)) (mCons (mC (.int 2)) (mCons (mC (.int 3)) (mCons (mC (.int 3)) (mCons (mC (.int 3)) (mCons (mC (.int 4)) (mCons (mC (.int 5)) mNil)))))))))) (mFn (arity 2 f_law_take) [] (mCons (mVar 0) (mCons (mC (.int 9)) mNil)))))) (bName 1))
section
variable {O : Store} {b : Nat}
structure TextOK (x : Str) (i : Nat) : Prop where
  ln : x.length ≤ i
  ok : PyData.strOk x = true
theorem nine {v : Int} (h0 : 0 ≤ v) (h1 : v < 9) : v = 0 ∨ v = 1 ∨ v = 2 ∨ v = 3 ∨ v = 4 ∨ v = 5 ∨ v = 6 ∨ v = 7 ∨ v = 8 := by omega
theorem sign_ok {v : Int} (h0 : 0 ≤ v) (h1 : v < 9) : ∃ k c, (∀ O : Store, gIx O (.lst [.int 0, .int 1, .int 2, .int 2, .int 3, .int 3, .int 3, .int 4, .int 5]) (.int v) = some (.int k, O)) ∧ (∀ O : Store, gIx O (.str "ab \n	~") (.int k) = some (.str (one c), O)) ∧ c < 128 := by
  rcases nine h0 h1 with rfl | rfl | rfl | rfl | rfl | rfl | rfl | rfl | rfl
  · exact ⟨0, 97, fun _ => rfl, fun _ => rfl, by decide⟩
  · exact ⟨1, 98, fun _ => rfl, fun _ => rfl, by decide⟩
  · exact ⟨2, 32, fun _ => rfl, fun _ => rfl, by decide⟩
  · exact ⟨2, 32, fun _ => rfl, fun _ => rfl, by decide⟩
  · exact ⟨3, 10, fun _ => rfl, fun _ => rfl, by decide⟩
  · exact ⟨3, 10, fun _ => rfl, fun _ => rfl, by decide⟩
  · exact ⟨3, 10, fun _ => rfl, fun _ => rfl, by decide⟩
  · exact ⟨4, 9, fun _ => rfl, fun _ => rfl, by decide⟩
  · exact ⟨5, 126, fun _ => rfl, fun _ => rfl, by decide⟩
theorem app_sign {x : Str} {c i : Nat} (h : TextOK x i) (hc : c < 128) : TextOK (x ++ one c) (i + 1) := ⟨by rw [Str.length_append]; have := h.ln; show x.length + 1 ≤ _; omega, strOk_iff.mpr fun q hq => by
  rw [Str.cps_append, Array.toList_append] at hq
  rcases List.mem_append.mp hq with hq | hq
  · exact strOk_iff.mp h.ok q hq
  · have hq : q ∈ [c] := hq
    rw [List.mem_singleton.mp hq]
    omega⟩
theorem text_ok (t : Take b 0 O) (hb : b ≤ 2 ^ 20) : ∃ x O', f_law_text [.hdl 0] O = .ok (.str x) O' ∧ TextOK x 12 ∧ Take (b + 13) 0 O' ∧ Fr O O' := by
  obtain ⟨v, O1, e1, v0, v1, t1, f1, l1⟩ := tk1 (m := 13) t (by omega) (by omega) (by omega)
  rw [← y_take] at e1
  obtain ⟨L', O2, e2, x, y2, rfl, hx, t2, f2⟩ := forR1_keeps (t := mCons (mFn (arity 2 f_law_take) [] (mCons (mVar 0) (mCons (mC (.int 13)) mNil))) mNil) (b := bName 2) (body := txB) (L := [some (.hdl 0), some (.str ""), none]) (O := O) (O1 := O1) (j := v)
    (I := fun i L O' => ∃ (x : Str) (y2 : Option D), L = [some (.hdl 0), some (.str x), y2] ∧ TextOK x i ∧ Take (b + 1 + i) 0 O' ∧ Fr O O')
    (by simp [runF, sSeq, sIf, sNext, sDrop, sRet, sRetN, sAsg, ofRes, ofB, bName, bNil, bCons, bTup, bLst, bSubL, mTest, mOp, mVar, mC, mChain, mAnd, mOr, mNot, mIf, mAndV, mOrV, mNotV, mNeg, mCons, mNil, mTup, mLst, newL, mCall, mFn, arity, g1, g2, gLen, gInt, gAbs, gMax2, gMin2, gIx, seqOf, lsqOf, lstOf, Res.bind, ofO, gAdd_ok, gSub_ok, gEq_int, gNe_int, gLt_int, gLe_int, gGt_int, gGe_int, gEq_bl, gNe_bl, gEq_str, gNe_str, mIsi, mIsiT, tyD, kitL, kitTab, atI_c0, atI_c1, atI_c2, atI_c3, atI_c4, sForR1, int1, int2, mMeth, mMake, mFld, sFldM, gIs, gIsNot, isNon_t, sRaise, gList, newLO, e1]) v0 (by omega) ⟨"", none, rfl, ⟨Nat.le_refl _, by decide +kernel⟩, t1, f1⟩ fun i L O' hi ⟨x, y2, hL, hx, t, f⟩ => by
      subst hL
      obtain ⟨u, O'', e, u0, u1, t', f', _⟩ := tk1 (m := 9) t (by omega) (by omega) (by omega)
      rw [← y_take] at e
      obtain ⟨k, c, i1, i2, hc⟩ := sign_ok u0 u1
      have hln := hx.ln
      have ad : gAdd false O'' (.str x) (.str (one c)) = some (.str (x ++ one c), O'') := by
        show (if x.length + (one c).length ≤ 1000000 then _ else none) = _
        rw [if_pos (by show x.length + 1 ≤ _; omega)]
      refine ⟨[some (.hdl 0), some (.str (x ++ one c)), some (.int i)], O'', ?_, x ++ one c, some (.int i), rfl, app_sign hx hc, t', f.trans f'⟩
      have j1 := i1 O''
      have j2 := i2 O''
      show txB [some (.hdl 0), some (.str x), some (.int i)] O' = _
      simp [txB, runF, sSeq, sIf, sNext, sDrop, sRet, sRetN, sAsg, ofRes, ofB, bName, bNil, bCons, bTup, bLst, bSubL, mTest, mOp, mVar, mC, mChain, mAnd, mOr, mNot, mIf, mAndV, mOrV, mNotV, mNeg, mCons, mNil, mTup, mLst, newL, mCall, mFn, arity, g1, g2, gLen, gInt, gAbs, gMax2, gMin2, seqOf, lsqOf, lstOf, Res.bind, ofO, gAdd_ok, gSub_ok, gEq_int, gNe_int, gLt_int, gLe_int, gGt_int, gGe_int, gEq_bl, gNe_bl, gEq_str, gNe_str, mIsi, mIsiT, tyD, kitL, kitTab, atI_c0, atI_c1, atI_c2, atI_c3, atI_c4, sForR1, int1, int2, mMeth, mMake, mFld, sFldM, gIs, gIsNot, isNon_t, sRaise, gList, newLO, e, j1, j2, ad]
  refine ⟨x, O2, ?_, ⟨Nat.le_trans hx.ln (by omega), hx.ok⟩, tmono (by omega) t2, f2⟩
  have e3 : sForR1 (mCons (mFn (arity 2 f_law_take) [] (mCons (mVar 0) (mCons (mC (.int 13)) mNil))) mNil) (bName 2) txB [some (.hdl 0), some (.str ""), none] O = .next [some (.hdl 0), some (.str x), y2] O2 := e2
  simp only [f_law_text, b_law_text]
  generalize sForR1 (mCons (mFn (arity 2 f_law_take) [] (mCons (mVar 0) (mCons (mC (.int 13)) mNil))) mNil) (bName 2) txB = sf at *
  simp [runF, sSeq, sIf, sNext, sDrop, sRet, sRetN, sAsg, ofRes, ofB, bName, bNil, bCons, bTup, bLst, bSubL, mTest, mOp, mVar, mC, mChain, mAnd, mOr, mNot, mIf, mAndV, mOrV, mNotV, mNeg, mCons, mNil, mTup, mLst, newL, mCall, mFn, arity, g1, g2, gLen, gInt, gAbs, gMax2, gMin2, gIx, seqOf, lsqOf, lstOf, Res.bind, ofO, gAdd_ok, gSub_ok, gEq_int, gNe_int, gLt_int, gLe_int, gGt_int, gGe_int, gEq_bl, gNe_bl, gEq_str, gNe_str, mIsi, mIsiT, tyD, kitL, kitTab, atI_c0, atI_c1, atI_c2, atI_c3, atI_c4, sForR1, int1, int2, mMeth, mMake, mFld, sFldM, gIs, gIsNot, isNon_t, sRaise, gList, newLO, e3]
end
end DK.k11
end
section
set_option Elab.async false
set_option linter.all false
set_option autoImplicit false
set_option maxRecDepth 100000
set_option maxHeartbeats 4000000
/-! K11G: a text that ends with a sign, in plain Lean. -/
namespace DK.k11
open PySem L2 DK
theorem ends_last {x : Str} {c : Nat} (h : Txt.endswith x (one c) = true) : ∃ ys, x.cps.toList = ys ++ [c] := by
  obtain ⟨h1, h2⟩ := Bool.and_eq_true_iff.mp h
  have h1 := of_decide_eq_true h1
  have h1 : 0 + 1 ≤ x.length := h1
  have h2 : (x.cps.extract (x.length - 1) (x.length - 1 + 1) == #[c]) = true := h2
  have h2 := eq_of_beq h2
  have h3 : (x.cps.extract (x.length - 1) (x.length - 1 + 1)).toList = [c] := by rw [h2]
  rw [Array.toList_extract] at h3
  have hx : x.cps.toList.length = x.length := by simp [Str.length]
  have h3 : List.take (x.length - 1 + 1 - (x.length - 1)) (x.cps.toList.drop (x.length - 1)) = [c] := h3
  rw [show x.length - 1 + 1 - (x.length - 1) = 1 by omega, List.take_of_length_le (by rw [List.length_drop]; omega)] at h3
  exact ⟨x.cps.toList.take (x.length - 1), by rw [← h3, List.take_append_drop]⟩
theorem jn_end {c : Nat} {l : Str} (hl : l ≠ Str.empty) : ∀ {A : List Str}, ∃ ys q, jn c (A ++ [l]) = ys ++ [q] ∧ q ∈ l.cps.toList
  | [] => by
    rcases List.eq_nil_or_concat l.cps.toList with e | ⟨ys, q, e⟩
    · exact absurd (str_ext (b := Str.empty) (by rw [e]; rfl)) hl
    · rw [List.concat_eq_append] at e
      exact ⟨ys, q, e, by rw [e]; simp⟩
  | [x] => by
    obtain ⟨ys, q, e, h⟩ := jn_end (c := c) hl (A := [])
    refine ⟨x.cps.toList ++ c :: ys, q, ?_, h⟩
    show jn c (x :: l :: []) = _
    rw [jn_cons, show jn c [l] = ys ++ [q] from e]
    simp
  | x :: y :: A => by
    obtain ⟨ys, q, e, h⟩ := jn_end (c := c) hl (A := y :: A)
    refine ⟨x.cps.toList ++ c :: ys, q, ?_, h⟩
    show jn c (x :: y :: (A ++ [l])) = _
    rw [jn_cons, show jn c (y :: (A ++ [l])) = ys ++ [q] from e]
    simp
/-- a text that ends with the sign has an empty last row -/
theorem ends_empty {x l : Str} {A : List Str} {c : Nat} (e : Txt.split x (one c) = A ++ [l]) (h : Txt.endswith x (one c) = true) : l = Str.empty := by
  refine Classical.byContradiction fun hl => ?_
  have j : Str.join (one c) (Txt.split x (one c)) = x := StrLaws.join_split x (one c)
  have hf := StrLaws.split_free x c
  rw [e] at j
  obtain ⟨ys, hy⟩ := ends_last h
  obtain ⟨zs, q, hz, hq⟩ := jn_end (c := c) hl (A := A)
  unfold jn at hz
  rw [j, hy] at hz
  obtain ⟨_, h2⟩ := List.append_inj' hz rfl
  obtain rfl : c = q := (List.cons.inj h2).1
  exact hf l (by rw [show (⟨#[c]⟩ : Str) = one c from rfl, e]; simp) hq
end DK.k11
end
section
set_option Elab.async false
set_option linter.all false
set_option autoImplicit false
set_option maxRecDepth 100000
set_option maxHeartbeats 4000000
/-! K11H: the rows, each with the sign behind it, are the text, in plain Lean. -/
namespace DK.k11
open PySem L2 DK
theorem jn_flat {c : Nat} : ∀ {A : List Str}, jn c (A ++ [Str.empty]) = A.flatMap fun p => p.cps.toList ++ [c]
  | [] => rfl
  | [x] => by
    show jn c (x :: Str.empty :: []) = _
    rw [jn_cons]
    simp
    rfl
  | x :: y :: A => by
    show jn c (x :: y :: (A ++ [Str.empty])) = _
    rw [jn_cons, show jn c (y :: (A ++ [Str.empty])) = jn c ((y :: A) ++ [Str.empty]) from rfl, jn_flat (A := y :: A), List.flatMap_cons]
    simp
theorem join_flat : ∀ {ps : List Str}, (Str.join Str.empty ps).cps.toList = ps.flatMap fun p => p.cps.toList
  | [] => rfl
  | [x] => by
    show x.cps.toList = _
    simp
  | x :: y :: r => by
    show ((x ++ Str.empty ++ Str.join Str.empty (y :: r)).cps).toList = _
    rw [Str.cps_append, Str.cps_append, Array.toList_append, Array.toList_append, join_flat (ps := y :: r), List.flatMap_cons]
    simp [Str.empty]
theorem join_back {x : Str} {A : List Str} {c : Nat} (e : Txt.split x (one c) = A ++ [Str.empty]) : Txt.join Str.empty (A.map fun p => p ++ one c) = x := by
  have j : Str.join (one c) (Txt.split x (one c)) = x := StrLaws.join_split x (one c)
  rw [e] at j
  refine str_ext ?_
  show (Builtin.Str.glued Str.empty (A.map fun p => p ++ one c)).cps.toList = _
  rw [StrLaws.glued_eq_join, join_flat, List.flatMap_map]
  have := jn_flat (c := c) (A := A)
  unfold jn at this
  rw [j] at this
  rw [this]
  congr 1
  funext p
  rw [Str.cps_append, Array.toList_append]
end DK.k11
end
section
set_option Elab.async false
set_option linter.all false
set_option autoImplicit false
set_option maxRecDepth 100000
set_option maxHeartbeats 4000000
/-! K11I: a text with its signs replaced, in plain Lean. -/
namespace DK.k11
open PySem L2 DK
theorem repl_len {c d : Nat} : ∀ ps : List Str, (Str.join (one d) ps).cps.toList.length = (Str.join (one c) ps).cps.toList.length
  | [] => rfl
  | [x] => rfl
  | x :: y :: r => by
    show ((x ++ one d ++ Str.join (one d) (y :: r)).cps).toList.length = ((x ++ one c ++ Str.join (one c) (y :: r)).cps).toList.length
    rw [Str.cps_append, Str.cps_append, Str.cps_append, Str.cps_append, Array.toList_append, Array.toList_append, Array.toList_append, Array.toList_append]
    have := repl_len (c := c) (d := d) (y :: r)
    simp only [List.length_append]
    rw [this]
    rfl
theorem repl_ok {x : Str} {c d i : Nat} (h : TextOK x i) (hd : d < 128) : TextOK (Txt.replace x (one c) (one d)) i := by
  have e : Txt.replace x (one c) (one d) = Str.join (one d) (Txt.split x (one c)) := StrLaws.replace_one x (one d) c
  have j : Str.join (one c) (Txt.split x (one c)) = x := StrLaws.join_split x (one c)
  rw [e]
  refine ⟨?_, strOk_iff.mpr ?_⟩
  · have := repl_len (c := c) (d := d) (Txt.split x (one c))
    rw [j] at this
    have q : (Str.join (one d) (Txt.split x (one c))).length = x.length := by simpa [Str.length] using this
    rw [q]
    exact h.ln
  · have key : ∀ ps : List Str, (∀ p ∈ ps, PyData.strOk p = true) → ∀ q ∈ jn d ps, q < 0x110000 := fun ps => by
      induction ps with
      | nil => intro _ q hq; cases hq
      | cons a ps ih =>
        cases ps with
        | nil => intro hp q hq; exact strOk_iff.mp (hp a List.mem_cons_self) q hq
        | cons b r =>
          intro hp q hq
          rw [jn_cons] at hq
          rcases List.mem_append.mp hq with hq | hq
          · exact strOk_iff.mp (hp a List.mem_cons_self) q hq
          · rcases List.mem_cons.mp hq with rfl | hq
            · omega
            · exact ih (fun p hp' => hp p (List.mem_cons_of_mem _ hp')) q hq
    exact key _ (split_ok h.ok)
end DK.k11
end
section
set_option Elab.async false
set_option linter.all false
set_option autoImplicit false
set_option maxRecDepth 100000
set_option maxHeartbeats 4000000
/-! DKLcK: comprehensions over a list of the store whose tests or elements make objects, in plain Lean. -/
namespace DK.Lc
open PySem L2 DK
theorem strsOf_m : ∀ ys : List Str, strsOf (ys.map D.str) = some ys
  | [] => rfl
  | y :: ys => by
    show (strsOf (ys.map D.str)).map (y :: ·) = _
    rw [strsOf_m ys]
    rfl
theorem seq_next {a b : SM} {L L1 : Loc} {O O1 : Store} (h : a L O = .next L1 O1) : sSeq a b L O = b L1 O1 := by
  unfold sSeq
  rw [h]
theorem lsq_h {O : Store} {n : Nat} {xs : List D} (e : O[n]? = some (.lst xs)) : lsqOf O (.hdl n) = some xs := by
  simp [lsqOf, lstOf, e]
theorem lc_keepsN {I : Nat → Store → List D → Prop} {nx : Nat → Store → Option (Option D)} {turn : D → Store → List D → Option (Store × List D)} {ds : List D} (hn : ∀ i O acc, I i O acc → nx i O = some ds[i]?) : ∀ (k i : Nat) (O : Store) (acc : List D), ds.length = i + k → I i O acc →
    (∀ j d O acc, ds[j]? = some d → I j O acc → ∃ O' acc', turn d O acc = some (O', acc') ∧ I (j + 1) O' acc') → ∃ O' acc', lcG nx turn k i O acc = some (O', acc') ∧ I ds.length O' acc'
  | 0, i, O, acc, h, hI, _ => by
    have e : ds[i]? = none := List.getElem?_eq_none (by omega)
    refine ⟨O, acc, ?_, by rw [show ds.length = i by omega]; exact hI⟩
    unfold lcG
    rw [hn i O acc hI, e]
  | k + 1, i, O, acc, h, hI, st => by
    obtain ⟨d, hd⟩ : ∃ d, ds[i]? = some d := ⟨ds[i]'(by omega), List.getElem?_eq_getElem _⟩
    obtain ⟨O1, acc1, e1, h1⟩ := st i d O acc hd hI
    obtain ⟨O2, acc2, e2, h2⟩ := lc_keepsN hn k (i + 1) O1 acc1 (by omega) h1 st
    refine ⟨O2, acc2, ?_, h2⟩
    unfold lcG
    rw [hn i O acc hI, hd]
    show (match turn d O acc with | some p => lcG nx turn k (i + 1) p.1 p.2 | none => none) = _
    rw [e1]
    exact e2
/-- elements that may change the store, but not the list gone through; no tests -/
theorem lcH_keeps {I : Nat → Store → List D → Prop} {src : EM} {vs : List Nat} {b : BM} {el : EM} {L : Loc} {O O1 : Store} {n : Nat} {ds : List D} (hs : src L O = .ok (.hdl n) O1) (he : O1[n]? = some (.lst ds)) (ho : ∀ i O acc, I i O acc → O[n]? = some (.lst ds)) (hI : I 0 O1 []) (hl : ds.length ≤ 800000)
    (st : ∀ (i : Nat) d O acc, ds[i]? = some d → acc.length ≤ i → I i O acc → ∃ L' O' y, b d (wipeL L vs) O = some (L', O) ∧ el L' O = .ok y O' ∧ I (i + 1) O' (acc ++ [y])) :
    ∃ O' ys, mLcL false src vs b mYes el L O = .ok (.lst ys) O' ∧ I ds.length O' ys ∧ ys.length ≤ ds.length := by
  obtain ⟨O2, ys, e, h, hy⟩ := lc_keepsN (I := fun i O acc => I i O acc ∧ acc.length ≤ i) (nx := fun i O => (lsqOf O (.hdl n)).map (·[i]?)) (turn := lcTurn vs b mYes el L) (ds := ds) (fun i O acc hI => by rw [lsq_h (ho i O acc hI.1)]; rfl) ds.length 0 O1 [] (by omega) ⟨hI, Nat.le_refl _⟩ fun i d O acc hd ⟨hI, ha⟩ => by
    have hi := (List.getElem?_eq_some_iff.mp hd).1
    obtain ⟨L', O', y, e1, e2, h2⟩ := st i d O acc hd ha hI
    refine ⟨O', acc ++ [y], ?_, h2, by rw [List.length_append, List.length_singleton]; omega⟩
    show (match b d (wipeL L vs) O with
      | some p => (match mYes p.1 p.2 with
        | .ok true O2 => (match el p.1 O2 with
          | .ok y O3 => if acc.length ≤ 900000 then some (O3, acc ++ [y]) else none
          | _ => none)
        | .ok false O2 => some (O2, acc)
        | _ => none)
      | none => none) = _
    rw [e1]
    show (match el L' O with
          | .ok y O3 => if acc.length ≤ 900000 then some (O3, acc ++ [y]) else none
          | _ => none) = _
    simp only [e2, if_pos (show acc.length ≤ 900000 by omega)]
  refine ⟨O2, ys, ?_, h, hy⟩
  show ((src L O).bind fun d O1 => match lsqOf O1 d with
    | some xs => lcEnd false (lcG (fun i O => (lsqOf O d).map (·[i]?)) (lcTurn vs b mYes el L) xs.length 0 O1 [])
    | none => .bad) = _
  rw [hs]
  show (match lsqOf O1 (.hdl n) with
    | some xs => lcEnd false (lcG (fun i O => (lsqOf O (.hdl n)).map (·[i]?)) (lcTurn vs b mYes el L) xs.length 0 O1 [])
    | none => .bad) = _
  rw [lsq_h he]
  simp only
  rw [e]
  show newL false ys O2 = _
  have : ys.length ≤ 1000000 := by omega
  simp [newL, this]
end DK.Lc
end
section
set_option Elab.async false
set_option linter.all false
set_option autoImplicit false
set_option maxRecDepth 100000
set_option maxHeartbeats 4000000
/-! K11J: what the law asks of a text that ends with a newline, in plain Lean. -/
namespace DK.k11
open PySem L2 DK DK.Lc
abbrev lcJ : EM := (mLcL false (mVar 4) [5] (bName 5) mYes (mOp (gAdd false) (mVar 5) (mC (.str "\n"))))
abbrev lcW : EM := (mLcL false (mVar 4) [5] (bName 5) (mNot (mTest (mFn (arity 1 f_law_words_right) [] (mCons (mVar 5) mNil)))) (mVar 5))
section
variable {O : Store} {n c : Nat} {x l : Str} {A : List Str} {s t k z w : Option D}
theorem part_len {p : Str} : ∀ {ps : List Str}, p ∈ ps → p.cps.toList.length ≤ (jn c ps).length
  | [], h => by cases h
  | [y], h => by rw [jn_one, ← List.mem_singleton.mp h]; exact Nat.le_refl _
  | a :: b :: r, h => by
    rw [jn_cons, List.length_append, List.length_cons]
    rcases List.mem_cons.mp h with rfl | h
    · omega
    · have := part_len (ps := b :: r) h
      omega
theorem split_part {p : Str} (h : p ∈ Txt.split x (one c)) : p.length ≤ x.length := by
  have j : Str.join (one c) (Txt.split x (one c)) = x := StrLaws.join_split x (one c)
  have := part_len (c := c) h
  unfold jn at this
  rw [j] at this
  simpa [Str.length] using this
theorem sum_le {m : Nat} : ∀ {ys : List Str}, (∀ p ∈ ys, p.length ≤ m) → (ys.map (·.length)).sum ≤ ys.length * m
  | [], _ => by simp
  | y :: ys, h => by
    have h1 := h y List.mem_cons_self
    have h2 := sum_le (ys := ys) fun p hp => h p (List.mem_cons_of_mem _ hp)
    rw [List.map_cons, List.sum_cons, List.length_cons, Nat.succ_mul]
    omega
theorem lcJ_ok (e : O[n]? = some (.lst (A.map .str))) (hA : A.length ≤ 100) (hp : ∀ p ∈ A, p.length ≤ 100) : lcJ [s, t, k, z, some (.hdl n), w] O = .ok (.lst ((A.map fun p => p ++ one 10).map .str)) O := by
  obtain ⟨O', ys, e1, ⟨rfl, h2⟩, _⟩ := lcH_keeps (src := mVar 4) (vs := [5]) (b := bName 5) (el := mOp (gAdd false) (mVar 5) (mC (.str "\n"))) (L := [s, t, k, z, some (.hdl n), w]) (O := O) (O1 := O) (n := n) (ds := A.map .str)
    (I := fun i O' acc => O' = O ∧ acc = ((A.take i).map fun p => p ++ one 10).map .str) rfl e (fun i O' acc h => by rw [h.1]; exact e) ⟨rfl, rfl⟩ (by rw [List.length_map]; omega) fun i d O' acc hd ha ⟨hO, hacc⟩ => by
      subst hO
      rw [List.getElem?_map] at hd
      obtain ⟨p, hp', rfl⟩ := Option.map_eq_some_iff.mp hd
      have hl := hp p (List.mem_of_getElem? hp')
      have ad : gAdd false O' (.str p) (.str "\n") = some (.str (p ++ one 10), O') := by
        show (if p.length + (one 10).length ≤ 1000000 then _ else none) = _
        rw [if_pos (by show p.length + 1 ≤ _; omega)]
        rfl
      refine ⟨[s, t, k, z, some (.hdl n), some (.str p)], O', .str (p ++ one 10), rfl, ?_, rfl, ?_⟩
      · simp [runF, sSeq, sIf, sNext, sDrop, sRet, sRetN, sAsg, ofRes, ofB, bName, bNil, bCons, bTup, bLst, bSubL, mTest, mOp, mVar, mC, mChain, mAnd, mOr, mNot, mIf, mAndV, mOrV, mNotV, mNeg, mCons, mNil, mTup, mLst, newL, mCall, mFn, arity, g1, g2, gLen, gInt, gAbs, gMax2, gMin2, seqOf, lsqOf, lstOf, Res.bind, ofO, gAdd_ok, gSub_ok, gEq_int, gNe_int, gLt_int, gLe_int, gGt_int, gGe_int, gEq_bl, gNe_bl, gEq_str, gNe_str, mIsi, mIsiT, tyD, kitL, kitTab, atI_c0, atI_c1, atI_c2, atI_c3, atI_c4, sForR1, int1, int2, mMeth, mMake, mFld, sFldM, gIs, gIsNot, isNon_t, sRaise, gList, newLO, ad]
      · rw [hacc, List.take_succ, hp']
        simp
  rw [List.length_map, List.take_length] at h2
  rw [← h2]
  exact e1
theorem lcW_ok (e : O[n]? = some (.lst (A.map .str))) (hA : A.length ≤ 100) (hp : ∀ p ∈ A, p.length ≤ 900 ∧ PyData.strOk p = true) : ∃ O', lcW [s, t, k, z, some (.hdl n), w] O = .ok (.lst []) O' ∧ Fz O O' := by
  obtain ⟨O2, ys, e1, ⟨f, rfl⟩⟩ := lc_keepsN (I := fun i O' acc => Fz O O' ∧ acc = []) (nx := fun i O' => (lsqOf O' (.hdl n)).map (·[i]?)) (turn := lcTurn [5] (bName 5) (mNot (mTest (mFn (arity 1 f_law_words_right) [] (mCons (mVar 5) mNil)))) (mVar 5) [s, t, k, z, some (.hdl n), w]) (ds := A.map .str)
    (fun i O' acc hI => by rw [lsq_h (hI.1.at e)]; rfl) (A.map D.str).length 0 O [] (by omega) ⟨Fz.refl O, rfl⟩ fun i d O' acc hd ⟨f, ha⟩ => by
      subst ha
      rw [List.getElem?_map] at hd
      obtain ⟨p, hp', rfl⟩ := Option.map_eq_some_iff.mp hd
      obtain ⟨h1, h2⟩ := hp p (List.mem_of_getElem? hp')
      obtain ⟨O'', e2, f2⟩ := wr_ok (O := O') h1 h2
      refine ⟨O'', [], ?_, f.trans f2, rfl⟩
      have et : mNot (mTest (mFn (arity 1 f_law_words_right) [] (mCons (mVar 5) mNil))) [s, t, k, z, some (.hdl n), some (.str p)] O' = .ok false O'' := by
        simp [runF, sSeq, sIf, sNext, sDrop, sRet, sRetN, sAsg, ofRes, ofB, bName, bNil, bCons, bTup, bLst, bSubL, mTest, mOp, mVar, mC, mChain, mAnd, mOr, mNot, mIf, mAndV, mOrV, mNotV, mNeg, mCons, mNil, mTup, mLst, newL, mCall, mFn, arity, g1, g2, gLen, gInt, gAbs, gMax2, gMin2, gIx, seqOf, lsqOf, lstOf, Res.bind, ofO, gAdd_ok, gSub_ok, gEq_int, gNe_int, gLt_int, gLe_int, gGt_int, gGe_int, gEq_bl, gNe_bl, gEq_str, gNe_str, mIsi, mIsiT, tyD, kitL, kitTab, atI_c0, atI_c1, atI_c2, atI_c3, atI_c4, sForR1, int1, int2, mMeth, mMake, mFld, sFldM, gIs, gIsNot, isNon_t, sRaise, gList, newLO, e2]
      show (match mNot (mTest (mFn (arity 1 f_law_words_right) [] (mCons (mVar 5) mNil))) [s, t, k, z, some (.hdl n), some (.str p)] O' with
        | .ok true O2 => _
        | .ok false O2 => some (O2, [])
        | _ => none) = _
      rw [et]
  refine ⟨O2, ?_, f⟩
  show ((Res.ok (D.hdl n) O).bind fun d O1 => match lsqOf O1 d with
    | some xs => lcEnd false (lcG (fun i O => (lsqOf O d).map (·[i]?)) (lcTurn [5] (bName 5) (mNot (mTest (mFn (arity 1 f_law_words_right) [] (mCons (mVar 5) mNil)))) (mVar 5) [s, t, k, z, some (.hdl n), w]) xs.length 0 O1 [])
    | none => .bad) = _
  show (match lsqOf O (.hdl n) with
    | some xs => lcEnd false (lcG (fun i O => (lsqOf O (.hdl n)).map (·[i]?)) (lcTurn [5] (bName 5) (mNot (mTest (mFn (arity 1 f_law_words_right) [] (mCons (mVar 5) mNil)))) (mVar 5) [s, t, k, z, some (.hdl n), w]) xs.length 0 O [])
    | none => .bad) = _
  rw [lsq_h e]
  simp only
  rw [e1]
  rfl
theorem eqvAll_len : ∀ {xs ys : List PyData}, xs.length ≠ ys.length → PyData.eqvAll xs ys = false
  | [], [], h => absurd rfl h
  | [], y :: ys, _ => by simp [PyData.eqvAll]
  | x :: xs, [], _ => by simp [PyData.eqvAll]
  | x :: xs, y :: ys, h => by
    have := eqvAll_len (xs := xs) (ys := ys) (by simpa using h)
    simp [PyData.eqvAll, this]
theorem pdAll_len : ∀ {xs : List D}, (pdAll xs).length = xs.length
  | [] => rfl
  | x :: xs => by
    show (pdAll xs).length + 1 = xs.length + 1
    rw [pdAll_len]
theorem unlike_ok {m : Nat} (e : O[n]? = some (.lst (A.map .str ++ [.str "x"]))) (g : O[m]? = some (.lst (A.map .str))) (hp : ∀ p ∈ A, PyData.strOk p = true) : gEq O (.hdl m) (.hdl n) = some (.bl false, O) := by
  have ok1 : okV (.lst (A.map .str)) 29 = true := okV_strs hp
  have ok2 : okV (.lst (A.map .str ++ [.str "x"])) 29 = true := okV_lst fun d hd => by
    rcases List.mem_append.mp hd with hd | hd
    · obtain ⟨p, hp', rfl⟩ := List.mem_map.mp hd
      exact hp p hp'
    · rw [List.mem_singleton.mp hd]
      decide +kernel
  refine gEq_of ?_
  rw [eqD_hl g, eqD_hr e, eqD_pd ok1 ok2 (.inl rfl)]
  show some (PyData.eqvAll (pdAll (A.map D.str)) (pdAll (A.map D.str ++ [.str "x"]))) = _
  rw [eqvAll_len (by rw [pdAll_len, pdAll_len, List.length_append]; simp)]
end
end DK.k11
end
section
set_option Elab.async false
set_option linter.all false
set_option autoImplicit false
set_option maxRecDepth 100000
set_option maxHeartbeats 4000000
/-! K11K: a turn of the law, in plain Lean. -/
namespace DK.k11
open PySem L2 DK DK.Lc
abbrev tB0 : SM := (sAsg (mFn (arity 1 f_law_text) [] (mCons (mVar 1) mNil)) (bName 3))
abbrev tB1 : SM := (sAsg (mFn (arity 1 f_law_lines) [] (mCons (mVar 3) mNil)) (bName 4))
abbrev tB2 : SM := (sIf (mOr (mTest (mOp gNe (mVar 4) (mFn (arity 1 f_law_due) [] (mCons (mVar 3) mNil)))) (mNot (mTest (mIsi "list" (mVar 4))))) (sRet (mC (.bl false))) sNext)
abbrev tA0 : SM := (sIf (mOr (mTest (mOp gNe (mBS (gJoin) (mC (.str "")) (mCons (mLcL false (mVar 4) [5] (bName 5) mYes (mOp (gAdd false) (mVar 5) (mC (.str "\n")))) mNil)) (mVar 3))) (mTest (mOp gGt (mCall (g1 gLen) (mCons (mLcL false (mVar 4) [5] (bName 5) (mNot (mTest (mFn (arity 1 f_law_words_right) [] (mCons (mVar 5) mNil)))) (mVar 5)) mNil)) (mC (.int 0))))) (sRet (mC (.bl false))) sNext)
abbrev tA1 : SM := (sDrop (mApp (mVar 4) (mC (.str "x"))))
abbrev tA2 : SM := (sIf (mTest (mOp gEq (mFn (arity 1 f_lines_of) [] (mCons (mVar 3) mNil)) (mVar 4))) (sRet (mC (.bl false))) sNext)
abbrev tB3 : SM := sIf (mTest (mBS (gEnds) (mVar 3) (mCons (mC (.str "\n")) mNil))) (sSeq tA0 (sSeq tA1 tA2)) sNext
abbrev tB4 : SM := (sIf (mNot (mTest (mFn (arity 1 f_law_words_right) [] (mCons (mRepl "\n" " " (mVar 3)) mNil)))) (sRet (mC (.bl false))) sNext)
abbrev tB : SM := sSeq tB0 (sSeq tB1 (sSeq tB2 (sSeq tB3 tB4)))
section
variable {O : Store} {n b : Nat} {x l : Str} {A : List Str} {s t k y z w : Option D}
theorem split_ends {c : Nat} (x : Str) : ∃ A l, Txt.split x (one c) = A ++ [l] := by
  rcases List.eq_nil_or_concat (Txt.split x (one c)) with e | ⟨A, l, e⟩
  · exfalso
    unfold Txt.split at e
    split at e
    · cases e
    · split at e
      · cases e
      · rw [StrLaws.partsBetween_eq] at e
        obtain ⟨p, r, e2⟩ := StrLaws.partsFrom_ne x (one c).length 0 (Builtin.Str.occurrences x (one c) 0 x.length (x.length + 1))
        rw [e2] at e
        cases e
  · exact ⟨A, l, by rw [e, List.concat_eq_append]⟩
theorem found_ok (hx : TextOK x 12) (e : Txt.split x (one 10) = A ++ [l]) : f_law_lines [.str x] O = .ok (.hdl O.length) (O ++ [.lst (dueD x A l)]) := by
  have hl := hx.ln
  by_cases h0 : x = ""
  · subst h0
    simpa [dueD] using ll_nil (O := O)
  · by_cases h1 : l = ""
    · subst h1
      simpa [dueD, h0] using ll_yes (O := O) (by omega) h0 e
    · simpa [dueD, h0, h1] using ll_no (O := O) (by omega) h0 h1 e
theorem due_okV (hx : TextOK x 12) (e : Txt.split x (one 10) = A ++ [l]) : okV (.lst (dueD x A l)) 29 = true := by
  unfold dueD
  split
  · rfl
  · split
    · exact okV_strs fun p hp => split_ok hx.ok p (by rw [e]; exact List.mem_append_left _ hp)
    · rfl
theorem tA_ok (hx : TextOK x 12) (h0 : x ≠ "") (e : Txt.split x (one 10) = A ++ [("" : Str)]) (g : O[n]? = some (.lst (A.map .str))) : ∃ O1 : Store, ∃ O2, Fz O O1 ∧ sSeq tA0 (sSeq tA1 tA2) [s, t, k, some (.str x), some (.hdl n), w] O = .next [s, t, k, some (.str x), some (.hdl n), w] O2 ∧ O2 = O1.set n (.lst (A.map .str ++ [.str "x"])) ++ [.lst (A.map .str)] := by
  have hln := hx.ln
  have sl := split_len (c := 10) (x := x)
  rw [e, List.length_append] at sl
  have hA : A.length ≤ 100 := by omega
  have hin : ∀ p ∈ A, p ∈ Txt.split x (one 10) := fun p hp => by rw [e]; exact List.mem_append_left _ hp
  have hp1 : ∀ p ∈ A, p.length ≤ 100 := fun p hp => by have := split_part (hin p hp); omega
  have hp2 : ∀ p ∈ A, p.length ≤ 900 ∧ PyData.strOk p = true := fun p hp => ⟨by have := hp1 p hp; omega, split_ok hx.ok p (hin p hp)⟩
  have j1 := lcJ_ok (s := s) (t := t) (k := k) (z := some (.str x)) (w := w) g hA hp1
  obtain ⟨O1, j2, f1⟩ := lcW_ok (s := s) (t := t) (k := k) (z := some (.str x)) (w := w) g hA hp2
  have g1' := f1.at g
  have jn : gJoin O ("" : Str) [.lst ((A.map fun p => p ++ one 10).map .str)] = some (.str x, O) := by
    show (match strsOf ((A.map fun p => p ++ one 10).map D.str) with
      | some ys => if (ys.map fun (y : Str) => y.length).sum + ys.length * ("" : Str).length ≤ 16777216 then some (D.str (Txt.join ("" : Str) ys), O) else none
      | none => none) = _
    rw [strsOf_m]
    have hs := sum_le (m := 101) (ys := A.map fun (p : Str) => p ++ one 10) fun p hp => by
      obtain ⟨q, hq, rfl⟩ := List.mem_map.mp hp
      rw [Str.length_append]
      have := hp1 q hq
      show q.length + 1 ≤ 101
      omega
    rw [List.length_map] at hs
    have jb := join_back e
    simp only [show ("" : Str).length = 0 from rfl, Nat.mul_zero, Nat.add_zero]
    rw [if_pos (by omega)]
    rw [show ("" : Str) = Str.empty from rfl, jb]
  refine ⟨O1, _, f1, ?_, rfl⟩
  have hn := (List.getElem?_eq_some_iff.mp g1').1
  have s0 : tA0 [s, t, k, some (.str x), some (.hdl n), w] O = .next [s, t, k, some (.str x), some (.hdl n), w] O1 := by
    show (sIf (mOr (mTest (mOp gNe (mBS (gJoin) (mC (.str "")) (mCons lcJ mNil)) (mVar 3))) (mTest (mOp gGt (mCall (DK.g1 gLen) (mCons lcW mNil)) (mC (.int 0))))) (sRet (mC (.bl false))) sNext) _ _ = _
    generalize lcJ = J at *
    generalize lcW = Wl at *
    generalize ((A.map fun p => p ++ one 10).map D.str) = zs at *
    simp [mBS, runF, sSeq, sIf, sNext, sDrop, sRet, sRetN, sAsg, ofRes, ofB, bName, bNil, bCons, bTup, bLst, bSubL, mTest, mOp, mVar, mC, mChain, mAnd, mOr, mNot, mIf, mAndV, mOrV, mNotV, mNeg, mCons, mNil, mTup, mLst, newL, mCall, mFn, arity, g1, g2, gLen, gInt, gAbs, gMax2, gMin2, seqOf, lsqOf, lstOf, Res.bind, ofO, gAdd_ok, gSub_ok, gEq_int, gNe_int, gLt_int, gLe_int, gGt_int, gGe_int, gEq_bl, gNe_bl, gEq_str, gNe_str, mIsi, mIsiT, tyD, kitL, kitTab, atI_c0, atI_c1, atI_c2, atI_c3, atI_c4, sForR1, int1, int2, mMeth, mMake, mFld, sFldM, gIs, gIsNot, isNon_t, sRaise, gList, newLO, j1, j2, jn]
  have hl1 : (A.map D.str).length ≤ 1000000 := by rw [List.length_map]; omega
  have s1 : tA1 [s, t, k, some (.str x), some (.hdl n), w] O1 = .next [s, t, k, some (.str x), some (.hdl n), w] (O1.set n (.lst (A.map .str ++ [.str "x"]))) := by
    generalize A.map D.str = zs at *
    simp [mApp, runF, sSeq, sIf, sNext, sDrop, sRet, sRetN, sAsg, ofRes, ofB, bName, bNil, bCons, bTup, bLst, bSubL, mTest, mOp, mVar, mC, mChain, mAnd, mOr, mNot, mIf, mAndV, mOrV, mNotV, mNeg, mCons, mNil, mTup, mLst, newL, mCall, mFn, arity, g1, g2, gLen, gInt, gAbs, gMax2, gMin2, seqOf, lsqOf, lstOf, Res.bind, ofO, gAdd_ok, gSub_ok, gEq_int, gNe_int, gLt_int, gLe_int, gGt_int, gGe_int, gEq_bl, gNe_bl, gEq_str, gNe_str, mIsi, mIsiT, tyD, kitL, kitTab, atI_c0, atI_c1, atI_c2, atI_c3, atI_c4, sForR1, int1, int2, mMeth, mMake, mFld, sFldM, gIs, gIsNot, isNon_t, sRaise, gList, newLO, g1', hl1]
  have ly := lines_yes (O := O1.set n (.lst (A.map .str ++ [.str "x"]))) (by omega) h0 e
  have hn2 : n < (O1.set n (.lst (A.map .str ++ [.str "x"]))).length := by rw [List.length_set]; exact hn
  have uo := unlike_ok (A := A) (n := n) (m := (O1.set n (.lst (A.map .str ++ [.str "x"]))).length) (O := O1.set n (.lst (A.map .str ++ [.str "x"])) ++ [.lst (A.map .str)])
    (by rw [List.getElem?_append_left hn2, List.getElem?_set_self hn]) (by simp) fun p hp => (hp2 p hp).2
  have s2 : tA2 [s, t, k, some (.str x), some (.hdl n), w] (O1.set n (.lst (A.map .str ++ [.str "x"]))) = .next [s, t, k, some (.str x), some (.hdl n), w] (O1.set n (.lst (A.map .str ++ [.str "x"])) ++ [.lst (A.map .str)]) := by
    generalize O1.set n (.lst (A.map .str ++ [.str "x"])) = Q at *
    simp [runF, sSeq, sIf, sNext, sDrop, sRet, sRetN, sAsg, ofRes, ofB, bName, bNil, bCons, bTup, bLst, bSubL, mTest, mOp, mVar, mC, mChain, mAnd, mOr, mNot, mIf, mAndV, mOrV, mNotV, mNeg, mCons, mNil, mTup, mLst, newL, mCall, mFn, arity, g1, g2, gLen, gInt, gAbs, gMax2, gMin2, seqOf, lsqOf, lstOf, Res.bind, ofO, gAdd_ok, gSub_ok, gEq_int, gNe_int, gLt_int, gLe_int, gGt_int, gGe_int, gEq_bl, gNe_bl, gEq_str, gNe_str, mIsi, mIsiT, tyD, kitL, kitTab, atI_c0, atI_c1, atI_c2, atI_c3, atI_c4, sForR1, int1, int2, mMeth, mMake, mFld, sFldM, gIs, gIsNot, isNon_t, sRaise, gList, newLO, ly, uo]
  rw [seq_next s0, seq_next s1]
  exact s2
theorem turn_ok {i : D} (tk : Take b 0 O) (hb : b ≤ 2 ^ 20) : ∃ x n O', turnOf (bName 2) tB i [s, some (.hdl 0), k, y, z, w] O = .next [s, some (.hdl 0), some i, some (.str x), some (.hdl n), w] O' ∧ Take (b + 13) 0 O' := by
  obtain ⟨x, O1, e1, hx, t1, f1⟩ := text_ok tk hb
  obtain ⟨A, l, e⟩ := split_ends (c := 10) x
  have hln := hx.ln
  have e2 := found_ok (O := O1) hx e
  obtain ⟨O3, e3, f3⟩ := due_ok (O := O1 ++ [.lst (dueD x A l)]) (by omega) e
  have okd := due_okV hx e
  have g0 : (O1 ++ [.lst (dueD x A l)])[O1.length]? = some (.lst (dueD x A l)) := by simp
  have g3 := f3.at g0
  have ne : gNe O3 (.hdl O1.length) (.lst (dueD x A l)) = some (.bl false, O3) := gNe_of (by rw [eqD_hl g3, eqD_pd okd okd (.inl rfl), eqv_self okd])
  have F3 : Fz O1 O3 := fz_app.trans f3
  have s0 : tB0 [s, some (.hdl 0), some i, y, z, w] O = .next [s, some (.hdl 0), some i, some (.str x), z, w] O1 := by simp [runF, sSeq, sIf, sNext, sDrop, sRet, sRetN, sAsg, ofRes, ofB, bName, bNil, bCons, bTup, bLst, bSubL, mTest, mOp, mVar, mC, mChain, mAnd, mOr, mNot, mIf, mAndV, mOrV, mNotV, mNeg, mCons, mNil, mTup, mLst, newL, mCall, mFn, arity, g1, g2, gLen, gInt, gAbs, gMax2, gMin2, gIx, seqOf, lsqOf, lstOf, Res.bind, ofO, gAdd_ok, gSub_ok, gEq_int, gNe_int, gLt_int, gLe_int, gGt_int, gGe_int, gEq_bl, gNe_bl, gEq_str, gNe_str, mIsi, mIsiT, tyD, kitL, kitTab, atI_c0, atI_c1, atI_c2, atI_c3, atI_c4, sForR1, int1, int2, mMeth, mMake, mFld, sFldM, gIs, gIsNot, isNon_t, sRaise, gList, newLO, e1]
  have s1 : tB1 [s, some (.hdl 0), some i, some (.str x), z, w] O1 = .next [s, some (.hdl 0), some i, some (.str x), some (.hdl O1.length), w] (O1 ++ [.lst (dueD x A l)]) := by simp [runF, sSeq, sIf, sNext, sDrop, sRet, sRetN, sAsg, ofRes, ofB, bName, bNil, bCons, bTup, bLst, bSubL, mTest, mOp, mVar, mC, mChain, mAnd, mOr, mNot, mIf, mAndV, mOrV, mNotV, mNeg, mCons, mNil, mTup, mLst, newL, mCall, mFn, arity, g1, g2, gLen, gInt, gAbs, gMax2, gMin2, gIx, seqOf, lsqOf, lstOf, Res.bind, ofO, gAdd_ok, gSub_ok, gEq_int, gNe_int, gLt_int, gLe_int, gGt_int, gGe_int, gEq_bl, gNe_bl, gEq_str, gNe_str, mIsi, mIsiT, tyD, kitL, kitTab, atI_c0, atI_c1, atI_c2, atI_c3, atI_c4, sForR1, int1, int2, mMeth, mMake, mFld, sFldM, gIs, gIsNot, isNon_t, sRaise, gList, newLO, e2]
  have s2 : tB2 [s, some (.hdl 0), some i, some (.str x), some (.hdl O1.length), w] (O1 ++ [.lst (dueD x A l)]) = .next [s, some (.hdl 0), some i, some (.str x), some (.hdl O1.length), w] O3 := by
    generalize dueD x A l = dd at *
    simp [runF, sSeq, sIf, sNext, sDrop, sRet, sRetN, sAsg, ofRes, ofB, bName, bNil, bCons, bTup, bLst, bSubL, mTest, mOp, mVar, mC, mChain, mAnd, mOr, mNot, mIf, mAndV, mOrV, mNotV, mNeg, mCons, mNil, mTup, mLst, newL, mCall, mFn, arity, g1, g2, gLen, gInt, gAbs, gMax2, gMin2, gIx, seqOf, lsqOf, lstOf, Res.bind, ofO, gAdd_ok, gSub_ok, gEq_int, gNe_int, gLt_int, gLe_int, gGt_int, gGe_int, gEq_bl, gNe_bl, gEq_str, gNe_str, mIsi, mIsiT, tyD, kitL, kitTab, atI_c0, atI_c1, atI_c2, atI_c3, atI_c4, sForR1, int1, int2, mMeth, mMake, mFld, sFldM, gIs, gIsNot, isNon_t, sRaise, gList, newLO, e3, ne, tyD, kitL, kitTab, g3]
  have s3 : ∃ O4, Fz O1 O4 ∧ tB3 [s, some (.hdl 0), some i, some (.str x), some (.hdl O1.length), w] O3 = .next [s, some (.hdl 0), some i, some (.str x), some (.hdl O1.length), w] O4 := by
    have en : gEnds O3 x [.str "\n"] = some (.bl (Txt.endswith x (one 10)), O3) := rfl
    cases he : Txt.endswith x (one 10)
    · refine ⟨O3, F3, ?_⟩
      rw [he] at en
      generalize sSeq tA0 (sSeq tA1 tA2) = sA
      simp [mBS, runF, sSeq, sIf, sNext, sDrop, sRet, sRetN, sAsg, ofRes, ofB, bName, bNil, bCons, bTup, bLst, bSubL, mTest, mOp, mVar, mC, mChain, mAnd, mOr, mNot, mIf, mAndV, mOrV, mNotV, mNeg, mCons, mNil, mTup, mLst, newL, mCall, mFn, arity, g1, g2, gLen, gInt, gAbs, gMax2, gMin2, seqOf, lsqOf, lstOf, Res.bind, ofO, gAdd_ok, gSub_ok, gEq_int, gNe_int, gLt_int, gLe_int, gGt_int, gGe_int, gEq_bl, gNe_bl, gEq_str, gNe_str, mIsi, mIsiT, tyD, kitL, kitTab, atI_c0, atI_c1, atI_c2, atI_c3, atI_c4, sForR1, int1, int2, mMeth, mMake, mFld, sFldM, gIs, gIsNot, isNon_t, sRaise, gList, newLO, en]
    · obtain rfl := ends_empty e he
      have h0 : x ≠ "" := fun h => by
        obtain ⟨ys, hy⟩ := ends_last he
        rw [h] at hy
        have : (("" : Str)).cps.toList = [] := rfl
        rw [this] at hy
        exact absurd hy.symm (by simp)
      have hd : dueD x A Str.empty = A.map .str := by
        unfold dueD
        rw [if_neg h0, if_pos (show Str.empty = ("" : Str) from rfl)]
      rw [hd] at g3
      obtain ⟨O4, O5, f4, e5, rfl⟩ := tA_ok (s := s) (t := some (.hdl 0)) (k := some i) (w := w) hx h0 e g3
      refine ⟨O4.set O1.length (.lst (A.map .str ++ [.str "x"])) ++ [.lst (A.map .str)], (fz_setNew (F3.trans f4) (Nat.le_refl _)).trans fz_app, ?_⟩
      rw [he] at en
      show sIf (mTest (mBS (gEnds) (mVar 3) (mCons (mC (.str "\n")) mNil))) (sSeq tA0 (sSeq tA1 tA2)) sNext _ _ = _
      generalize sSeq tA0 (sSeq tA1 tA2) = sA at *
      simp [mBS, runF, sSeq, sIf, sNext, sDrop, sRet, sRetN, sAsg, ofRes, ofB, bName, bNil, bCons, bTup, bLst, bSubL, mTest, mOp, mVar, mC, mChain, mAnd, mOr, mNot, mIf, mAndV, mOrV, mNotV, mNeg, mCons, mNil, mTup, mLst, newL, mCall, mFn, arity, g1, g2, gLen, gInt, gAbs, gMax2, gMin2, seqOf, lsqOf, lstOf, Res.bind, ofO, gAdd_ok, gSub_ok, gEq_int, gNe_int, gLt_int, gLe_int, gGt_int, gGe_int, gEq_bl, gNe_bl, gEq_str, gNe_str, mIsi, mIsiT, tyD, kitL, kitTab, atI_c0, atI_c1, atI_c2, atI_c3, atI_c4, sForR1, int1, int2, mMeth, mMake, mFld, sFldM, gIs, gIsNot, isNon_t, sRaise, gList, newLO, en, e5]
  obtain ⟨O4, F4, s3⟩ := s3
  have hr := repl_ok (c := 10) (d := 32) hx (by omega)
  obtain ⟨O5, e5, f5⟩ := wr_ok (O := O4) (x := Txt.replace x (one 10) (one 32)) (by have := hr.ln; omega) hr.ok
  have rp : mRepl "\n" " " (mVar 3) [s, some (.hdl 0), some i, some (.str x), some (.hdl O1.length), w] O4 = .ok (.str (Txt.replace x (one 10) (one 32))) O4 := by
    show (if x.length + (x.length + 1) * (one 32).length ≤ 16777216 then Res.ok (D.str (Txt.replace x (one 10) (one 32))) O4 else .bad) = _
    rw [if_pos (by show x.length + (x.length + 1) * 1 ≤ _; omega)]
  have s4 : tB4 [s, some (.hdl 0), some i, some (.str x), some (.hdl O1.length), w] O4 = .next [s, some (.hdl 0), some i, some (.str x), some (.hdl O1.length), w] O5 := by
    show sIf (mNot (mTest (mFn (arity 1 f_law_words_right) [] (mCons (mRepl "\n" " " (mVar 3)) mNil)))) (sRet (mC (.bl false))) sNext _ _ = _
    generalize mRepl "\n" " " (mVar 3) = mr at *
    simp [runF, sSeq, sIf, sNext, sDrop, sRet, sRetN, sAsg, ofRes, ofB, bName, bNil, bCons, bTup, bLst, bSubL, mTest, mOp, mVar, mC, mChain, mAnd, mOr, mNot, mIf, mAndV, mOrV, mNotV, mNeg, mCons, mNil, mTup, mLst, newL, mCall, mFn, arity, g1, g2, gLen, gInt, gAbs, gMax2, gMin2, gIx, seqOf, lsqOf, lstOf, Res.bind, ofO, gAdd_ok, gSub_ok, gEq_int, gNe_int, gLt_int, gLe_int, gGt_int, gGe_int, gEq_bl, gNe_bl, gEq_str, gNe_str, mIsi, mIsiT, tyD, kitL, kitTab, atI_c0, atI_c1, atI_c2, atI_c3, atI_c4, sForR1, int1, int2, mMeth, mMake, mFld, sFldM, gIs, gIsNot, isNon_t, sRaise, gList, newLO, rp, e5]
  refine ⟨x, O1.length, O5, ?_, t1.fz (F4.trans f5)⟩
  show tB [s, some (.hdl 0), some i, y, z, w] O = _
  show sSeq tB0 (sSeq tB1 (sSeq tB2 (sSeq tB3 tB4))) _ _ = _
  rw [seq_next s0, seq_next s1, seq_next s2, seq_next s3]
  exact s4
end
end DK.k11
end
section
set_option Elab.async false
set_option linter.all false
set_option autoImplicit false
set_option maxRecDepth 100000
set_option maxHeartbeats 4000000
/-! K11Law: the law holds. -/
namespace DK.k11
open PySem L2 DK
theorem law_holds (ns : List Int) (hl : ns.length ≤ 63) : ∃ O, f_law [.rol (ns.map D.int)] [] = .ok (.bl true) O := by
  have hp0 : Take 0 0 [.lst (takeL ns 0 0)] := ⟨ns, 0, 0, rfl, by omega, by omega, by omega, by omega⟩
  obtain ⟨L1, O1, e4, h4⟩ := loopD_keeps (turn := turnOf (bName 2) tB) (I := fun j L O => ∃ k y z w, L = [some (.rol (ns.map D.int)), some (.hdl 0), k, y, z, w] ∧ Take (13 * j) 0 O) (rangeD 0 8) 0
    [some (.rol (ns.map D.int)), some (.hdl 0), none, none, none, none] [.lst (takeL ns 0 0)]
    ⟨_, _, _, _, rfl, hp0⟩ fun j d L O hd h => by
      have : j < 8 := by
        have := (List.getElem?_eq_some_iff.mp hd).1
        simpa [rangeD] using this
      obtain ⟨k, y, z, w, rfl, tk⟩ := h
      rw [Nat.zero_add] at tk ⊢
      obtain ⟨x, n, O', e, t'⟩ := turn_ok (s := some (.rol (ns.map D.int))) (k := k) (y := y) (z := z) (w := w) (i := d) tk (by omega)
      exact ⟨_, O', e, _, _, _, _, rfl, by rw [show 13 * (j + 1) = 13 * j + 13 by omega]; exact t'⟩
  obtain ⟨k, y, z, w, rfl, _⟩ := h4
  refine ⟨O1, ?_⟩
  have hb : b_law = sSeq (sAsg (mLst true (mCons (mVar 0) (mCons (mC (.int 0)) (mCons (mC (.int 0)) mNil)))) (bName 1)) (sSeq (sForR1 (mCons (mC (.int 8)) mNil) (bName 2) tB) (sRet (mC (.bl true)))) := rfl
  show (match b_law [some (.rol (ns.map D.int)), none, none, none, none, none] [] with
    | .next _ O1 => Res.ok D.non O1
    | .ret d O1 => .ok d O1
    | .exc x _ O1 => .exc x O1
    | _ => .bad) = _
  rw [hb]
  simp only [takeL] at e4
  generalize tB = tb at *
  simp [runF, sSeq, sIf, sNext, sDrop, sRet, sRetN, sAsg, ofRes, ofB, bName, bNil, bCons, bTup, bLst, bSubL, mTest, mOp, mVar, mC, mChain, mAnd, mOr, mNot, mIf, mAndV, mOrV, mNotV, mNeg, mCons, mNil, mTup, mLst, newL, mCall, mFn, arity, g1, g2, gLen, gInt, gAbs, gMax2, gMin2, gIx, seqOf, lsqOf, lstOf, Res.bind, ofO, gAdd_ok, gSub_ok, gEq_int, gNe_int, gLt_int, gLe_int, gGt_int, gGe_int, gEq_bl, gNe_bl, gEq_str, gNe_str, mIsi, mIsiT, tyD, kitL, kitTab, atI_c0, atI_c1, atI_c2, atI_c3, atI_c4, sForR1, int1, int2, mMeth, mMake, mFld, sFldM, gIs, gIsNot, isNon_t, sRaise, gList, newLO, e4]
end DK.k11
end
theorem PySem.Challenge.cw_darkrise_k11_lines_and_words_holds : PySem.Challenge.rw_darkrise_k11_lines_and_words.Holds := by
  exact DK.k11.core DK.k11.law_holds
