import PyProof.Rows.All
import Wide.All
import OpenK.AllK
import Wide.FinOn
import HandS.ForMost
import HandS.ForExc
import HandS.IsInst
import HandS.Wide
import HandS.CallSlots
import HandS.ExcIs
import HandS.Small
import HandS.RaiseMore
import HandS.TupAny
import HandS.SortOrd
import HandS.Flow
import HandS.Deep
import HandS.Defaults
import HandS.Head0
import HandS.Head1
import HandS.Head2
import HandS.HeadEnd
import HandS.HeadHook1
import HandS.HeadHook2
import HandS.HeadHook3
import HandS.HeadHook4
import KE.KExcSuper
import HandS.ExcInit
import HandS.ExcField
import PyProof.ExcBaseAll.ValueError
import HandS.Text
import HandS.Iter
import HandS.Replace
import HandS.StrMore
import HandS.More
import HandS.Dict
import HandS.Conv
import HandS.SortInts
import HandS.DictTup
import HandS.Rev
import PyProof.ListRange
import HandS.OwnEq
import KE.DataFind
import HandS.TryMany
import KE.SortData
import KE.DataMinMax
import HandS.DictComp
import HandS.Strs
import HandS.SetBool
import HandS.Style
import KE.DataCmp
import KE.DataEq
import HandS.DeepEq
import HandS.SetKeys
import PyProof.NeKinds
import HandS.ListEq
import HandS.ExcCtx
import HandS.ExcInitHot
import HandS.SuiteRaise
import HandS.RaiseFrom
import KE.KAsSuite
import HandS.ReplaceLit
import KE.IntTextLaws
import PyProof.StrLaws
import PyProof.StrLawsChain
import PyProof.StrLawsTight
import PyProof.StrLawsReplace
import KE.KIntText
import KE.IntTextText
import PyProof.Rows.StrJoinMade
import PySem.Challenge.RW_darkrise_k39_sheet_texts_there_and_back
section
set_option Elab.async false
set_option linter.all false
set_option autoImplicit false
set_option maxRecDepth 100000
set_option maxHeartbeats 4000000
/-! DKCore: values D, stores of objects, results; readings that are told by functions (mirrors). -/
namespace DK
open PySem L2
/-- a value of the mirror: lst, tup stand as they are for good; hdl n is the n-th object of the store -/
inductive D where
  | non
  | bl (b : Bool)
  | int (i : Int)
  | str (s : Str)
  | lst (xs : List D)
  | rol (xs : List D)
  | tup (xs : List D)
  | hdl (n : Nat)
inductive Ob where
  | lst (xs : List D)
  | dct (kvs : List (Key × D))
  | ins (c : Str) (fs : List (Str × D))
  | dead
  | fdc (kvs : List (Key × D))
abbrev Store := List Ob
abbrev Loc := List (Option D)
structure Exn where
  cls : Str
  fs : Option (List (Str × D)) := none
inductive Res (α : Type) where
  | ok (a : α) (O : Store)
  | exc (x : Exn) (O : Store)
  | bad
def Res.bind {α β : Type} (x : Res α) (f : α → Store → Res β) : Res β := match x with
  | .ok a O => f a O
  | .exc e O => .exc e O
  | .bad => .bad
abbrev EM := Loc → Store → Res D
abbrev TM := Loc → Store → Res Bool
abbrev AM := Loc → Store → Res (List D)
abbrev FM := List D → Store → Res D
inductive SR where
  | next (L : Loc) (O : Store)
  | ret (d : D) (O : Store)
  | brk (L : Loc) (O : Store)
  | cnt (L : Loc) (O : Store)
  | exc (x : Exn) (L : Loc) (O : Store)
  | bad
abbrev SM := Loc → Store → SR
/-- where the objects of the store stand; what else is kept -/
structure Rg where
  l : List Addr
  fr : Hp
def Rg.push (r : Rg) (p : Addr) : Rg := ⟨r.l ++ [p], r.fr⟩
/-! ### what stands for what -/
section
variable (K : PySem.W.Frag) (S : Hp) (r : Rg)
mutual
def Rp : D → V → Prop
  | .non, v => v = .non
  | .bl b, v => v = .bl b
  | .int i, v => v = .int i
  | .str s, v => v = .str s
  | .lst ds, v => ∃ a vs, v = .ref a ∧ S a = some (.lst vs) ∧ RpAll ds vs
  | .rol ds, v => ∃ a vs, v = .ref a ∧ SqL K S a vs ∧ RpAll ds vs
  | .tup ds, v => ∃ a vs, v = .ref a ∧ SqT K S a vs ∧ RpAll ds vs
  | .hdl n, v => ∃ a, v = .ref a ∧ r.l[n]? = some a
def RpAll : List D → List V → Prop
  | [], vs => vs = []
  | d :: ds, vs => ∃ v vr, vs = v :: vr ∧ Rp d v ∧ RpAll ds vr
end
def RpP {κ : Type} : List (κ × D) → List (κ × V) → Prop
  | [], ks => ks = []
  | kd :: kds, ks => ∃ v kr, ks = (kd.1, v) :: kr ∧ Rp K S r kd.2 v ∧ RpP kds kr
end
/-- the state grows -/
structure Ext (S : Hp) (r : Rg) (S' : Hp) (r' : Rg) : Prop where
  s : Same S S'
  f : r'.fr = r.fr
  r : r.l <+: r'.l
theorem Ext.refl (S : Hp) (r : Rg) : Ext S r S r := ⟨Same.refl S, rfl, List.prefix_rfl⟩
theorem Ext.trans {S S1 S2 : Hp} {r r1 r2 : Rg} (a : Ext S r S1 r1) (b : Ext S1 r1 S2 r2) : Ext S r S2 r2 := ⟨a.s.trans b.s, b.f.trans a.f, a.r.trans b.r⟩
theorem Ext.new {S : Hp} {r : Rg} {p : Addr} {o : HO} (h : S p = none) : Ext S r (upd S p o) r :=
  ⟨fun b u e => by rw [upd_ne (ne_of_none e h)]; exact e, rfl, List.prefix_rfl⟩
theorem rd_same {S S' : Hp} {a : Addr} {u : HO} (e : Same S S') (h : Rd S a u) : Rd S' a u := by
  rcases h with h | ⟨o, h⟩
  · exact .inl (e _ _ h)
  · exact .inr ⟨o, e _ _ h⟩
theorem sqL_same {K : PySem.W.Frag} {S S' : Hp} {a : Addr} {xs : List V} (e : Same S S') (h : SqL K S a xs) : SqL K S' a xs := by
  rcases h with h | h
  · exact .inl (rd_same e h)
  · exact .inr h
theorem sqT_same {K : PySem.W.Frag} {S S' : Hp} {a : Addr} {xs : List V} (e : Same S S') (h : SqT K S a xs) : SqT K S' a xs := by
  rcases h with h | h
  · exact .inl (rd_same e h)
  · exact .inr h
theorem pre_get {α : Type} {l m : List α} {n : Nat} {x : α} (p : l <+: m) (h : l[n]? = some x) : m[n]? = some x := by
  obtain ⟨t, rfl⟩ := p
  rw [List.getElem?_append_left (List.getElem?_eq_some_iff.mp h).1]
  exact h
section
variable {K : PySem.W.Frag} {S S' : Hp} {r r' : Rg}
mutual
theorem Rp.monoW (s : Same S S') (l : r.l <+: r'.l) : ∀ (d : D) (v : V), Rp K S r d v → Rp K S' r' d v
  | .non, v, h => h
  | .bl b, v, h => h
  | .int i, v, h => h
  | .str z, v, h => h
  | .lst ds, v, h => by
    obtain ⟨a, vs, q1, q2, q3⟩ := h
    exact ⟨a, vs, q1, s _ _ q2, RpAll.monoW s l ds vs q3⟩
  | .rol ds, v, h => by
    obtain ⟨a, vs, q1, q2, q3⟩ := h
    exact ⟨a, vs, q1, sqL_same s q2, RpAll.monoW s l ds vs q3⟩
  | .tup ds, v, h => by
    obtain ⟨a, vs, q1, q2, q3⟩ := h
    exact ⟨a, vs, q1, sqT_same s q2, RpAll.monoW s l ds vs q3⟩
  | .hdl n, v, h => by
    obtain ⟨a, q1, q2⟩ := h
    exact ⟨a, q1, pre_get l q2⟩
theorem RpAll.monoW (s : Same S S') (l : r.l <+: r'.l) : ∀ (ds : List D) (vs : List V), RpAll K S r ds vs → RpAll K S' r' ds vs
  | [], vs, h => h
  | d :: ds, vs, h => by
    obtain ⟨v, vr, q1, q2, q3⟩ := h
    exact ⟨v, vr, q1, Rp.monoW s l d v q2, RpAll.monoW s l ds vr q3⟩
end
theorem Rp.mono (e : Ext S r S' r') (d : D) (v : V) (h : Rp K S r d v) : Rp K S' r' d v := Rp.monoW e.s e.r d v h
theorem RpAll.mono (e : Ext S r S' r') (ds : List D) (vs : List V) (h : RpAll K S r ds vs) : RpAll K S' r' ds vs := RpAll.monoW e.s e.r ds vs h
theorem RpP.monoW {κ : Type} (s : Same S S') (l : r.l <+: r'.l) : ∀ (ds : List (κ × D)) (vs : List (κ × V)), RpP K S r ds vs → RpP K S' r' ds vs
  | [], vs, h => h
  | d :: ds, vs, h => by
    obtain ⟨v, vr, q1, q2, q3⟩ := h
    exact ⟨v, vr, q1, Rp.monoW s l d.2 v q2, RpP.monoW s l ds vr q3⟩
theorem RpP.mono {κ : Type} (e : Ext S r S' r') (ds : List (κ × D)) (vs : List (κ × V)) (h : RpP K S r ds vs) : RpP K S' r' ds vs := RpP.monoW e.s e.r ds vs h
theorem RpAll.length : ∀ {ds : List D} {vs : List V}, RpAll K S r ds vs → vs.length = ds.length
  | [], vs, h => by rw [show vs = [] from h]; rfl
  | d :: ds, vs, h => by
    obtain ⟨v, vr, rfl, _, q3⟩ := h
    rw [List.length_cons, List.length_cons, RpAll.length q3]
theorem RpAll.get : ∀ {ds : List D} {vs : List V} {i : Nat} {d : D}, RpAll K S r ds vs → ds[i]? = some d → ∃ v, vs[i]? = some v ∧ Rp K S r d v
  | [], _, i, d, _, e => by simp at e
  | x :: ds, vs, 0, d, h, e => by
    obtain ⟨v, vr, rfl, q, _⟩ := h
    obtain rfl : x = d := by simpa using e
    exact ⟨v, rfl, q⟩
  | x :: ds, vs, i + 1, d, h, e => by
    obtain ⟨v, vr, rfl, _, q⟩ := h
    exact RpAll.get (i := i) q (by simpa using e)
/-- from the other side -/
theorem RpAll.back : ∀ {ds : List D} {vs : List V} {i : Nat} {v : V}, RpAll K S r ds vs → vs[i]? = some v → ∃ d, ds[i]? = some d ∧ Rp K S r d v
  | [], vs, i, v, h, e => by
    rw [show vs = [] from h] at e
    simp at e
  | x :: ds, vs, 0, d, h, e => by
    obtain ⟨v, vr, rfl, q, _⟩ := h
    obtain rfl : v = d := by simpa using e
    exact ⟨x, rfl, q⟩
  | x :: ds, vs, i + 1, d, h, e => by
    obtain ⟨v, vr, rfl, _, q⟩ := h
    exact RpAll.back (i := i) q (by simpa using e)
theorem RpAll.append : ∀ {ds es : List D} {vs us : List V}, RpAll K S r ds vs → RpAll K S r es us → RpAll K S r (ds ++ es) (vs ++ us)
  | [], es, vs, us, h, g => by
    rw [show vs = [] from h]
    exact g
  | d :: ds, es, vs, us, h, g => by
    obtain ⟨v, vr, rfl, q, q2⟩ := h
    exact ⟨v, vr ++ us, rfl, q, q2.append g⟩
theorem RpAll.take : ∀ {ds : List D} {vs : List V} (n : Nat), RpAll K S r ds vs → RpAll K S r (ds.take n) (vs.take n)
  | ds, vs, 0, h => by
    rw [List.take_zero, List.take_zero]
    exact rfl
  | [], vs, n + 1, h => by
    rw [show vs = [] from h]
    exact rfl
  | d :: ds, vs, n + 1, h => by
    obtain ⟨v, vr, rfl, q, q2⟩ := h
    exact ⟨v, vr.take n, rfl, q, q2.take n⟩
theorem RpAll.drop : ∀ {ds : List D} {vs : List V} (n : Nat), RpAll K S r ds vs → RpAll K S r (ds.drop n) (vs.drop n)
  | ds, vs, 0, h => by
    rw [List.drop_zero, List.drop_zero]
    exact h
  | [], vs, n + 1, h => by
    rw [show vs = [] from h]
    exact rfl
  | d :: ds, vs, n + 1, h => by
    obtain ⟨v, vr, rfl, q, q2⟩ := h
    exact q2.drop n
theorem RpAll.set : ∀ {ds : List D} {vs : List V} {d : D} {v : V} (i : Nat), RpAll K S r ds vs → Rp K S r d v → RpAll K S r (ds.set i d) (vs.set i v)
  | [], vs, d, v, i, h, _ => by
    rw [show vs = [] from h]
    exact rfl
  | x :: ds, vs, d, v, 0, h, g => by
    obtain ⟨u, vr, rfl, q, q2⟩ := h
    exact ⟨v, vr, rfl, g, q2⟩
  | x :: ds, vs, d, v, i + 1, h, g => by
    obtain ⟨u, vr, rfl, q, q2⟩ := h
    exact ⟨u, vr.set i v, rfl, q, q2.set i g⟩
theorem RpAll.nil : RpAll K S r [] [] := rfl
theorem RpAll.cons {d : D} {v : V} {ds : List D} {vs : List V} (h : Rp K S r d v) (g : RpAll K S r ds vs) : RpAll K S r (d :: ds) (v :: vs) := ⟨v, vs, rfl, h, g⟩
end
/-! ### the state -/
section
variable (K : PySem.W.Frag) (ad : Str → Addr) (S : Hp) (r : Rg)
def RO (H : Hp) (a : Addr) : Ob → Prop
  | .lst ds => S a = none ∧ ∃ vs, H a = some (.lst vs) ∧ RpAll K S r ds vs
  | .dct kvs => S a = none ∧ ∃ ks, H a = some (.dK ks) ∧ RpP K S r kvs ks
  | .ins c fs => S a = none ∧ ∃ dx gs, H a = some (.ins (ad c) dx gs) ∧ RpP K S r fs gs
  | .dead => ∃ o, H a = some o
  | .fdc kvs => ∃ od ks, S a = some (.frz od (.dK ks)) ∧ H a = some (.frz od (.dK ks)) ∧ RpP K S r kvs ks
structure Rs (O : Store) (H : Hp) : Prop where
  sub : Same S H
  len : r.l.length = O.length
  nd : r.l.Nodup
  ob : ∀ (n : Nat) (a : Addr) (o : Ob), r.l[n]? = some a → O[n]? = some o → RO K ad S r H a o
  fr : Same r.fr H
  off : ∀ (a : Addr) (o : HO), r.fr a = some o → S a = none ∧ a ∉ r.l
/-- the slots -/
structure Rl (L : Loc) (σ : St) : Prop where
  len : σ.length = L.length
  at_ : ∀ (i : Nat) (d : D), L[i]? = some (some d) → ∃ v, σ[i]? = some (some v) ∧ Rp K S r d v
/-- an exception: its own dict stands for good -/
def ExR (x : Exn) (d : Option Addr) : Prop := match x.fs with
  | none => d = none
  | some fs => ∃ dd gs, d = some dd ∧ S dd = some (.xd gs) ∧ RpP K S r fs gs
end
section
variable {K : PySem.W.Frag} {ad : Str → Addr} {S S' : Hp} {r r' : Rg} {L : Loc} {σ : St} {O : Store} {H : Hp}
theorem Rl.mono (e : Ext S r S' r') (h : Rl K S r L σ) : Rl K S' r' L σ := ⟨h.len, fun i d q => by
  obtain ⟨v, q1, q2⟩ := h.at_ i d q
  exact ⟨v, q1, Rp.mono e d v q2⟩⟩
theorem RO.there {a : Addr} {o : Ob} (h : RO K ad S r H a o) : ∃ u, H a = some u := by
  cases o with
  | lst ds => obtain ⟨_, vs, q, _⟩ := h; exact ⟨_, q⟩
  | dct kvs => obtain ⟨_, vs, q, _⟩ := h; exact ⟨_, q⟩
  | ins c fs => obtain ⟨_, _, vs, q, _⟩ := h; exact ⟨_, q⟩
  | dead => exact h
  | fdc kvs => obtain ⟨od, ks, z, q, p⟩ := h; exact ⟨_, q⟩
theorem Rs.fresh (h : Rs K ad S r O H) {p : Addr} (hp : H p = none) : S p = none := h.sub.free hp
theorem Rs.notin (h : Rs K ad S r O H) {p : Addr} (hp : H p = none) : p ∉ r.l := fun hm => by
  obtain ⟨n, hn, e⟩ := List.getElem_of_mem hm
  have hO : n < O.length := by rw [← h.len]; exact hn
  obtain ⟨u, q⟩ := (h.ob n p O[n] (by rw [List.getElem?_eq_getElem hn, e]) (List.getElem?_eq_getElem hO)).there
  rw [hp] at q
  cases q
theorem RO.mono {a : Addr} {o : Ob} {H' : Hp} (e : Ext S r S' r') (k : ∀ u, H a = some u → H' a = some u) (n : S a = none → S' a = none) (h : RO K ad S r H a o) : RO K ad S' r' H' a o := by
  cases o with
  | lst ds => obtain ⟨z, vs, q, p⟩ := h; exact ⟨n z, vs, k _ q, RpAll.mono e _ _ p⟩
  | dct kvs => obtain ⟨z, vs, q, p⟩ := h; exact ⟨n z, vs, k _ q, RpP.mono e _ _ p⟩
  | ins c fs => obtain ⟨z, dx, vs, q, p⟩ := h; exact ⟨n z, dx, vs, k _ q, RpP.mono e _ _ p⟩
  | dead => obtain ⟨u, q⟩ := h; exact ⟨u, k _ q⟩
  | fdc kvs => obtain ⟨od, ks, z, q, p⟩ := h; exact ⟨od, ks, e.s _ _ z, k _ q, RpP.mono e _ _ p⟩
theorem same_upd {H' : Hp} {p : Addr} {o : HO} (h : Same H' H) (hp : H' p = none) : Same H' (upd H p o) := fun b u e => by
  rw [upd_ne (ne_of_none e hp)]
  exact h b u e
/-- a new thing that stands for good -/
theorem Rs.seal {p : Addr} {o : HO} (h : Rs K ad S r O H) (hp : H p = none) : Rs K ad (upd S p o) r O (upd H p o) where
  sub := fun b u e => by
    by_cases hb : b = p
    · rw [hb, upd_same] at e ⊢; exact e
    · rw [upd_ne hb] at e ⊢; exact h.sub b u e
  len := h.len
  nd := h.nd
  ob := fun n a ob e1 e2 => by
    have ne : a ≠ p := fun z => h.notin hp (by rw [← z]; exact List.mem_of_getElem? e1)
    exact (h.ob n a ob e1 e2).mono (Ext.new (h.fresh hp)) (fun u q => by rw [upd_ne ne]; exact q) (fun q => by rw [upd_ne ne]; exact q)
  fr := same_upd h.fr (h.fr.free hp)
  off := fun a u e => by
    have ne : a ≠ p := ne_of_none e (h.fr.free hp)
    rw [upd_ne ne]
    exact h.off a u e
/-- a thing that nobody knows -/
theorem Rs.junk {p : Addr} {o : HO} (h : Rs K ad S r O H) (hp : H p = none) : Rs K ad S r O (upd H p o) where
  sub := same_upd h.sub (h.fresh hp)
  len := h.len
  nd := h.nd
  ob := fun n a ob e1 e2 => by
    have ne : a ≠ p := fun z => h.notin hp (by rw [← z]; exact List.mem_of_getElem? e1)
    exact (h.ob n a ob e1 e2).mono (Ext.refl S r) (fun u q => by rw [upd_ne ne]; exact q) (fun q => q)
  fr := same_upd h.fr (h.fr.free hp)
  off := h.off
theorem Ext.push (S : Hp) (r : Rg) (p : Addr) : Ext S r S (r.push p) := ⟨Same.refl S, rfl, List.prefix_append r.l [p]⟩
theorem RO.grow {a p : Addr} {o : Ob} (h : RO K ad S r H a o) : RO K ad S (r.push p) H a o :=
  h.mono (Ext.push S r p) (fun _ q => q) (fun q => q)
/-- a new object of the store -/
theorem Rs.push {p : Addr} {u : HO} {o : Ob} (h : Rs K ad S r O H) (hp : H p = none) (ho : RO K ad S (r.push p) (upd H p u) p o) : Rs K ad S (r.push p) (O ++ [o]) (upd H p u) where
  sub := (h.junk (o := u) hp).sub
  len := by
    show (r.l ++ [p]).length = _
    rw [List.length_append, List.length_append, h.len]; rfl
  nd := by
    show (r.l ++ [p]).Nodup
    rw [List.nodup_append]
    refine ⟨h.nd, by simp, fun a ha b hb => ?_⟩
    obtain rfl : b = p := by simpa using hb
    exact fun z => h.notin hp (z ▸ ha)
  ob := fun n a ob e1 e2 => by
    replace e1 : (r.l ++ [p])[n]? = some a := e1
    by_cases hn : n < r.l.length
    · rw [List.getElem?_append_left hn] at e1
      rw [List.getElem?_append_left (by rw [← h.len]; exact hn)] at e2
      exact ((h.junk (o := u) hp).ob n a ob e1 e2).grow
    · have hn' : n = r.l.length := by
        have := (List.getElem?_eq_some_iff.mp e1).1
        rw [List.length_append] at this
        simp at this
        omega
      subst hn'
      rw [List.getElem?_append_right (Nat.le_refl _)] at e1
      rw [h.len, List.getElem?_append_right (Nat.le_refl _)] at e2
      simp at e1 e2
      subst e1 e2
      exact ho
  fr := same_upd h.fr (h.fr.free hp)
  off := fun a u e => ⟨(h.off a u e).1, fun hm => by
    rcases List.mem_append.mp (show a ∈ r.l ++ [p] from hm) with hm | hm
    · exact (h.off a u e).2 hm
    · obtain rfl : a = p := by simpa using hm
      replace e : r.fr a = some u := e
      rw [show r.fr a = none from h.fr.free hp] at e
      cases e⟩
theorem nd_get {l : List Addr} (h : l.Nodup) {i j : Nat} {a : Addr} (x : l[i]? = some a) (y : l[j]? = some a) : i = j := by
  obtain ⟨h1, e1⟩ := List.getElem?_eq_some_iff.mp x
  obtain ⟨h2, e2⟩ := List.getElem?_eq_some_iff.mp y
  exact (List.getElem_inj h).mp (e1.trans e2.symm)
theorem Rs.nofr (h : Rs K ad S r O H) {n : Nat} {a : Addr} (hn : r.l[n]? = some a) : r.fr a = none := by
  cases e : r.fr a with
  | none => rfl
  | some o => exact absurd (List.mem_of_getElem? hn) (h.off a o e).2
/-- an object of the store is written -/
theorem Rs.write {n : Nat} {a : Addr} {u : HO} {o : Ob} (h : Rs K ad S r O H) (hn : r.l[n]? = some a) (hz : S a = none) (ho : RO K ad S r (upd H a u) a o) : Rs K ad S r (O.set n o) (upd H a u) where
  sub := same_upd h.sub hz
  len := by rw [List.length_set]; exact h.len
  nd := h.nd
  ob := fun m b ob e1 e2 => by
    by_cases hm : m = n
    · subst hm
      rw [hn] at e1
      cases e1
      rw [List.getElem?_set_self (by rw [← h.len]; exact (List.getElem?_eq_some_iff.mp hn).1)] at e2
      cases e2
      exact ho
    · rw [List.getElem?_set_ne (Ne.symm hm)] at e2
      have ne : b ≠ a := fun z => hm (nd_get h.nd e1 (z ▸ hn))
      exact (h.ob m b ob e1 e2).mono (Ext.refl S r) (fun w q => by rw [upd_ne ne]; exact q) (fun q => q)
  fr := same_upd h.fr (h.nofr hn)
  off := h.off
def Rg.at (r : Rg) (f : Hp) : Rg := ⟨r.l, f⟩
theorem RO.at_ {a : Addr} {o : Ob} {f : Hp} (h : RO K ad S r H a o) : RO K ad S (r.at f) H a o := by
  have l : r.l <+: (r.at f).l := List.prefix_rfl
  cases o with
  | lst ds => obtain ⟨z, vs, q, p⟩ := h; exact ⟨z, vs, q, RpAll.monoW (Same.refl S) l _ _ p⟩
  | dct kvs => obtain ⟨z, vs, q, p⟩ := h; exact ⟨z, vs, q, RpP.monoW (Same.refl S) l _ _ p⟩
  | ins c fs => obtain ⟨z, dx, vs, q, p⟩ := h; exact ⟨z, dx, vs, q, RpP.monoW (Same.refl S) l _ _ p⟩
  | dead => obtain ⟨u, q⟩ := h; exact ⟨u, q⟩
  | fdc kvs => obtain ⟨od, ks, z, q, p⟩ := h; exact ⟨od, ks, z, q, RpP.monoW (Same.refl S) l _ _ p⟩
/-- a new thing is kept for a while -/
theorem Rs.hold {p : Addr} {o : HO} (h : Rs K ad S r O H) (hp : H p = none) : Rs K ad S (r.at (upd r.fr p o)) O (upd H p o) where
  sub := (h.junk (o := o) hp).sub
  len := h.len
  nd := h.nd
  ob := fun n a u e1 e2 => ((h.junk (o := o) hp).ob n a u e1 e2).at_
  fr := fun b u e => by
    replace e : upd r.fr p o b = some u := e
    by_cases hb : b = p
    · rw [hb, upd_same] at e ⊢; exact e
    · rw [upd_ne hb] at e ⊢; exact h.fr b u e
  off := fun a u e => by
    replace e : upd r.fr p o a = some u := e
    by_cases hb : a = p
    · rw [hb]; exact ⟨h.fresh hp, h.notin hp⟩
    · rw [upd_ne hb] at e; exact h.off a u e
/-- what is held changes -/
theorem Rs.rehold {p : Addr} {o u : HO} {f : Hp} (h : Rs K ad S (r.at (upd f p o)) O H) : Rs K ad S (r.at (upd f p u)) O (upd H p u) where
  sub := same_upd h.sub (h.off p o upd_same).1
  len := h.len
  nd := h.nd
  ob := fun n a w e1 e2 => by
    have ne : a ≠ p := fun z => (h.off p o upd_same).2 (z ▸ List.mem_of_getElem? e1)
    have q := h.ob n a w e1 e2
    have q1 : RO K ad S r H a w := RO.at_ (r := r.at (upd f p o)) (f := r.fr) q
    exact (q1.mono (Ext.refl S r) (fun w q => by rw [upd_ne ne]; exact q) (fun q => q)).at_
  fr := fun b w e => by
    replace e : upd f p u b = some w := e
    by_cases hb : b = p
    · rw [hb, upd_same] at e ⊢; exact e
    · rw [upd_ne hb] at e ⊢
      exact h.fr b w (by show upd f p o b = some w; rw [upd_ne hb]; exact e)
  off := fun a w e => by
    replace e : upd f p u a = some w := e
    by_cases hb : a = p
    · rw [hb]; exact h.off p o upd_same
    · rw [upd_ne hb] at e
      exact h.off a w (by show upd f p o a = some w; rw [upd_ne hb]; exact e)
/-- it is let go -/
theorem Rs.unhold {p : Addr} {o : HO} (h : Rs K ad S (r.at (upd r.fr p o)) O H) (hf : r.fr p = none) : Rs K ad S r O H ∧ H p = some o ∧ S p = none ∧ p ∉ r.l := by
  refine ⟨⟨h.sub, h.len, h.nd, fun n a w e1 e2 => RO.at_ (r := r.at (upd r.fr p o)) (f := r.fr) (h.ob n a w e1 e2), fun b w e => ?_, fun a w e => ?_⟩, h.fr p o upd_same, (h.off p o upd_same).1, (h.off p o upd_same).2⟩
  · exact h.fr b w (by show upd r.fr p o b = some w; rw [upd_ne (ne_of_none e hf)]; exact e)
  · exact h.off a w (by show upd r.fr p o a = some w; rw [upd_ne (ne_of_none e hf)]; exact e)
/-- .. sealed -/
theorem Rs.sealAt {p : Addr} {o : HO} (h : Rs K ad S r O H) (hH : H p = some o) (hS : S p = none) (hl : p ∉ r.l) (hf : r.fr p = none) : Rs K ad (upd S p o) r O H where
  sub := fun b u e => by
    by_cases hb : b = p
    · rw [hb, upd_same] at e; rw [hb, hH]; exact e
    · rw [upd_ne hb] at e; exact h.sub b u e
  len := h.len
  nd := h.nd
  ob := fun n a ob e1 e2 => by
    have ne : a ≠ p := fun z => hl (by rw [← z]; exact List.mem_of_getElem? e1)
    exact (h.ob n a ob e1 e2).mono (Ext.new hS) (fun u q => q) (fun q => by rw [upd_ne ne]; exact q)
  fr := h.fr
  off := fun a u e => ⟨by rw [upd_ne (ne_of_none e hf)]; exact (h.off a u e).1, (h.off a u e).2⟩
/-- .. put into the store -/
theorem Rs.pushAt {p : Addr} {o : Ob} (h : Rs K ad S r O H) (ho : RO K ad S (r.push p) H p o) (hl : p ∉ r.l) (hf : r.fr p = none) : Rs K ad S (r.push p) (O ++ [o]) H where
  sub := h.sub
  len := by
    show (r.l ++ [p]).length = _
    rw [List.length_append, List.length_append, h.len]; rfl
  nd := by
    show (r.l ++ [p]).Nodup
    rw [List.nodup_append]
    refine ⟨h.nd, by simp, fun a ha b hb => ?_⟩
    obtain rfl : b = p := by simpa using hb
    exact fun z => hl (z ▸ ha)
  ob := fun n a ob e1 e2 => by
    replace e1 : (r.l ++ [p])[n]? = some a := e1
    by_cases hn : n < r.l.length
    · rw [List.getElem?_append_left hn] at e1
      rw [List.getElem?_append_left (by rw [← h.len]; exact hn)] at e2
      exact (h.ob n a ob e1 e2).grow
    · have hn' : n = r.l.length := by
        have := (List.getElem?_eq_some_iff.mp e1).1
        rw [List.length_append] at this
        simp at this
        omega
      subst hn'
      rw [List.getElem?_append_right (Nat.le_refl _)] at e1
      rw [h.len, List.getElem?_append_right (Nat.le_refl _)] at e2
      simp at e1 e2
      subst e1 e2
      exact ho
  fr := h.fr
  off := fun a u e => ⟨(h.off a u e).1, fun hm => by
    rcases List.mem_append.mp (show a ∈ r.l ++ [p] from hm) with hm | hm
    · exact (h.off a u e).2 hm
    · obtain rfl : a = p := by simpa using hm
      replace e : r.fr a = some u := e
      rw [hf] at e
      cases e⟩
end
/-- what else holds of the slots and of what stands for good -/
structure JP where
  p : St → Hp → Prop
  mono : ∀ {σ : St} {S S' : Hp}, Same S S' → p σ S → p σ S'
/-! ### posts -/
section
variable (K : PySem.W.Frag) (ad : Str → Addr)
def Post {α β : Type} (rep : Hp → Rg → α → β → Prop) (W : WX) (σ : St) (S : Hp) (r : Rg) (Q : β → Hp → Prop) : Res α → Prop
  | .ok a O => ∀ S' r' H v, Ext S r S' r' → Rs K ad S' r' O H → rep S' r' a v → Q v H
  | .exc x O => ∀ S' r' H d, Ext S r S' r' → Rs K ad S' r' O H → ExR K S' r' x d → W (.ref (ad x.cls)) d σ H
  | .bad => False
def tE (J : JP) (W : WX) (m : EM) : TE := fun σ H Q => ∃ S r L O, J.p σ S ∧ Rl K S r L σ ∧ Rs K ad S r O H ∧ Post K ad (fun S r => Rp K S r) W σ S r Q (m L O)
def tT (J : JP) (W : WX) (m : TM) : TT := fun σ H Q => ∃ S r L O, J.p σ S ∧ Rl K S r L σ ∧ Rs K ad S r O H ∧ Post K ad (fun _ _ a v => v = a) W σ S r Q (m L O)
def tA (J : JP) (W : WX) (m : AM) : TA := fun σ H Q => ∃ S r L O, J.p σ S ∧ Rl K S r L σ ∧ Rs K ad S r O H ∧ Post K ad (fun S r => RpAll K S r) W σ S r Q (m L O)
def PostS (J : JP) (W : WX) (S : Hp) (r : Rg) (En : Ends) : SR → Prop
  | .next L O => ∀ S' r' σ H, Ext S r S' r' → J.p σ S' → Rl K S' r' L σ → Rs K ad S' r' O H → En.nx σ H
  | .ret d O => ∀ S' r' H v, Ext S r S' r' → Rs K ad S' r' O H → Rp K S' r' d v → En.rt v H
  | .brk L O => ∀ S' r' σ H, Ext S r S' r' → J.p σ S' → Rl K S' r' L σ → Rs K ad S' r' O H → En.bk σ H
  | .cnt L O => ∀ S' r' σ H, Ext S r S' r' → J.p σ S' → Rl K S' r' L σ → Rs K ad S' r' O H → En.ct σ H
  | .exc x L O => ∀ S' r' σ H d, Ext S r S' r' → J.p σ S' → Rl K S' r' L σ → Rs K ad S' r' O H → ExR K S' r' x d → W (.ref (ad x.cls)) d σ H
  | .bad => False
def tS (J : JP) (W : WX) (m : SM) : TS := fun En σ H => ∃ S r L O, J.p σ S ∧ Rl K S r L σ ∧ Rs K ad S r O H ∧ PostS K ad J W S r En (m L O)
/-- the promise of a def that its mirror tells -/
def spM (n : Nat) (m : FM) : Sp := fun vs H Q E => ∃ S r O ds, ds.length = n ∧ Rs K ad S r O H ∧ RpAll K S r ds vs ∧ Post K ad (fun S r => Rp K S r) (fun c d _ H' => E c d H') [] S r Q (m ds O)
end
section
variable {K : PySem.W.Frag} {ad : Str → Addr} {α β γ δ : Type} {rep : Hp → Rg → α → β → Prop} {rep2 : Hp → Rg → γ → δ → Prop} {W : WX} {σ : St} {S S' : Hp} {r r' : Rg} {Q Q' : β → Hp → Prop} {x : Res α}
theorem Post.mono (e : Ext S r S' r') (h : Post K ad rep W σ S r Q x) : Post K ad rep W σ S' r' Q x := by
  cases x with
  | ok a O => exact fun S2 r2 H v e2 => h S2 r2 H v (e.trans e2)
  | exc a O => exact fun S2 r2 H v e2 => h S2 r2 H v (e.trans e2)
  | bad => exact h
theorem Post.imp (h : Post K ad rep W σ S r Q x) (k : ∀ v H, Q v H → Q' v H) : Post K ad rep W σ S r Q' x := by
  cases x with
  | ok a O => exact fun S2 r2 H v e2 s p => k _ _ (h S2 r2 H v e2 s p)
  | exc a O => exact h
  | bad => exact h
theorem Post.bind {R : δ → Hp → Prop} {f : α → Store → Res γ} (h : Post K ad rep2 W σ S r R (x.bind f)) :
    Post K ad rep W σ S r (fun v H => ∃ S' r' a O, Ext S r S' r' ∧ Rs K ad S' r' O H ∧ rep S' r' a v ∧ Post K ad rep2 W σ S' r' R (f a O)) x := by
  cases x with
  | ok a O => exact fun S2 r2 H v e2 s p => ⟨S2, r2, a, O, e2, s, p, Post.mono e2 h⟩
  | exc a O => exact h
  | bad => exact h
end
theorem pe_imp {X : Cx} {e : Expr} {t t' : TE} (h : PE X e t) (k : ∀ σ H Q, t' σ H Q → t σ H Q) : PE X e t' := ⟨fun pins s σ H Q I q => h.run pins s σ H Q I (k σ H Q q)⟩
theorem pt_imp {X : Cx} {e : Expr} {t t' : TT} (h : PT X e t) (k : ∀ σ H Q, t' σ H Q → t σ H Q) : PT X e t' := ⟨fun pins s σ H Q I q => h.run pins s σ H Q I (k σ H Q q)⟩
theorem pa_imp {X : Cx} {e : List Expr} {t t' : TA} (h : PA X e t) (k : ∀ σ H Q, t' σ H Q → t σ H Q) : PA X e t' := ⟨fun pos pins s σ H Q I q => h.run pos pins s σ H Q I (k σ H Q q)⟩
theorem ps_imp {X : Cx} {e : Stmt} {t t' : TS} (h : PS X e t) (k : ∀ En σ H, t' En σ H → t En σ H) : PS X e t' := ⟨fun pins s σ H En I q => h.run pins s σ H En I (k En σ H q)⟩
theorem pss_imp {X : Cx} {e : List Stmt} {t t' : TS} (h : PSs X e t) (k : ∀ En σ H, t' En σ H → t En σ H) : PSs X e t' := ⟨fun pins s σ H En I q => h.run pins s σ H En I (k En σ H q)⟩
end DK
end
section
set_option Elab.async false
set_option linter.all false
set_option autoImplicit false
set_option maxRecDepth 100000
set_option maxHeartbeats 4000000
/-! DKExp: expressions and tests, by mirrors. -/
namespace DK
open PySem L2
def ofO {α : Type} : Option (α × Store) → Res α
  | some (z, O) => .ok z O
  | none => .bad
/-! ### mirrors -/
def mVar (i : Nat) : EM := fun L O => match L[i]? with
  | some (some d) => .ok d O
  | _ => .bad
def mC (d : D) : EM := fun _ O => .ok d O
def mOp (g : Store → D → D → Option (D × Store)) (a b : EM) : EM := fun L O => (a L O).bind fun x O1 => (b L O1).bind fun y O2 => ofO (g O2 x y)
def mChain (g g' : Store → D → D → Option (D × Store)) (a b c : EM) : EM := fun L O => (a L O).bind fun x O1 => (b L O1).bind fun y O2 => (ofO (g O2 x y)).bind fun z O3 => match z with
  | .bl true => (c L O3).bind fun w O4 => ofO (g' O4 y w)
  | .bl false => .ok (.bl false) O3
  | _ => .bad
def mTest (a : EM) : TM := fun L O => (a L O).bind fun x O1 => match x with
  | .bl b => .ok b O1
  | _ => .bad
def truD (O : Store) : D → Option Bool
  | .non => some false
  | .bl b => some b
  | .int i => some (i != 0)
  | .str s => if s.length ≤ 1000000 then some ((s.length : Int) != 0) else none
  | .lst xs => some (!xs.isEmpty)
  | .rol xs => some (!xs.isEmpty)
  | .tup xs => some (!xs.isEmpty)
  | .hdl n => match O[n]? with
    | some (.lst xs) => some (!xs.isEmpty)
    | some (.dct xs) => some (!xs.isEmpty)
    | _ => none
def mTru (a : EM) : TM := fun L O => (a L O).bind fun x O1 => match truD O1 x with
  | some b => .ok b O1
  | none => .bad
def mAnd (a b : TM) : TM := fun L O => (a L O).bind fun c O1 => if c = true then b L O1 else .ok false O1
def mOr (a b : TM) : TM := fun L O => (a L O).bind fun c O1 => if c = true then .ok true O1 else b L O1
def mNot (a : TM) : TM := fun L O => (a L O).bind fun c O1 => .ok (!c) O1
def mIf (t : TM) (a b : EM) : EM := fun L O => (t L O).bind fun c O1 => if c = true then a L O1 else b L O1
/-- and, or, not of bools, as values -/
def mAndV (a b : EM) : EM := fun L O => (a L O).bind fun c O1 => match c with
  | .bl true => b L O1
  | .bl false => .ok (.bl false) O1
  | _ => .bad
def mOrV (a b : EM) : EM := fun L O => (a L O).bind fun c O1 => match c with
  | .bl true => .ok (.bl true) O1
  | .bl false => b L O1
  | _ => .bad
def mNotV (a : EM) : EM := fun L O => (a L O).bind fun c O1 => match c with
  | .bl b => .ok (.bl (!b)) O1
  | _ => .bad
def mNil : AM := fun _ O => .ok [] O
def mCons (a : EM) (t : AM) : AM := fun L O => (a L O).bind fun x O1 => (t L O1).bind fun xs O2 => .ok (x :: xs) O2
def mTup (t : AM) : EM := fun L O => (t L O).bind fun xs O1 => if xs.length ≤ 1000000 then .ok (.tup xs) O1 else .bad
/-- a new list: for good, or one of the store -/
def newL (h : Bool) (xs : List D) (O : Store) : Res D := if xs.length ≤ 1000000 then (if h = true then .ok (.hdl O.length) (O ++ [.lst xs]) else .ok (.lst xs) O) else .bad
def mLst (h : Bool) (t : AM) : EM := fun L O => (t L O).bind fun xs O1 => newL h xs O1
def mCall (g : Store → List D → Option (D × Store)) (t : AM) : EM := fun L O => (t L O).bind fun xs O1 => ofO (g O1 xs)
def mFn (f : FM) (ds : List D) (t : AM) : EM := fun L O => (t L O).bind fun xs O1 => f (xs ++ ds) O1
/-! ### the state's lists -/
def seqOf (O : Store) : D → Option (List D)
  | .lst xs => some xs
  | .rol xs => some xs
  | .tup xs => some xs
  | .hdl n => match O[n]? with
    | some (.lst xs) => some xs
    | _ => none
  | _ => none
/-- lists that are tracked -/
def lstOf (O : Store) : D → Option (List D)
  | .lst xs => some xs
  | .hdl n => match O[n]? with
    | some (.lst xs) => some xs
    | _ => none
  | _ => none
section
variable {K : PySem.W.Frag} {ad : Str → Addr} {S : Hp} {r : Rg} {O : Store} {H : Hp} {d : D} {x : V} {xs : List D}
theorem hdl_at (s : Rs K ad S r O H) {n : Nat} {o : Ob} (p : Rp K S r (.hdl n) x) (h : O[n]? = some o) : ∃ a, x = .ref a ∧ r.l[n]? = some a ∧ RO K ad S r H a o := by
  obtain ⟨a, e, q⟩ := p
  exact ⟨a, e, q, s.ob n a o q h⟩
theorem seqOf_ok (s : Rs K ad S r O H) (p : Rp K S r d x) (h : seqOf O d = some xs) : ∃ a vs, x = .ref a ∧ (SqL K H a vs ∨ SqT K H a vs) ∧ RpAll K S r xs vs := by
  cases d with
  | lst ds =>
    obtain rfl : ds = xs := Option.some.inj h
    obtain ⟨a, vs, e, q, w⟩ := p
    exact ⟨a, vs, e, .inl (.of (s.sub _ _ q)), w⟩
  | rol ds =>
    obtain rfl : ds = xs := Option.some.inj h
    obtain ⟨a, vs, e, q, w⟩ := p
    exact ⟨a, vs, e, .inl (sqL_same s.sub q), w⟩
  | tup ds =>
    obtain rfl : ds = xs := Option.some.inj h
    obtain ⟨a, vs, e, q, w⟩ := p
    exact ⟨a, vs, e, .inr (sqT_same s.sub q), w⟩
  | hdl n =>
    have h' : (match O[n]? with | some (Ob.lst xs) => some xs | _ => none) = some xs := h
    split at h'
    · rename_i zs e
      obtain rfl : zs = xs := Option.some.inj h'
      obtain ⟨a, e1, e2, _, vs, e3, e4⟩ := hdl_at s p e
      exact ⟨a, vs, e1, .inl (.of e3), e4⟩
    · cases h'
  | non => cases h
  | bl b => cases h
  | int i => cases h
  | str z => cases h
theorem lstOf_ok (s : Rs K ad S r O H) (p : Rp K S r d x) (h : lstOf O d = some xs) : ∃ a vs, x = .ref a ∧ H a = some (.lst vs) ∧ RpAll K S r xs vs := by
  cases d with
  | lst ds =>
    obtain rfl : ds = xs := Option.some.inj h
    obtain ⟨a, vs, e, q, w⟩ := p
    exact ⟨a, vs, e, s.sub _ _ q, w⟩
  | hdl n =>
    have h' : (match O[n]? with | some (Ob.lst xs) => some xs | _ => none) = some xs := h
    split at h'
    · rename_i zs e
      obtain rfl : zs = xs := Option.some.inj h'
      obtain ⟨a, e1, e2, _, vs, e3, e4⟩ := hdl_at s p e
      exact ⟨a, vs, e1, e3, e4⟩
    · cases h'
  | rol ds => cases h
  | tup ds => cases h
  | non => cases h
  | bl b => cases h
  | int i => cases h
  | str z => cases h
theorem million {n : Nat} (h : n ≤ 1000000) : n ≤ sizeLine := Nat.le_trans h (by decide)
theorem million_lt {n : Nat} (h : n ≤ 1000000) : n < sizeLine := Nat.lt_of_le_of_lt h (by decide)
/-- a new list comes -/
theorem newL_post {W : WX} {σ : L2.St} {hm : Bool} {Q : VK} {vs : List V} (s : Rs K ad S r O H) (p : RpAll K S r xs vs) (q : Post K ad (fun S r => Rp K S r) W σ S r Q (newL hm xs O)) : vs.length ≤ sizeLine ∧ ∀ l, H l = none → Q (.ref l) (upd H l (.lst vs)) := by
  unfold newL at q
  split at q
  · rename_i hl
    refine ⟨by rw [p.length]; exact million hl, fun l hn => ?_⟩
    cases hm with
    | true =>
      rw [if_pos rfl] at q
      refine q S (r.push l) _ _ (Ext.push S r l) (s.push hn ⟨s.fresh hn, vs, upd_same, RpAll.mono (Ext.push S r l) _ _ p⟩) ⟨l, rfl, ?_⟩
      show (r.l ++ [l])[O.length]? = some l
      rw [← s.len, List.getElem?_append_right (Nat.le_refl _)]
      simp
    | false =>
      rw [if_neg Bool.false_ne_true] at q
      exact q _ r _ _ (Ext.new (s.fresh hn)) (s.seal hn) ⟨l, vs, rfl, upd_same, RpAll.mono (Ext.new (s.fresh hn)) _ _ p⟩
  · exact q.elim
/-- a new tuple comes -/
theorem newT_post {W : WX} {σ : L2.St} {Q : VK} {vs : List V} (s : Rs K ad S r O H) (p : RpAll K S r xs vs) (q : Post K ad (fun S r => Rp K S r) W σ S r Q (.ok (.tup xs) O)) : ∀ l, H l = none → Q (.ref l) (upd H l (.tup vs)) := fun l hn =>
  q _ r _ _ (Ext.new (s.fresh hn)) (s.seal hn) ⟨l, vs, rfl, .of upd_same, RpAll.mono (Ext.new (s.fresh hn)) _ _ p⟩
end
/-! ### operators by values -/
structure OpD (X : Cx) (ad : Str → Addr) (f : Value → Value → Sem Value) (g : Store → D → D → Option (D × Store)) : Prop where
  ok : ∃ rr, OpR X f rr ∧ ∀ (S : Hp) (r : Rg) (O : Store) (H : Hp) (x y : V) (d e : D) (W : WX) (σ : L2.St) (Q : VK), Rs X.K ad S r O H → Rp X.K S r d x → Rp X.K S r e y →
    Post X.K ad (fun S r => Rp X.K S r) W σ S r Q (ofO (g O d e)) → rr x y H Q
structure CallD (X : Cx) (ad : Str → Addr) (f : Value) (g : Store → List D → Option (D × Store)) : Prop where
  ok : ∃ rr, CallR X f rr ∧ ∀ (S : Hp) (r : Rg) (O : Store) (H : Hp) (vs : List V) (ds : List D) (W : WX) (σ : L2.St) (Q : VK), Rs X.K ad S r O H → RpAll X.K S r ds vs →
    Post X.K ad (fun S r => Rp X.K S r) W σ S r Q (ofO (g O ds)) → rr vs H Q
section
variable {X : Cx} {ad : Str → Addr} {J : JP} {W : WX} {pos : Pos} {a b c e : Expr} {es : List Expr} {ma mb mc : EM} {ta tb : TM} {mt : AM} {op op' : CmpOp} {bop : Operator}
  {g g' : Store → D → D → Option (D × Store)}
theorem de_var {x : Str} {i : Nat} (h : PE X (.Name x pos) (tVar i)) : PE X (.Name x pos) (tE X.K ad J W (mVar i)) := by
  refine pe_imp h ?_
  rintro σ H Q ⟨S, r, L, O, j, rl, rs, p⟩
  unfold mVar at p
  split at p
  · rename_i d q
    obtain ⟨v, q1, q2⟩ := rl.at_ i d q
    exact ⟨v, q1, p S r H v (Ext.refl S r) rs q2⟩
  · exact p.elim
theorem de_c {v : V} {d : D} (h : PE X e (tC v)) (k : ∀ S r, Rp X.K S r d v) : PE X e (tE X.K ad J W (mC d)) := by
  refine pe_imp h ?_
  rintro σ H Q ⟨S, r, L, O, j, rl, rs, p⟩
  exact p S r H v (Ext.refl S r) rs (k S r)
theorem de_int {i : Int} {j : Nat} : PE X (.Constant (.int i) j pos) (tE X.K ad J W (mC (.int i))) := de_c pe_int fun _ _ => rfl
theorem de_bl {i : Bool} {j : Nat} : PE X (.Constant (.bool i) j pos) (tE X.K ad J W (mC (.bl i))) := de_c pe_bl fun _ _ => rfl
theorem de_str {i : Str} {j : Nat} : PE X (.Constant (.str i) j pos) (tE X.K ad J W (mC (.str i))) := de_c pe_str fun _ _ => rfl
theorem de_non {j : Nat} : PE X (.Constant .none j pos) (tE X.K ad J W (mC .non)) := de_c pe_non fun _ _ => rfl
theorem de_op (ho : OpD X ad (binaryOp bop) g) (ha : PE X a (tE X.K ad J W ma)) (hb : PE X b (tE X.K ad J W mb)) : PE X (.BinOp a bop b pos) (tE X.K ad J W (mOp g ma mb)) := by
  obtain ⟨rr, h1, h2⟩ := ho.ok
  refine pe_imp (pe_op h1 ha hb) ?_
  rintro σ H Q ⟨S, r, L, O, j, rl, rs, p⟩
  refine ⟨S, r, L, O, j, rl, rs, (Post.bind p).imp ?_⟩
  rintro x H1 ⟨S1, r1, d, O1, e1, s1, p1, q1⟩
  refine ⟨S1, r1, L, O1, J.mono e1.s j, rl.mono e1, s1, (Post.bind q1).imp ?_⟩
  rintro y H2 ⟨S2, r2, e, O2, e2, s2, p2, q2⟩
  exact h2 S2 r2 O2 H2 x y d e W σ Q s2 (Rp.mono e2 d x p1) p2 q2
theorem de_cmp (ho : OpD X ad (compareOp op) g) (ha : PE X a (tE X.K ad J W ma)) (hb : PE X b (tE X.K ad J W mb)) (hm : behindInMarks op b = false) : PE X (.Compare a [op] [b] pos) (tE X.K ad J W (mOp g ma mb)) := by
  obtain ⟨rr, h1, h2⟩ := ho.ok
  refine pe_imp (pe_cmpR h1 ha hb hm) ?_
  rintro σ H Q ⟨S, r, L, O, j, rl, rs, p⟩
  refine ⟨S, r, L, O, j, rl, rs, (Post.bind p).imp ?_⟩
  rintro x H1 ⟨S1, r1, d, O1, e1, s1, p1, q1⟩
  refine ⟨S1, r1, L, O1, J.mono e1.s j, rl.mono e1, s1, (Post.bind q1).imp ?_⟩
  rintro y H2 ⟨S2, r2, e, O2, e2, s2, p2, q2⟩
  exact h2 S2 r2 O2 H2 x y d e W σ Q s2 (Rp.mono e2 d x p1) p2 q2
theorem test_imp {t : TE} {m : EM} (h : ∀ σ H Q, tE X.K ad J W m σ H Q → t σ H Q) : ∀ σ H Q, tT X.K ad J W (mTest m) σ H Q → tTest t σ H Q := by
  rintro σ H Q ⟨S, r, L, O, j, rl, rs, p⟩
  refine h σ H _ ⟨S, r, L, O, j, rl, rs, (Post.bind p).imp ?_⟩
  rintro x H1 ⟨S1, r1, d, O1, e1, s1, p1, q1⟩
  cases d with
  | bl b => exact ⟨b, p1, q1 S1 r1 H1 b (Ext.refl _ _) s1 rfl⟩
  | non => exact q1.elim
  | int i => exact q1.elim
  | str s => exact q1.elim
  | lst s => exact q1.elim
  | rol s => exact q1.elim
  | tup s => exact q1.elim
  | hdl s => exact q1.elim
theorem dt_cmp (ho : OpD X ad (compareOp op) g) (ha : PE X a (tE X.K ad J W ma)) (hb : PE X b (tE X.K ad J W mb)) (hm : behindInMarks op b = false) : PT X (.Compare a [op] [b] pos) (tT X.K ad J W (mTest (mOp g ma mb))) := by
  obtain ⟨rr, h1, h2⟩ := ho.ok
  refine pt_imp (pt_cmpR h1 ha hb hm) (test_imp ?_)
  rintro σ H Q ⟨S, r, L, O, j, rl, rs, p⟩
  refine ⟨S, r, L, O, j, rl, rs, (Post.bind p).imp ?_⟩
  rintro x H1 ⟨S1, r1, d, O1, e1, s1, p1, q1⟩
  refine ⟨S1, r1, L, O1, J.mono e1.s j, rl.mono e1, s1, (Post.bind q1).imp ?_⟩
  rintro y H2 ⟨S2, r2, e, O2, e2, s2, p2, q2⟩
  exact h2 S2 r2 O2 H2 x y d e W σ Q s2 (Rp.mono e2 d x p1) p2 q2
theorem chain_imp {rr rr' : R2} (h2 : ∀ (S : Hp) (r : Rg) (O : Store) (H : Hp) (x y : V) (d e : D) (W : WX) (σ : L2.St) (Q : VK), Rs X.K ad S r O H → Rp X.K S r d x → Rp X.K S r e y → Post X.K ad (fun S r => Rp X.K S r) W σ S r Q (ofO (g O d e)) → rr x y H Q)
    (h3 : ∀ (S : Hp) (r : Rg) (O : Store) (H : Hp) (x y : V) (d e : D) (W : WX) (σ : L2.St) (Q : VK), Rs X.K ad S r O H → Rp X.K S r d x → Rp X.K S r e y → Post X.K ad (fun S r => Rp X.K S r) W σ S r Q (ofO (g' O d e)) → rr' x y H Q) :
    ∀ σ H Q, tE X.K ad J W (mChain g g' ma mb mc) σ H Q → tChain rr rr' (tE X.K ad J W ma) (tE X.K ad J W mb) (tE X.K ad J W mc) σ H Q := by
  rintro σ H Q ⟨S, r, L, O, j, rl, rs, p⟩
  refine ⟨S, r, L, O, j, rl, rs, (Post.bind p).imp ?_⟩
  rintro x H1 ⟨S1, r1, d, O1, e1, s1, p1, q1⟩
  refine ⟨S1, r1, L, O1, J.mono e1.s j, rl.mono e1, s1, (Post.bind q1).imp ?_⟩
  rintro y H2 ⟨S2, r2, e, O2, e2, s2, p2, q2⟩
  refine h2 S2 r2 O2 H2 x y d e W σ _ s2 (Rp.mono e2 d x p1) p2 ((Post.bind q2).imp ?_)
  rintro z H3 ⟨S3, r3, f, O3, e3, s3, p3, q3⟩
  cases f with
  | bl k =>
    refine ⟨k, p3, ?_⟩
    cases k with
    | true =>
      rw [if_pos rfl]
      refine ⟨S3, r3, L, O3, J.mono (e1.trans (e2.trans e3)).s j, rl.mono (e1.trans (e2.trans e3)), s3, (Post.bind q3).imp ?_⟩
      rintro w H4 ⟨S4, r4, f, O4, e4, s4, p4, q4⟩
      exact h3 S4 r4 O4 H4 y w e f W σ Q s4 (Rp.mono (e3.trans e4) e y p2) p4 q4
    | false =>
      rw [if_neg Bool.false_ne_true]
      exact q3 S3 r3 H3 _ (Ext.refl _ _) s3 rfl
  | non => exact q3.elim
  | int i => exact q3.elim
  | str s => exact q3.elim
  | lst s => exact q3.elim
  | rol s => exact q3.elim
  | tup s => exact q3.elim
  | hdl s => exact q3.elim
theorem de_chain (ho : OpD X ad (compareOp op) g) (ho' : OpD X ad (compareOp op') g') (ha : PE X a (tE X.K ad J W ma)) (hb : PE X b (tE X.K ad J W mb)) (hc : PE X c (tE X.K ad J W mc)) (hm : lastMarks [op, op'] [b, c] = false := by rfl) : PE X (.Compare a [op, op'] [b, c] pos) (tE X.K ad J W (mChain g g' ma mb mc)) := by
  obtain ⟨rr, h1, h2⟩ := ho.ok
  obtain ⟨rr', h1', h2'⟩ := ho'.ok
  exact pe_imp (pe_chain h1 h1' ha hb hc hm) (chain_imp h2 h2')
theorem dt_chain (ho : OpD X ad (compareOp op) g) (ho' : OpD X ad (compareOp op') g') (ha : PE X a (tE X.K ad J W ma)) (hb : PE X b (tE X.K ad J W mb)) (hc : PE X c (tE X.K ad J W mc)) (hm : lastMarks [op, op'] [b, c] = false := by rfl) : PT X (.Compare a [op, op'] [b, c] pos) (tT X.K ad J W (mTest (mChain g g' ma mb mc))) := by
  obtain ⟨rr, h1, h2⟩ := ho.ok
  obtain ⟨rr', h1', h2'⟩ := ho'.ok
  exact pt_imp (pt_chain h1 h1' ha hb hc hm) (test_imp (chain_imp h2 h2'))
theorem dt_val (h : PE X e (tE X.K ad J W ma)) (he : ∀ whole, isTrue e X.env whole = (do let v ← whole; standAt e.pos; holding [v] (truthy v)) := by intro _; rfl) : PT X e (tT X.K ad J W (mTest ma)) := by
  refine pt_imp (pt_val h he) ?_
  intro σ H Q q
  exact test_imp (J := J) (W := W) (fun _ _ _ z => z) σ H Q q
theorem dt_truth (h : PE X e (tE X.K ad J W ma)) (he : ∀ whole, isTrue e X.env whole = (do let v ← whole; standAt e.pos; holding [v] (truthy v)) := by intro _; rfl) : PT X e (tT X.K ad J W (mTru ma)) := by
  refine pt_imp (pt_truth h he) ?_
  rintro σ H Q ⟨S, r, L, O, j, rl, rs, p⟩
  refine ⟨S, r, L, O, j, rl, rs, (Post.bind p).imp ?_⟩
  rintro x H1 ⟨S1, r1, d, O1, e1, s1, p1, q1⟩
  have emp : ∀ {ds : List D} {vs : List V}, RpAll X.K S1 r1 ds vs → (!ds.isEmpty) = !vs.isEmpty := fun {ds vs} h => by
    cases ds with
    | nil => rw [show vs = [] from h]; rfl
    | cons d ds => obtain ⟨v, vr, rfl, _⟩ := h; rfl
  have empP : ∀ {ds : List (Key × D)} {vs : List (Key × V)}, RpP X.K S1 r1 ds vs → (!ds.isEmpty) = !vs.isEmpty := fun {ds vs} h => by
    cases ds with
    | nil => rw [show vs = [] from h]; rfl
    | cons d ds => obtain ⟨v, vr, rfl, _⟩ := h; rfl
  cases hd : truD O1 d with
  | none => rw [hd] at q1; exact q1.elim
  | some k =>
    rw [hd] at q1
    refine ⟨k, ?_, q1 S1 r1 H1 k (Ext.refl _ _) s1 rfl⟩
    cases d with
    | non => rw [show x = .non from p1]; exact (Option.some.inj hd).symm
    | bl b => rw [show x = .bl b from p1]; exact (Option.some.inj hd).symm
    | int i => rw [show x = .int i from p1]; exact (Option.some.inj hd).symm
    | str s =>
      rw [show x = .str s from p1]
      have hd' : (if s.length ≤ 1000000 then some ((s.length : Int) != 0) else none) = some k := hd
      split at hd'
      · rename_i hl
        exact ⟨million hl, (Option.some.inj hd').symm⟩
      · cases hd'
    | lst s =>
      obtain ⟨a, vs, rfl, q, w⟩ := p1
      exact .inl ⟨vs, .of (s1.sub _ _ q), by rw [← emp w]; exact (Option.some.inj hd).symm⟩
    | rol s =>
      obtain ⟨a, vs, rfl, q, w⟩ := p1
      exact .inl ⟨vs, sqL_same s1.sub q, by rw [← emp w]; exact (Option.some.inj hd).symm⟩
    | tup s =>
      obtain ⟨a, vs, rfl, q, w⟩ := p1
      exact .inr (.inl ⟨vs, sqT_same s1.sub q, by rw [← emp w]; exact (Option.some.inj hd).symm⟩)
    | hdl n =>
      have hd' : (match O1[n]? with | some (Ob.lst xs) => some (!xs.isEmpty) | some (Ob.dct xs) => some (!xs.isEmpty) | _ => none) = some k := hd
      split at hd'
      · rename_i zs e
        obtain ⟨a, rfl, e2, _, vs, e3, e4⟩ := hdl_at s1 p1 e
        exact .inl ⟨vs, .of e3, by rw [← emp e4]; exact (Option.some.inj hd').symm⟩
      · rename_i zs e
        obtain ⟨a, rfl, e2, _, vs, e3, e4⟩ := hdl_at s1 p1 e
        exact .inr (.inr ⟨vs, e3, by rw [← empP e4]; exact (Option.some.inj hd').symm⟩)
      · cases hd'
theorem PW.imp' {t t' : TT} (h : PW X e t) (k : ∀ σ H Q, t' σ H Q → t σ H Q) : PW X e t' := ⟨fun wh pins s σ H Q I q => h.run wh pins s σ H Q I (k σ H Q q)⟩
theorem and_imp : ∀ σ H Q, tT X.K ad J W (mAnd ta tb) σ H Q → tAnd (tT X.K ad J W ta) (tT X.K ad J W tb) σ H Q := by
  rintro σ H Q ⟨S, r, L, O, j, rl, rs, p⟩
  refine ⟨S, r, L, O, j, rl, rs, (Post.bind p).imp ?_⟩
  rintro k H1 ⟨S1, r1, d, O1, e1, s1, rfl, q1⟩
  cases k with
  | true =>
    rw [if_pos rfl] at q1 ⊢
    exact ⟨S1, r1, L, O1, J.mono e1.s j, rl.mono e1, s1, q1⟩
  | false =>
    rw [if_neg Bool.false_ne_true] at q1 ⊢
    exact q1 S1 r1 H1 false (Ext.refl _ _) s1 rfl
theorem or_imp : ∀ σ H Q, tT X.K ad J W (mOr ta tb) σ H Q → tOr (tT X.K ad J W ta) (tT X.K ad J W tb) σ H Q := by
  rintro σ H Q ⟨S, r, L, O, j, rl, rs, p⟩
  refine ⟨S, r, L, O, j, rl, rs, (Post.bind p).imp ?_⟩
  rintro k H1 ⟨S1, r1, d, O1, e1, s1, rfl, q1⟩
  cases k with
  | false =>
    rw [if_neg Bool.false_ne_true] at q1 ⊢
    exact ⟨S1, r1, L, O1, J.mono e1.s j, rl.mono e1, s1, q1⟩
  | true =>
    rw [if_pos rfl] at q1 ⊢
    exact q1 S1 r1 H1 true (Ext.refl _ _) s1 rfl
theorem dw_and1 (ha : PT X a (tT X.K ad J W ta)) : PW X (.BoolOp .And [a] pos) (tT X.K ad J W ta) := pw_and1 ha
theorem dw_or1 (ha : PT X a (tT X.K ad J W ta)) : PW X (.BoolOp .Or [a] pos) (tT X.K ad J W ta) := pw_or1 ha
theorem dw_and (ha : PT X a (tT X.K ad J W ta)) (hb : PW X (.BoolOp .And (b :: es) pos) (tT X.K ad J W tb)) : PW X (.BoolOp .And (a :: b :: es) pos) (tT X.K ad J W (mAnd ta tb)) := PW.imp' (pw_and ha hb) and_imp
theorem dw_or (ha : PT X a (tT X.K ad J W ta)) (hb : PW X (.BoolOp .Or (b :: es) pos) (tT X.K ad J W tb)) : PW X (.BoolOp .Or (a :: b :: es) pos) (tT X.K ad J W (mOr ta tb)) := PW.imp' (pw_or ha hb) or_imp
theorem dt_not (ha : PT X a (tT X.K ad J W ta)) : PT X (.UnaryOp .Not a pos) (tT X.K ad J W (mNot ta)) := by
  refine pt_imp (pt_not ha) ?_
  rintro σ H Q ⟨S, r, L, O, j, rl, rs, p⟩
  refine ⟨S, r, L, O, j, rl, rs, (Post.bind p).imp ?_⟩
  rintro k H1 ⟨S1, r1, d, O1, e1, s1, rfl, q1⟩
  exact q1 S1 r1 H1 _ (Ext.refl _ _) s1 rfl
theorem de_if (hc : PT X c (tT X.K ad J W ta)) (ha : PE X a (tE X.K ad J W ma)) (hb : PE X b (tE X.K ad J W mb)) : PE X (.IfExp c a b pos) (tE X.K ad J W (mIf ta ma mb)) := by
  refine pe_imp (pe_ifExp hc ha hb) ?_
  rintro σ H Q ⟨S, r, L, O, j, rl, rs, p⟩
  refine ⟨S, r, L, O, j, rl, rs, (Post.bind p).imp ?_⟩
  rintro k H1 ⟨S1, r1, d, O1, e1, s1, rfl, q1⟩
  cases k with
  | false =>
    rw [if_neg Bool.false_ne_true] at q1 ⊢
    exact ⟨S1, r1, L, O1, J.mono e1.s j, rl.mono e1, s1, q1⟩
  | true =>
    rw [if_pos rfl] at q1 ⊢
    exact ⟨S1, r1, L, O1, J.mono e1.s j, rl.mono e1, s1, q1⟩
theorem de_and1 (ha : PE X a (tE X.K ad J W ma)) {bo : BoolOp} : PE X (.BoolOp bo [a] pos) (tE X.K ad J W ma) := pe_one ha
theorem de_and (ha : PE X a (tE X.K ad J W ma)) (hb : PE X (.BoolOp .And (b :: es) pos) (tE X.K ad J W mb)) : PE X (.BoolOp .And (a :: b :: es) pos) (tE X.K ad J W (mAndV ma mb)) := by
  refine pe_imp (pe_and ha hb) ?_
  rintro σ H Q ⟨S, r, L, O, j, rl, rs, p⟩
  refine ⟨S, r, L, O, j, rl, rs, (Post.bind p).imp ?_⟩
  rintro x H1 ⟨S1, r1, d, O1, e1, s1, p1, q1⟩
  cases d with
  | bl k =>
    refine ⟨k, p1, ?_⟩
    cases k with
    | true =>
      rw [if_pos rfl]
      exact ⟨S1, r1, L, O1, J.mono e1.s j, rl.mono e1, s1, q1⟩
    | false =>
      rw [if_neg Bool.false_ne_true]
      exact q1 S1 r1 H1 _ (Ext.refl _ _) s1 rfl
  | non => exact q1.elim
  | int i => exact q1.elim
  | str s => exact q1.elim
  | lst s => exact q1.elim
  | rol s => exact q1.elim
  | tup s => exact q1.elim
  | hdl s => exact q1.elim
theorem de_or (ha : PE X a (tE X.K ad J W ma)) (hb : PE X (.BoolOp .Or (b :: es) pos) (tE X.K ad J W mb)) : PE X (.BoolOp .Or (a :: b :: es) pos) (tE X.K ad J W (mOrV ma mb)) := by
  refine pe_imp (pe_or ha hb) ?_
  rintro σ H Q ⟨S, r, L, O, j, rl, rs, p⟩
  refine ⟨S, r, L, O, j, rl, rs, (Post.bind p).imp ?_⟩
  rintro x H1 ⟨S1, r1, d, O1, e1, s1, p1, q1⟩
  cases d with
  | bl k =>
    refine ⟨k, p1, ?_⟩
    cases k with
    | false =>
      rw [if_neg Bool.false_ne_true]
      exact ⟨S1, r1, L, O1, J.mono e1.s j, rl.mono e1, s1, q1⟩
    | true =>
      rw [if_pos rfl]
      exact q1 S1 r1 H1 _ (Ext.refl _ _) s1 rfl
  | non => exact q1.elim
  | int i => exact q1.elim
  | str s => exact q1.elim
  | lst s => exact q1.elim
  | rol s => exact q1.elim
  | tup s => exact q1.elim
  | hdl s => exact q1.elim
theorem da_nil : PA X [] (tA X.K ad J W mNil) := by
  refine pa_imp pa_nil ?_
  rintro σ H Q ⟨S, r, L, O, j, rl, rs, p⟩
  exact p S r H [] (Ext.refl _ _) rs rfl
theorem da_cons (he : PE X e (tE X.K ad J W ma)) (ht : PA X es (tA X.K ad J W mt)) (hs : starEach (e :: es) X.env = (false, eval e X.env) :: starEach es X.env := by rfl) : PA X (e :: es) (tA X.K ad J W (mCons ma mt)) := by
  refine pa_imp (pa_cons he ht hs) ?_
  rintro σ H Q ⟨S, r, L, O, j, rl, rs, p⟩
  refine ⟨S, r, L, O, j, rl, rs, (Post.bind p).imp ?_⟩
  rintro x H1 ⟨S1, r1, d, O1, e1, s1, p1, q1⟩
  refine ⟨S1, r1, L, O1, J.mono e1.s j, rl.mono e1, s1, (Post.bind q1).imp ?_⟩
  rintro xs H2 ⟨S2, r2, ds, O2, e2, s2, p2, q2⟩
  exact q2 S2 r2 H2 _ (Ext.refl _ _) s2 (.cons (Rp.mono e2 d x p1) p2)
theorem de_tup {k : Nat} (h : PA X es (tA X.K ad J W mt)) : PE X (.Tuple es k pos) (tE X.K ad J W (mTup mt)) := by
  refine pe_imp (pe_tup h) ?_
  rintro σ H Q ⟨S, r, L, O, j, rl, rs, p⟩
  refine ⟨S, r, L, O, j, rl, rs, (Post.bind p).imp ?_⟩
  rintro xs H1 ⟨S1, r1, ds, O1, e1, s1, p1, q1⟩
  have q1 : Post X.K ad (fun S r => Rp X.K S r) W σ S1 r1 Q (if ds.length ≤ 1000000 then .ok (.tup ds) O1 else .bad) := q1
  split at q1
  · rename_i hl
    exact ⟨by rw [p1.length]; exact million hl, newT_post s1 p1 q1⟩
  · exact q1.elim
theorem de_lst {hm : Bool} (h : PA X es (tA X.K ad J W mt)) : PE X (.List es pos) (tE X.K ad J W (mLst hm mt)) := by
  refine pe_imp (pe_lst h) ?_
  rintro σ H Q ⟨S, r, L, O, j, rl, rs, p⟩
  refine ⟨S, r, L, O, j, rl, rs, (Post.bind p).imp ?_⟩
  rintro xs H1 ⟨S1, r1, ds, O1, e1, s1, p1, q1⟩
  exact newL_post s1 p1 q1
theorem de_callB {gc : Store → List D → Option (D × Store)} {x : Str} {id : String} {p : Pos} (hc : CallD X ad (.builtin id) gc) (hg : Gl X x) (hm : X.mg x = none) (hv : bootBuiltins x = some (.builtin id)) (ha : PA X (e :: es) (tA X.K ad J W mt))
    (hn : x ≠ "__name__" := by decide) (hdb : (x == ("__debug__" : Str)) = false := by decide)
    (he : starEach (e :: es) X.env = (false, eval e X.env) :: starEach es X.env := by rfl) (hpl : (backTo pos (starEach es X.env)).any (·.1) = false := by rfl) : PE X (.Call (.Name x p) (e :: es) [] pos) (tE X.K ad J W (mCall gc mt)) := by
  obtain ⟨rr, h1, h2⟩ := hc.ok
  refine pe_imp (pe_callB h1 hg hm hv ha hn hdb he hpl) ?_
  rintro σ H Q ⟨S, r, L, O, j, rl, rs, p⟩
  refine ⟨S, r, L, O, j, rl, rs, (Post.bind p).imp ?_⟩
  rintro xs H1 ⟨S1, r1, ds, O1, e1, s1, p1, q1⟩
  exact h2 S1 r1 O1 H1 xs ds W σ Q s1 p1 q1
theorem de_callTy {gc : Store → List D → Option (D × Store)} {x : Str} {T : String} {p : Pos} (hc : CallD X ad (.type T) gc) (hg : Gl X x) (hm : X.mg x = none) (hv : bootBuiltins x = some (.type T)) (ha : PA X (e :: es) (tA X.K ad J W mt))
    (hn : x ≠ "__name__" := by decide) (hdb : (x == ("__debug__" : Str)) = false := by decide)
    (he : starEach (e :: es) X.env = (false, eval e X.env) :: starEach es X.env := by rfl) (hpl : (backTo pos (starEach es X.env)).any (·.1) = false := by rfl) : PE X (.Call (.Name x p) (e :: es) [] pos) (tE X.K ad J W (mCall gc mt)) := by
  obtain ⟨rr, h1, h2⟩ := hc.ok
  refine pe_imp (pe_callTy h1 hg hm hv ha hn hdb he hpl) ?_
  rintro σ H Q ⟨S, r, L, O, j, rl, rs, p⟩
  refine ⟨S, r, L, O, j, rl, rs, (Post.bind p).imp ?_⟩
  rintro xs H1 ⟨S1, r1, ds, O1, e1, s1, p1, q1⟩
  exact h2 S1 r1 O1 H1 xs ds W σ Q s1 p1 q1
/-- a def of the text is called -/
theorem spM_of {n : Nat} {f : FM} {S : Hp} {r : Rg} {O : Store} {H : Hp} {ds : List D} {vs : List V} {σ : L2.St} {Q : VK} (hl : ds.length = n) (s : Rs X.K ad S r O H) (p : RpAll X.K S r ds vs) (q : Post X.K ad (fun S r => Rp X.K S r) W σ S r Q (f ds O)) : spM X.K ad n f vs H Q (WE W σ) := by
  refine ⟨S, r, O, ds, hl, s, p, ?_⟩
  generalize f ds O = z at q
  cases z with
  | ok a O => exact q
  | exc x O => exact q
  | bad => exact q
/-- the number of arguments is checked by the mirror -/
def arity (n : Nat) (f : FM) : FM := fun ds O => if ds.length = n then f ds O else .bad
theorem spM_ar {n : Nat} {f : FM} {S : Hp} {r : Rg} {O : Store} {H : Hp} {ds : List D} {vs : List V} {σ : L2.St} {Q : VK} (s : Rs X.K ad S r O H) (p : RpAll X.K S r ds vs) (q : Post X.K ad (fun S r => Rp X.K S r) W σ S r Q (arity n f ds O)) : spM X.K ad n f vs H Q (WE W σ) := by
  unfold arity at q
  split at q
  · rename_i hl
    exact spM_of hl s p q
  · exact q.elim
theorem de_call {k n : Nat} {f : Addr} {fd : FuncData} {ps : List Str} {m : FM} {dvs : List V} {dds : List D} {ds : List Value} {x : Str} {p : Pos} (F : FnOk X.prog X.w X.K X.mg X.base (L2.CX X.prog X.w) k f fd ps (spM X.K ad n m)) (hr : Room k X.A) (hg : Gl X x) (hm : X.mg x = some (.ref f)) (hk : PySem.W.keepIn X.K (.ref f) = true)
    (hb : Binds X.K fd ps ds) (hd : Vals dvs ds) (hdd : ∀ S r, RpAll X.K S r dds dvs) (tk : Takes X W) (ha : PA X (e :: es) (tA X.K ad J W mt)) (hdb : (x == ("__debug__" : Str)) = false := by decide)
    (he : starEach (e :: es) X.env = (false, eval e X.env) :: starEach es X.env := by rfl) (hpl : (backTo pos (starEach es X.env)).any (·.1) = false := by rfl) :
    PE X (.Call (.Name x p) (e :: es) [] pos) (tE X.K ad J W (mFn (arity n m) dds mt)) := by
  refine pe_imp (pe_callSD F hr hg hm hk hb hd (fun σ => passAt tk σ) ha hdb he hpl) ?_
  rintro σ H Q ⟨S, r, L, O, j, rl, rs, p⟩
  refine ⟨S, r, L, O, j, rl, rs, (Post.bind p).imp ?_⟩
  rintro xs H1 ⟨S1, r1, ds, O1, e1, s1, p1, q1⟩
  exact spM_ar s1 (p1.append (hdd S1 r1)) q1
end
end DK
end
section
set_option Elab.async false
set_option linter.all false
set_option autoImplicit false
set_option maxRecDepth 100000
set_option maxHeartbeats 4000000
/-! DKStm: statements, loops, defs, by mirrors. -/
namespace DK
open PySem L2
def ofRes {α : Type} (L : Loc) (x : Res α) (f : α → Store → SR) : SR := match x with
  | .ok a O => f a O
  | .exc x O => .exc x L O
  | .bad => .bad
def sNext : SM := fun L O => .next L O
def sSeq (a b : SM) : SM := fun L O => match a L O with
  | .next L1 O1 => b L1 O1
  | .ret d O1 => .ret d O1
  | .brk L1 O1 => .brk L1 O1
  | .cnt L1 O1 => .cnt L1 O1
  | .exc x L1 O1 => .exc x L1 O1
  | .bad => .bad
def sDrop (m : EM) : SM := fun L O => ofRes L (m L O) fun _ O1 => .next L O1
def sRet (m : EM) : SM := fun L O => ofRes L (m L O) fun d O1 => .ret d O1
def sRetN : SM := fun _ O => .ret .non O
def sIf (t : TM) (a b : SM) : SM := fun L O => ofRes L (t L O) fun c O1 => if c = true then a L O1 else b L O1
/-- a target: what a value makes of slots and store -/
abbrev BM := D → Loc → Store → Option (Loc × Store)
abbrev BsM := List D → Loc → Store → Option (Loc × Store)
def bName (i : Nat) : BM := fun d L O => some (L.set i (some d), O)
def bNil : BsM := fun ds L O => match ds with
  | [] => some (L, O)
  | _ => none
def bCons (b : BM) (c : BsM) : BsM := fun ds L O => match ds with
  | d :: ds => (b d L O).bind fun p => c ds p.1 p.2
  | [] => none
def bTup (n : Nat) (c : BsM) : BM := fun d L O => match d with
  | .tup ds => if ds.length = n then c ds L O else none
  | _ => none
def ofB : Option (Loc × Store) → SR
  | some p => .next p.1 p.2
  | none => .bad
def sAsg (m : EM) (b : BM) : SM := fun L O => ofRes L (m L O) fun d O1 => ofB (b d L O1)
/-- a turn of a loop -/
def turnOf (b : BM) (body : SM) (d : D) : SM := fun L O => match b d L O with
  | some p => body p.1 p.2
  | none => .bad
def loopD (turn : D → SM) : List D → SM
  | [], L, O => .next L O
  | d :: ds, L, O => match turn d L O with
    | .next L1 O1 => loopD turn ds L1 O1
    | .cnt L1 O1 => loopD turn ds L1 O1
    | .brk L1 O1 => .next L1 O1
    | .ret d O1 => .ret d O1
    | .exc x L1 O1 => .exc x L1 O1
    | .bad => .bad
/-- over a list of the store -/
def loopH (turn : D → SM) (n : Nat) : Nat → Nat → SM
  | 0, i, L, O => match O[n]? with
    | some (.lst xs) => if xs.length ≤ i then .next L O else .bad
    | _ => .bad
  | k + 1, i, L, O => match O[n]? with
    | some (.lst xs) => match xs[i]? with
      | some d => match turn d L O with
        | .next L1 O1 => loopH turn n k (i + 1) L1 O1
        | .cnt L1 O1 => loopH turn n k (i + 1) L1 O1
        | .brk L1 O1 => .next L1 O1
        | .ret d O1 => .ret d O1
        | .exc x L1 O1 => .exc x L1 O1
        | .bad => .bad
      | none => .next L O
    | _ => .bad
def sForL (m : EM) (b : BM) (body : SM) : SM := fun L O => ofRes L (m L O) fun d O1 => match d with
  | .lst ds => loopD (turnOf b body) ds L O1
  | .rol ds => loopD (turnOf b body) ds L O1
  | .hdl n => match O1[n]? with
    | some (.lst xs) => loopH (turnOf b body) n xs.length 0 L O1
    | _ => .bad
  | _ => .bad
def rangeD (lo : Int) (n : Nat) : List D := (List.range n).map fun (i : Nat) => .int (lo + (i : Int))
def int1 : List D → Option Int
  | [.int j] => if -1000000000000 ≤ j ∧ j ≤ 1000000000000 then some j else none
  | _ => none
def int2 : List D → Option (Int × Int)
  | [.int i, .int j] => if (-1000000000000 ≤ i ∧ i ≤ 1000000000000) ∧ (-1000000000000 ≤ j ∧ j ≤ 1000000000000) then some (i, j) else none
  | _ => none
theorem int1_ok {ds : List D} {j : Int} (h : int1 ds = some j) : ds = [.int j] ∧ -1000000000000 ≤ j ∧ j ≤ 1000000000000 := by
  unfold int1 at h
  split at h
  · split at h
    · cases h; exact ⟨rfl, by assumption⟩
    · cases h
  · cases h
theorem int2_ok {ds : List D} {p : Int × Int} (h : int2 ds = some p) : ds = [.int p.1, .int p.2] ∧ (-1000000000000 ≤ p.1 ∧ p.1 ≤ 1000000000000) ∧ (-1000000000000 ≤ p.2 ∧ p.2 ≤ 1000000000000) := by
  unfold int2 at h
  split at h
  · split at h
    · cases h; exact ⟨rfl, by assumption⟩
    · cases h
  · cases h
def sForR1 (t : AM) (b : BM) (body : SM) : SM := fun L O => ofRes L (t L O) fun ds O1 => match int1 ds with
  | some j => loopD (turnOf b body) (rangeD 0 j.toNat) L O1
  | none => .bad
def sForR2 (t : AM) (b : BM) (body : SM) : SM := fun L O => ofRes L (t L O) fun ds O1 => match int2 ds with
  | some p => loopD (turnOf b body) (rangeD p.1 (p.2 - p.1).toNat) L O1
  | none => .bad
/-- a def by its body -/
def runF (n : Nat) (b : SM) : FM := fun ds O => match b (ds.map some ++ List.replicate (n - ds.length) none) O with
  | .next _ O1 => .ok .non O1
  | .ret d O1 => .ok d O1
  | .exc x _ O1 => .exc x O1
  | _ => .bad
section
variable {K : PySem.W.Frag} {ad : Str → Addr} {J : JP} {W : WX} {S S' : Hp} {r r' : Rg} {En : Ends} {L : Loc} {σ : L2.St} {α β : Type} {rep : Hp → Rg → α → β → Prop}
theorem PostS.mono {x : SR} (e : Ext S r S' r') (h : PostS K ad J W S r En x) : PostS K ad J W S' r' En x := by
  cases x with
  | next L O => exact fun S2 r2 σ H e2 => h S2 r2 σ H (e.trans e2)
  | ret d O => exact fun S2 r2 H v e2 => h S2 r2 H v (e.trans e2)
  | brk L O => exact fun S2 r2 σ H e2 => h S2 r2 σ H (e.trans e2)
  | cnt L O => exact fun S2 r2 σ H e2 => h S2 r2 σ H (e.trans e2)
  | exc x L O => exact fun S2 r2 σ H d e2 => h S2 r2 σ H d (e.trans e2)
  | bad => exact h
theorem bindS {x : Res α} {f : α → Store → SR} (j : J.p σ S) (rl : Rl K S r L σ) (h : PostS K ad J W S r En (ofRes L x f)) :
    Post K ad rep W σ S r (fun v H => ∃ S' r' a O, Ext S r S' r' ∧ Rs K ad S' r' O H ∧ rep S' r' a v ∧ PostS K ad J W S' r' En (f a O)) x := by
  cases x with
  | ok a O => exact fun S2 r2 H v e2 s p => ⟨S2, r2, a, O, e2, s, p, PostS.mono e2 h⟩
  | exc a O => exact fun S2 r2 H d e2 s p => h S2 r2 σ H d e2 (J.mono e2.s j) (rl.mono e2) s p
  | bad => exact h
theorem Rl.set {d : D} {v : V} (i : Nat) (h : Rl K S r L σ) (p : Rp K S r d v) : Rl K S r (L.set i (some d)) (σ.set i (some v)) where
  len := by rw [List.length_set, List.length_set]; exact h.len
  at_ := fun j e q => by
    by_cases hj : i = j
    · subst hj
      by_cases hl : i < L.length
      · rw [List.getElem?_set_self hl] at q
        cases q
        exact ⟨v, List.getElem?_set_self (by rw [h.len]; exact hl), p⟩
      · rw [List.getElem?_eq_none (by rw [List.length_set]; omega)] at q
        cases q
    · rw [List.getElem?_set_ne hj] at q
      rw [List.getElem?_set_ne hj]
      exact h.at_ j e q
theorem Rl.wipe (i : Nat) (o : Option V) (h : Rl K S r L σ) : Rl K S r (L.set i none) (σ.set i o) where
  len := by rw [List.length_set, List.length_set]; exact h.len
  at_ := fun j e q => by
    by_cases hj : i = j
    · subst hj
      by_cases hl : i < L.length
      · rw [List.getElem?_set_self hl] at q
        cases q
      · rw [List.getElem?_eq_none (by rw [List.length_set]; omega)] at q
        cases q
    · rw [List.getElem?_set_ne hj] at q
      rw [List.getElem?_set_ne hj]
      exact h.at_ j e q
end
abbrev JT : JP := ⟨fun _ _ => True, fun _ _ => trivial⟩
/-! ### small statements -/
section
variable {X : Cx} {ad : Str → Addr} {J : JP} {W : WX} {pos : Pos} {a b c e tg iter : Expr} {es : List Expr} {m : EM} {mt : AM} {tm : TM} {st : Stmt} {rest body els : List Stmt} {s1 s2 : SM} {bm : BM} {bs : BsM}
theorem dss_nil : PSs X [] (tS X.K ad J W sNext) := by
  refine pss_imp pss_nil ?_
  rintro En σ H ⟨S, r, L, O, j, rl, rs, p⟩
  exact p S r σ H (Ext.refl _ _) j rl rs
theorem dss_cons (h1 : PS X st (tS X.K ad J W s1)) (h2 : PSs X rest (tS X.K ad J W s2)) : PSs X (st :: rest) (tS X.K ad J W (sSeq s1 s2)) := by
  refine pss_imp (pss_cons h1 h2) ?_
  rintro En σ H ⟨S, r, L, O, j, rl, rs, p⟩
  refine ⟨S, r, L, O, j, rl, rs, ?_⟩
  unfold sSeq at p
  generalize s1 L O = z at p
  cases z with
  | next L1 O1 => exact fun S1 r1 σ1 H1 e1 j1 l1 q1 => ⟨S1, r1, L1, O1, j1, l1, q1, PostS.mono e1 p⟩
  | ret d O1 => exact p
  | brk L1 O1 => exact p
  | cnt L1 O1 => exact p
  | exc x L1 O1 => exact p
  | bad => exact p
theorem dss_one (h1 : PS X st (tS X.K ad J W s1)) : PSs X [st] (tS X.K ad J W s1) := pss_one h1
theorem ds_expr (he : PE X e (tE X.K ad J W m)) (hs : swapsWith e none pos.line X.env = pure false := by rfl) : PS X (.Expr e pos) (tS X.K ad J W (sDrop m)) := by
  refine ps_imp (ps_expr he hs) ?_
  rintro En σ H ⟨S, r, L, O, j, rl, rs, p⟩
  refine ⟨S, r, L, O, j, rl, rs, (bindS j rl p).imp ?_⟩
  rintro x H1 ⟨S1, r1, d, O1, e1, q1, p1, k1⟩
  exact k1 S1 r1 σ H1 (Ext.refl _ _) (J.mono e1.s j) (rl.mono e1) q1
theorem ds_ret (he : PE X e (tE X.K ad J W m)) : PS X (.Return (some e) pos) (tS X.K ad J W (sRet m)) := by
  refine ps_imp (ps_ret he) ?_
  rintro En σ H ⟨S, r, L, O, j, rl, rs, p⟩
  refine ⟨S, r, L, O, j, rl, rs, (bindS j rl p).imp ?_⟩
  rintro x H1 ⟨S1, r1, d, O1, e1, q1, p1, k1⟩
  exact k1 S1 r1 H1 x (Ext.refl _ _) q1 p1
theorem ds_if (hc : PT X c (tT X.K ad J W tm)) (ha : PSs X body (tS X.K ad J W s1)) (hb : PSs X els (tS X.K ad J W s2)) : PS X (.If c body els pos) (tS X.K ad J W (sIf tm s1 s2)) := by
  refine ps_imp (ps_if hc ha hb) ?_
  rintro En σ H ⟨S, r, L, O, j, rl, rs, p⟩
  refine ⟨S, r, L, O, j, rl, rs, (bindS j rl p).imp ?_⟩
  rintro k H1 ⟨S1, r1, d, O1, e1, q1, rfl, k1⟩
  cases k with
  | true =>
    rw [if_pos rfl] at k1 ⊢
    exact ⟨S1, r1, L, O1, J.mono e1.s j, rl.mono e1, q1, k1⟩
  | false =>
    rw [if_neg Bool.false_ne_true] at k1 ⊢
    exact ⟨S1, r1, L, O1, J.mono e1.s j, rl.mono e1, q1, k1⟩
/-! ### targets -/
def PostB (K : PySem.W.Frag) (ad : Str → Addr) (J : JP) (S : Hp) (r : Rg) (Q : L2.St → Hp → Prop) : Option (Loc × Store) → Prop
  | some p => ∀ S' r' σ H, Ext S r S' r' → J.p σ S' → Rl K S' r' p.1 σ → Rs K ad S' r' p.2 H → Q σ H
  | none => False
def tG (K : PySem.W.Frag) (ad : Str → Addr) (J : JP) (b : BM) : TG := fun v σ H Q => ∃ S r L O d, J.p σ S ∧ Rl K S r L σ ∧ Rs K ad S r O H ∧ Rp K S r d v ∧ PostB K ad J S r Q (b d L O)
def tGs (K : PySem.W.Frag) (ad : Str → Addr) (J : JP) (b : BsM) : TGs := fun vs σ H Q => ∃ S r L O ds, J.p σ S ∧ Rl K S r L σ ∧ Rs K ad S r O H ∧ RpAll K S r ds vs ∧ PostB K ad J S r Q (b ds L O)
theorem PostB.mono {S S' : Hp} {r r' : Rg} {Q : L2.St → Hp → Prop} {x : Option (Loc × Store)} (e : Ext S r S' r') (h : PostB X.K ad J S r Q x) : PostB X.K ad J S' r' Q x := by
  cases x with
  | some p => exact fun S2 r2 σ H e2 => h S2 r2 σ H (e.trans e2)
  | none => exact h
theorem pg_imp {t t' : TG} (h : PG X tg t) (k : ∀ v σ H Q, t' v σ H Q → t v σ H Q) : PG X tg t' := ⟨fun pins s σ H v u Q I r q => h.run pins s σ H v u Q I r (k v σ H Q q)⟩
theorem pgs_imp {t t' : TGs} (h : PGs X es t) (k : ∀ v σ H Q, t' v σ H Q → t v σ H Q) : PGs X es t' := ⟨fun pins s σ H v u Q I r q => h.run pins s σ H v u Q I r (k v σ H Q q)⟩
theorem dg_name {i : Nat} {x : Str} (hN : X.N.Nodup) (hi : X.N[i]? = some x) (hx : L2.Loc X.env.scope x) (hJ : ∀ (σ : L2.St) (v : V) (S : Hp), J.p σ S → J.p (σ.set i (some v)) S := by intro _ _ _ _; trivial) (hf : X.fn x = true ∨ X.env.scope.names.lookup x = some .local := by first | exact .inl rfl | exact .inr rfl | assumption) :
    PG X (.Name x pos) (tG X.K ad J (bName i)) := by
  refine pg_imp (pg_name hN hi hx hf) ?_
  rintro v σ H Q ⟨S, r, L, O, d, j, rl, rs, rp, p⟩
  exact p S r _ H (Ext.refl _ _) (hJ _ _ _ j) (rl.set i rp) rs
theorem dgs_nil : PGs X [] (tGs X.K ad J bNil) := by
  refine pgs_imp pgs_nil ?_
  rintro vs σ H Q ⟨S, r, L, O, ds, j, rl, rs, rp, p⟩
  cases ds with
  | nil => exact ⟨rp, p S r σ H (Ext.refl _ _) j rl rs⟩
  | cons d ds => exact p.elim
theorem dgs_cons (h1 : PG X e (tG X.K ad J bm)) (h2 : PGs X es (tGs X.K ad J bs)) (hs : (assignEach (e :: es) X.env).map (·.2) = assign e X.env :: (assignEach es X.env).map (·.2) := by rfl) : PGs X (e :: es) (tGs X.K ad J (bCons bm bs)) := by
  refine pgs_imp (pgs_cons h1 h2 hs) ?_
  rintro vs σ H Q ⟨S, r, L, O, ds, j, rl, rs, rp, p⟩
  cases ds with
  | nil => exact p.elim
  | cons d ds =>
    obtain ⟨v, vr, rfl, q1, q2⟩ := rp
    refine ⟨v, vr, rfl, S, r, L, O, d, j, rl, rs, q1, ?_⟩
    have p : PostB X.K ad J S r Q ((bm d L O).bind fun p => bs ds p.1 p.2) := p
    generalize bm d L O = z at p
    cases z with
    | none => exact p
    | some z => exact fun S1 r1 σ1 H1 e1 j1 l1 k1 => ⟨S1, r1, z.1, z.2, ds, j1, l1, k1, RpAll.mono e1 _ _ q2, p.mono e1⟩
theorem dg_tup {k n : Nat} (hc : X.calm = true) (h : PGs X es (tGs X.K ad J bs)) (hn : (assignEach es X.env).length = n := by rfl) (hst : (assignEach es X.env).findIdx? (·.1) = none := by rfl) : PG X (.Tuple es k pos) (tG X.K ad J (bTup n bs)) := by
  refine pg_imp (pg_tup hc h hn hst) ?_
  rintro v σ H Q ⟨S, r, L, O, d, j, rl, rs, rp, p⟩
  cases d with
  | tup ds =>
    obtain ⟨a, vs, rfl, q1, q2⟩ := rp
    have p : PostB X.K ad J S r Q (if ds.length = n then bs ds L O else none) := p
    split at p
    · rename_i hl
      exact ⟨a, vs, rfl, sqT_same rs.sub q1, by rw [q2.length]; exact hl, S, r, L, O, ds, j, rl, rs, q2, p⟩
    · exact p.elim
  | non => exact p.elim
  | bl b => exact p.elim
  | int i => exact p.elim
  | str s => exact p.elim
  | lst s => exact p.elim
  | rol s => exact p.elim
  | hdl s => exact p.elim
theorem asg_imp {t : TG} (hg : ∀ v σ H Q, tG X.K ad J bm v σ H Q → t v σ H Q) : ∀ En σ H, tS X.K ad J W (sAsg m bm) En σ H → tAsg (tE X.K ad J W m) t En σ H := by
  rintro En σ H ⟨S, r, L, O, j, rl, rs, p⟩
  refine ⟨S, r, L, O, j, rl, rs, (bindS j rl p).imp ?_⟩
  rintro x H1 ⟨S1, r1, d, O1, e1, q1, p1, k1⟩
  refine hg _ _ _ _ ⟨S1, r1, L, O1, d, J.mono e1.s j, rl.mono e1, q1, p1, ?_⟩
  generalize bm d L O1 = z at k1
  cases z with
  | none => exact k1
  | some z => exact k1
theorem ds_asg (he : PE X e (tE X.K ad J W m)) (hg : PG X tg (tG X.K ad J bm)) (hs : swapsWithSole [tg] e pos.line X.env = pure false := by rfl) (hw : swappedStores [tg] e X.env = pure none := by rfl)
    (h1 : (assignEach [tg] X.env).map (·.2) = [assign tg X.env] := by rfl) : PS X (.Assign [tg] e pos) (tS X.K ad J W (sAsg m bm)) :=
  ps_imp (ps_asg he hg hs hw h1) (asg_imp fun _ _ _ _ z => z)
theorem ds_set {i : Nat} {x : Str} {pos' : Pos} (hN : X.N.Nodup) (hi : X.N[i]? = some x) (hx : L2.Loc X.env.scope x) (he : PE X e (tE X.K ad J W m)) (hJ : ∀ (σ : L2.St) (v : Option V) (S : Hp), J.p σ S → J.p (σ.set i v) S := by intro _ _ _ _; trivial) (hs : swapsWith e (some (.Name x pos')) pos.line X.env = pure false := by rfl)
    (hf : X.fn x = true ∨ X.env.scope.names.lookup x = some .local := by first | exact .inl rfl | exact .inr rfl | assumption) : PS X (.Assign [.Name x pos'] e pos) (tS X.K ad J W (sAsg m (bName i))) := by
  refine ps_imp (ps_set hN hi hx he hs hf) (asg_imp ?_)
  rintro v σ H Q ⟨S, r, L, O, d, j, rl, rs, rp, p⟩
  exact p S r _ H (Ext.refl _ _) (hJ _ _ _ j) (rl.set i rp) rs
/-- one turn, then the rest f -/
def afterT (x : SR) (f : SM) : SR := match x with
  | .next L1 O1 => f L1 O1
  | .cnt L1 O1 => f L1 O1
  | .brk L1 O1 => .next L1 O1
  | .ret d O1 => .ret d O1
  | .exc x L1 O1 => .exc x L1 O1
  | .bad => .bad
theorem turn_post {S : Hp} {r : Rg} {En : Ends} {x : SR} {f : SM} (h : PostS X.K ad J W S r En (afterT x f)) :
    PostS X.K ad J W S r { En with nx := fun σ H => ∃ S' r' L' O', Ext S r S' r' ∧ J.p σ S' ∧ Rl X.K S' r' L' σ ∧ Rs X.K ad S' r' O' H ∧ PostS X.K ad J W S' r' En (f L' O'), ct := fun σ H => ∃ S' r' L' O', Ext S r S' r' ∧ J.p σ S' ∧ Rl X.K S' r' L' σ ∧ Rs X.K ad S' r' O' H ∧ PostS X.K ad J W S' r' En (f L' O'), bk := En.nx } x := by
  cases x with
  | next L O => exact fun S2 r2 σ H e2 j l s => ⟨S2, r2, L, O, e2, j, l, s, PostS.mono e2 h⟩
  | ret d O => exact h
  | brk L O => exact h
  | cnt L O => exact fun S2 r2 σ H e2 j l s => ⟨S2, r2, L, O, e2, j, l, s, PostS.mono e2 h⟩
  | exc x L O => exact h
  | bad => exact h
theorem loopD_cons {turn : D → SM} {d : D} {ds : List D} {L : Loc} {O : Store} : loopD turn (d :: ds) L O = afterT (turn d L O) (loopD turn ds) := by
  show (match turn d L O with
    | .next L1 O1 => loopD turn ds L1 O1
    | .cnt L1 O1 => loopD turn ds L1 O1
    | .brk L1 O1 => .next L1 O1
    | .ret d O1 => .ret d O1
    | .exc x L1 O1 => .exc x L1 O1
    | .bad => .bad) = _
  cases turn d L O <;> rfl
/-- the body of a turn -/
theorem turn_of {S : Hp} {r : Rg} {En : Ends} {L : Loc} {O : Store} {σ : L2.St} {H : Hp} {d : D} {v : V} (j : J.p σ S) (rl : Rl X.K S r L σ) (rs : Rs X.K ad S r O H) (rp : Rp X.K S r d v) (h : PostS X.K ad J W S r En (turnOf bm s1 d L O)) :
    tG X.K ad J bm v σ H fun σ2 H2 => tS X.K ad J W s1 En σ2 H2 := by
  refine ⟨S, r, L, O, d, j, rl, rs, rp, ?_⟩
  unfold turnOf at h
  generalize bm d L O = z at h
  cases z with
  | none => exact h
  | some z => exact fun S2 r2 σ2 H2 e2 j2 l2 q2 => ⟨S2, r2, z.1, z.2, j2, l2, q2, PostS.mono e2 h⟩
/-- a loop over things that stand still -/
theorem for_still {It' : It} {vs : List V} (ds : List D) {S0 : Hp} {r0 : Rg} (hp : RpAll X.K S0 r0 ds vs)
    (go : ∀ (i : Nat) (H : Hp) (S : Hp) (x : V), Same S0 S → Same S H → vs[i]? = some x → It'.go i H) (yl : ∀ (i : Nat) (H : Hp) (S : Hp) (x y : V) (H' : Hp), Same S0 S → Same S H → vs[i]? = some x → It'.yld i H y H' → y = x ∧ H' = H)
    (sp : ∀ (i : Nat) (H : Hp) (S : Hp), Same S0 S → Same S H → vs.length ≤ i → It'.stop i H) {L : Loc} {O : Store} {σ : L2.St} {H : Hp} {En : Ends} (j : J.p σ S0) (rl : Rl X.K S0 r0 L σ) (rs : Rs X.K ad S0 r0 O H) (h : PostS X.K ad J W S0 r0 En (loopD (turnOf bm s1) ds L O)) :
    ∃ W' : Nat → Nat → L2.St → Hp → Prop, (∃ m, W' 0 m σ H) ∧ ∀ i m σ H, W' i m σ H →
      (It'.stop i H ∧ En.nx σ H) ∨ (It'.go i H ∧ ∃ N : L2.St → Hp → Prop, (∀ σ' H', N σ' H' → ∃ m', m' < m ∧ W' (i + 1) m' σ' H') ∧ ∀ x H', It'.yld i H x H' → tG X.K ad J bm x σ H' fun σ2 H2 => tS X.K ad J W s1 { En with nx := N, ct := N, bk := En.nx } σ2 H2) := by
  refine ⟨fun i m σ H => m = vs.length - i ∧ i ≤ vs.length ∧ ∃ S r L O, Ext S0 r0 S r ∧ J.p σ S ∧ Rl X.K S r L σ ∧ Rs X.K ad S r O H ∧ PostS X.K ad J W S r En (loopD (turnOf bm s1) (ds.drop i) L O), ⟨_, rfl, Nat.zero_le _, S0, r0, L, O, Ext.refl _ _, j, rl, rs, h⟩, ?_⟩
  rintro i m σ H ⟨rfl, hi, S, r, L, O, e, j, rl, rs, h⟩
  by_cases hlt : i < vs.length
  · have hx : vs[i]? = some vs[i] := List.getElem?_eq_getElem hlt
    obtain ⟨d, hd, pd⟩ := RpAll.back hp hx
    have hdrop : ds.drop i = d :: ds.drop (i + 1) := by
      obtain ⟨h1, h2⟩ := List.getElem?_eq_some_iff.mp hd
      rw [List.drop_eq_getElem_cons h1, h2]
    rw [hdrop, loopD_cons] at h
    refine .inr ⟨go i H S _ e.s rs.sub hx, fun σ' H' => ∃ S' r' L' O', Ext S r S' r' ∧ J.p σ' S' ∧ Rl X.K S' r' L' σ' ∧ Rs X.K ad S' r' O' H' ∧ PostS X.K ad J W S' r' En (loopD (turnOf bm s1) (ds.drop (i + 1)) L' O'), ?_, fun x H' hy => ?_⟩
    · rintro σ' H' ⟨S', r', L', O', e', j', l', q', h'⟩
      exact ⟨_, by omega, rfl, hlt, S', r', L', O', e.trans e', j', l', q', h'⟩
    · obtain ⟨rfl, rfl⟩ := yl i H S _ x H' e.s rs.sub hx hy
      exact turn_of j rl rs (Rp.mono e d _ pd) (turn_post h)
  · have e2 : ds.drop i = [] := List.drop_eq_nil_of_le (by rw [← hp.length]; omega)
    rw [e2] at h
    exact .inl ⟨sp i H S e.s rs.sub (by omega), h S r σ H (Ext.refl _ _) j rl rs⟩
/-- over a list of the store -/
theorem loopH_cons {turn : D → SM} {n k i : Nat} {L : Loc} {O : Store} : loopH turn n (k + 1) i L O = (match O[n]? with
    | some (.lst xs) => match xs[i]? with
      | some d => afterT (turn d L O) (loopH turn n k (i + 1))
      | none => .next L O
    | _ => .bad) := by
  show (match O[n]? with
    | some (.lst xs) => match xs[i]? with
      | some d => match turn d L O with
        | .next L1 O1 => loopH turn n k (i + 1) L1 O1
        | .cnt L1 O1 => loopH turn n k (i + 1) L1 O1
        | .brk L1 O1 => .next L1 O1
        | .ret d O1 => .ret d O1
        | .exc x L1 O1 => .exc x L1 O1
        | .bad => .bad
      | none => .next L O
    | _ => .bad) = _
  split
  · split
    · rename_i d _
      cases turn d L O <;> rfl
    · rfl
  · rfl
theorem for_handle {a : Addr} {n : Nat} {S0 : Hp} {r0 : Rg} (ha : r0.l[n]? = some a) {k : Nat} {L : Loc} {O : Store} {σ : L2.St} {H : Hp} {En : Ends} (j : J.p σ S0) (rl : Rl X.K S0 r0 L σ) (rs : Rs X.K ad S0 r0 O H) (h : PostS X.K ad J W S0 r0 En (loopH (turnOf bm s1) n k 0 L O)) :
    ∃ W' : Nat → Nat → L2.St → Hp → Prop, (∃ m, W' 0 m σ H) ∧ ∀ i m σ H, W' i m σ H →
      ((Itl X.K a).stop i H ∧ En.nx σ H) ∨ ((Itl X.K a).go i H ∧ ∃ N : L2.St → Hp → Prop, (∀ σ' H', N σ' H' → ∃ m', m' < m ∧ W' (i + 1) m' σ' H') ∧ ∀ x H', (Itl X.K a).yld i H x H' → tG X.K ad J bm x σ H' fun σ2 H2 => tS X.K ad J W s1 { En with nx := N, ct := N, bk := En.nx } σ2 H2) := by
  refine ⟨fun i m σ H => ∃ S r L O, Ext S0 r0 S r ∧ J.p σ S ∧ Rl X.K S r L σ ∧ Rs X.K ad S r O H ∧ PostS X.K ad J W S r En (loopH (turnOf bm s1) n m i L O), ⟨k, S0, r0, L, O, Ext.refl _ _, j, rl, rs, h⟩, ?_⟩
  rintro i m σ H ⟨S, r, L, O, e, j, rl, rs, h⟩
  have hr : r.l[n]? = some a := pre_get e.r ha
  cases m with
  | zero =>
    have h : PostS X.K ad J W S r En (match O[n]? with | some (.lst xs) => if xs.length ≤ i then .next L O else .bad | _ => .bad) := h
    split at h
    · rename_i xs hx
      obtain ⟨_, vs, q1, q2⟩ := rs.ob n a _ hr hx
      split at h
      · rename_i hl
        exact .inl ⟨⟨vs, .of q1, by rw [q2.length]; exact hl⟩, h S r σ H (Ext.refl _ _) j rl rs⟩
      · exact h.elim
    · exact h.elim
  | succ m =>
    rw [loopH_cons] at h
    split at h
    · rename_i xs hx
      obtain ⟨_, vs, q1, q2⟩ := rs.ob n a _ hr hx
      split at h
      · rename_i d hd
        obtain ⟨v, hv, pv⟩ := q2.get hd
        refine .inr ⟨⟨vs, v, .of q1, hv⟩, fun σ' H' => ∃ S' r' L' O', Ext S r S' r' ∧ J.p σ' S' ∧ Rl X.K S' r' L' σ' ∧ Rs X.K ad S' r' O' H' ∧ PostS X.K ad J W S' r' En (loopH (turnOf bm s1) n m (i + 1) L' O'), ?_, fun x H' hy => ?_⟩
        · rintro σ' H' ⟨S', r', L', O', e', j', l', q', h'⟩
          exact ⟨m, Nat.lt_succ_self m, S', r', L', O', e.trans e', j', l', q', h'⟩
        · obtain ⟨rfl, h2⟩ := hy
          have ex : x = v := Option.some.inj ((h2 vs (.of q1)).symm.trans hv)
          subst ex
          exact turn_of j rl rs pv (turn_post h)
      · rename_i hd
        have hl : xs.length ≤ i := List.getElem?_eq_none_iff.mp hd
        exact .inl ⟨⟨vs, .of q1, by rw [q2.length]; exact hl⟩, h S r σ H (Ext.refl _ _) j rl rs⟩
    · exact h.elim
theorem ds_forL (hp : PassesOwn (model X.prog X.w) X.A X.env X.xe) (hc : X.calm = true) (hi : PE X iter (tE X.K ad J W m)) (hg : PG X tg (tG X.K ad J bm)) (hb : PSs X body (tS X.K ad J W s1)) (hs : ∀ x, foldedSetIterable iter X.env x = pure x := by intro _; rfl) :
    PS X (.For tg iter body [] pos) (tS X.K ad J W (sForL m bm s1)) := by
  refine ps_imp (ps_for hp hc (pi_list hi) hg hb hs) ?_
  rintro En σ H ⟨S, r, L, O, j, rl, rs, p⟩
  refine ⟨S, r, L, O, j, rl, rs, (bindS j rl p).imp ?_⟩
  rintro x H1 ⟨S1, r1, d, O1, e1, q1, p1, k1⟩
  have rl1 := rl.mono e1
  cases d with
  | lst ds =>
    obtain ⟨a, vs, rfl, h1, h2⟩ := p1
    have hq : ∀ {S' : Hp} {H : Hp}, Same S1 S' → Same S' H → SqL X.K H a vs := fun e e' => .of (e' _ _ (e _ _ h1))
    refine ⟨a, rfl, ⟨vs, hq (Same.refl _) q1.sub⟩, for_still (It' := Itl X.K a) ds h2 (fun i H S x e e' hx => ⟨vs, x, hq e e', hx⟩) (fun i H S x y H' e e' hx hy => ⟨Option.some.inj ((hy.2 vs (hq e e')).symm.trans hx), hy.1⟩) (fun i H S e e' hl => ⟨vs, hq e e', hl⟩) (J.mono e1.s j) rl1 q1 k1⟩
  | rol ds =>
    obtain ⟨a, vs, rfl, h1, h2⟩ := p1
    have hq : ∀ {S' : Hp} {H : Hp}, Same S1 S' → Same S' H → SqL X.K H a vs := fun e e' => sqL_same e' (sqL_same e h1)
    refine ⟨a, rfl, ⟨vs, hq (Same.refl _) q1.sub⟩, for_still (It' := Itl X.K a) ds h2 (fun i H S x e e' hx => ⟨vs, x, hq e e', hx⟩) (fun i H S x y H' e e' hx hy => ⟨Option.some.inj ((hy.2 vs (hq e e')).symm.trans hx), hy.1⟩) (fun i H S e e' hl => ⟨vs, hq e e', hl⟩) (J.mono e1.s j) rl1 q1 k1⟩
  | hdl n =>
    obtain ⟨a, rfl, ha⟩ := p1
    have k1 : PostS X.K ad J W S1 r1 En (match O1[n]? with | some (.lst xs) => loopH (turnOf bm s1) n xs.length 0 L O1 | _ => .bad) := k1
    split at k1
    · rename_i xs hx
      obtain ⟨_, vs, q3, q4⟩ := q1.ob n a _ ha hx
      exact ⟨a, rfl, ⟨vs, .of q3⟩, for_handle ha (J.mono e1.s j) rl1 q1 k1⟩
    · exact k1.elim
  | non => exact k1.elim
  | bl b => exact k1.elim
  | int i => exact k1.elim
  | str s => exact k1.elim
  | tup s => exact k1.elim
theorem range_rp {S : Hp} {r : Rg} (lo : Int) (n : Nat) : RpAll X.K S r (rangeD lo n) ((List.range n).map fun (i : Nat) => V.int (lo + (i : Int))) := by
  unfold rangeD
  generalize List.range n = l
  induction l with
  | nil => exact rfl
  | cons a l ih => exact ⟨_, _, rfl, rfl, ih⟩
theorem for_range_post {lo : Int} {n : Nat} {S0 : Hp} {r0 : Rg} {L : Loc} {O : Store} {σ : L2.St} {H : Hp} {En : Ends} (j : J.p σ S0) (rl : Rl X.K S0 r0 L σ) (rs : Rs X.K ad S0 r0 O H) (h : PostS X.K ad J W S0 r0 En (loopD (turnOf bm s1) (rangeD lo n) L O)) :
    ∃ W' : Nat → Nat → L2.St → Hp → Prop, (∃ m, W' 0 m σ H) ∧ ∀ i m σ H, W' i m σ H →
      ((Itr lo n).stop i H ∧ En.nx σ H) ∨ ((Itr lo n).go i H ∧ ∃ N : L2.St → Hp → Prop, (∀ σ' H', N σ' H' → ∃ m', m' < m ∧ W' (i + 1) m' σ' H') ∧ ∀ x H', (Itr lo n).yld i H x H' → tG X.K ad J bm x σ H' fun σ2 H2 => tS X.K ad J W s1 { En with nx := N, ct := N, bk := En.nx } σ2 H2) := by
  have hlen : ((List.range n).map fun (i : Nat) => V.int (lo + (i : Int))).length = n := by rw [List.length_map, List.length_range]
  refine for_still (rangeD lo n) (range_rp lo n) (fun i H S x e e' hx => ?_) (fun i H S x y H' e e' hx hy => ?_) (fun i H S e e' hl => ?_) j rl rs h
  · have := (List.getElem?_eq_some_iff.mp hx).1
    rw [hlen] at this
    exact this
  · have hi := (List.getElem?_eq_some_iff.mp hx).1
    rw [hlen] at hi
    rw [List.getElem?_map, List.getElem?_range hi] at hx
    exact ⟨hy.2.trans (Option.some.inj hx), hy.1⟩
  · rw [hlen] at hl
    exact hl
theorem ds_forR1 {p q : Pos} (hp : PassesOwn (model X.prog X.w) X.A X.env X.xe) (hc : X.calm = true) (hg0 : Gl X "range") (hm : X.mg "range" = none) (ha : PA X [a] (tA X.K ad J W mt)) (hg : PG X tg (tG X.K ad J bm)) (hb : PSs X body (tS X.K ad J W s1))
    (hs0 : starEach [a] X.env = [(false, eval a X.env)] := by rfl) (hs : ∀ x, foldedSetIterable (.Call (.Name "range" p) [a] [] q) X.env x = pure x := by intro _; rfl) : PS X (.For tg (.Call (.Name "range" p) [a] [] q) body [] pos) (tS X.K ad J W (sForR1 mt bm s1)) := by
  refine ps_imp (ps_for hp hc (pi_range1 hg0 hm ha hs0) hg hb hs) ?_
  rintro En σ H ⟨S, r, L, O, j, rl, rs, p⟩
  refine ⟨S, r, L, O, j, rl, rs, (bindS j rl p).imp ?_⟩
  rintro vs H1 ⟨S1, r1, ds, O1, e1, q1, p1, k1⟩
  have k2 : PostS X.K ad J W S1 r1 En (match int1 ds with | some j => loopD (turnOf bm s1) (rangeD 0 j.toNat) L O1 | none => .bad) := k1
  clear k1
  revert k2
  cases hj : int1 ds with
  | none => exact fun k2 => k2.elim
  | some jj =>
    intro k1
    obtain ⟨rfl, b1, b2⟩ := int1_ok hj
    obtain ⟨v, vr, rfl, rfl, rfl⟩ := p1
    exact ⟨jj, rfl, by omega, by omega, for_range_post (J.mono e1.s j) (rl.mono e1) q1 k1⟩
theorem ds_forR2 {p q : Pos} (hp : PassesOwn (model X.prog X.w) X.A X.env X.xe) (hc : X.calm = true) (hg0 : Gl X "range") (hm : X.mg "range" = none) (ha : PA X [a, b] (tA X.K ad J W mt)) (hg : PG X tg (tG X.K ad J bm)) (hb : PSs X body (tS X.K ad J W s1))
    (hs0 : starEach [a, b] X.env = [(false, eval a X.env), (false, eval b X.env)] := by rfl) (hs2 : starEach [b] X.env = [(false, eval b X.env)] := by rfl) (hs : ∀ x, foldedSetIterable (.Call (.Name "range" p) [a, b] [] q) X.env x = pure x := by intro _; rfl) : PS X (.For tg (.Call (.Name "range" p) [a, b] [] q) body [] pos) (tS X.K ad J W (sForR2 mt bm s1)) := by
  refine ps_imp (ps_for hp hc (pi_range2 hg0 hm ha hs0 hs2) hg hb hs) ?_
  rintro En σ H ⟨S, r, L, O, j, rl, rs, p⟩
  refine ⟨S, r, L, O, j, rl, rs, (bindS j rl p).imp ?_⟩
  rintro vs H1 ⟨S1, r1, ds, O1, e1, q1, p1, k1⟩
  have k2 : PostS X.K ad J W S1 r1 En (match int2 ds with | some p => loopD (turnOf bm s1) (rangeD p.1 (p.2 - p.1).toNat) L O1 | none => .bad) := k1
  clear k1
  revert k2
  cases hj : int2 ds with
  | none => exact fun k2 => k2.elim
  | some jj =>
    intro k1
    obtain ⟨rfl, ⟨b1, b2⟩, b3, b4⟩ := int2_ok hj
    obtain ⟨v, vr, rfl, rfl, u, ur, rfl, rfl, rfl⟩ := p1
    exact ⟨jj.1, jj.2, rfl, ⟨by omega, by omega, by omega, by omega⟩, for_range_post (J.mono e1.s j) (rl.mono e1) q1 k1⟩
end
/-! ### a def -/
section
variable {P : Program} {w : World} {K : PySem.W.Frag} {mg : Str → Option Value} {base : Heap} {ad : Str → Addr}
theorem start_rl {S : Hp} {r : Rg} {N : List Str} {ds : List D} {vs : List V} (hl : vs.length ≤ N.length) (h : RpAll K S r ds vs) : Rl K S r (ds.map some ++ List.replicate (N.length - ds.length) none) (L2.start N vs) where
  len := by
    unfold L2.start
    rw [List.length_append, List.length_append, List.length_map, List.length_map, List.length_replicate, List.length_replicate, h.length]
  at_ := fun i d q => by
    by_cases hi : i < ds.length
    · rw [List.getElem?_append_left (by rw [List.length_map]; exact hi), List.getElem?_map] at q
      cases e : ds[i]? with
      | none => rw [e] at q; cases q
      | some d' =>
        rw [e] at q
        obtain rfl : d' = d := Option.some.inj (Option.some.inj q)
        obtain ⟨v, hv, p⟩ := h.get e
        refine ⟨v, ?_, p⟩
        unfold L2.start
        rw [List.getElem?_append_left (by rw [List.length_map, h.length]; exact hi), List.getElem?_map, hv]
        rfl
    · rw [List.getElem?_append_right (by rw [List.length_map]; omega), List.getElem?_replicate] at q
      split at q <;> cases q
theorem fn_def {x qual : Str} {params : Arguments} {bd : List Stmt} {scope : Scope} {dvs : List V} {kws : List (Str × V)} {f : Addr} {fd : FuncData} {N ps : List Str} {k : Nat} {b : SM} (F : FunD K x qual params bd scope dvs kws f fd) (sc : FnScope N ps scope)
    (hb : ∀ (cdv : Value) (A : Around) (outer : List Env) (s : Shared) (H : Hp) (E : XK), Room k (A.deeper (PyProof.Rows.envOfC qual scope s.heap.objs.size f cdv)) →
      PSs (cxOf (L2.CX P w) P w K mg base N qual scope f cdv A outer s H E) bd (tS K ad JT (fun c d _ H => E c d H) b)) :
    FnOk P w K mg base (L2.CX P w) (k + 1) f fd ps (spM K ad ps.length (runF N.length b)) := by
  have hpl : ps.length ≤ N.length := by have := congrArg List.length sc.pre; rw [List.length_take] at this; omega
  refine F.ok sc (fun vs H Q E h => ?_) (fun cdv A outer s H vs Q E hr h => ?_)
  · obtain ⟨S, r, O, ds, hl, _, hp, _⟩ := h
    rw [hp.length, hl]
  · refine ⟨_, hb cdv A outer s H E hr, ?_⟩
    obtain ⟨S, r, O, ds, hl, rs, hp, p⟩ := h
    refine ⟨S, r, _, O, trivial, start_rl (by rw [hp.length, hl]; exact hpl) hp, rs, ?_⟩
    unfold runF at p
    generalize b (ds.map some ++ List.replicate (N.length - ds.length) none) O = z at p
    cases z with
    | next L O => exact fun S' r' σ H e _ _ q => p S' r' H .non e q rfl
    | ret d O => exact p
    | brk L O => exact p.elim
    | cnt L O => exact p.elim
    | exc x L O => exact fun S' r' σ H d e _ _ q g => p S' r' H d e q g
    | bad => exact p
end
end DK
end
section
set_option Elab.async false
set_option linter.all false
set_option autoImplicit false
set_option maxRecDepth 100000
set_option maxHeartbeats 4000000
/-! DKOps: operators, subscripts, built-ins, by mirrors. -/
namespace DK
open PySem L2
def newLO (h : Bool) (xs : List D) (O : Store) : Option (D × Store) := if xs.length ≤ 1000000 then (if h = true then some (.hdl O.length, O ++ [.lst xs]) else some (.lst xs, O)) else none
theorem ofO_newLO (h : Bool) (xs : List D) (O : Store) : ofO (newLO h xs O) = newL h xs O := by
  unfold newLO newL
  split
  · split <;> rfl
  · rfl
/-! ### + and others -/
def gAdd (h : Bool) : Store → D → D → Option (D × Store) := fun O x y => match x, y with
  | .int i, .int j => some (.int (i + j), O)
  | .str a, .str b => if a.length + b.length ≤ 1000000 then some (.str (a ++ b), O) else none
  | .tup a, .tup b => if a.length + b.length ≤ 1000000 then some (.tup (a ++ b), O) else none
  | _, _ => match lstOf O x, lstOf O y with
    | some a, some b => newLO h (a ++ b) O
    | _, _ => none
def gI (f : Int → Int → D) (C : Int → Int → Bool) : Store → D → D → Option (D × Store) := fun O x y => match x, y with
  | .int i, .int j => if C i j = true then some (f i j, O) else none
  | _, _ => none
def gSub := gI (fun i j => .int (i - j)) (fun _ _ => true)
def gMul := gI (fun i j => .int (i * j)) (fun i j => decide (i.natAbs.log2 + j.natAbs.log2 < 1000000))
def gFdiv := gI (fun i j => .int (i / j)) (fun _ j => decide (0 < j ∧ j.natAbs.log2 < 9000))
def gMod := gI (fun i j => .int (i % j)) (fun _ j => decide (0 < j))
def gPow := gI (fun i j => .int (i ^ j.toNat)) (fun i j => decide (0 ≤ j ∧ j ≤ 1000000 ∧ i.natAbs < 2 ^ 64))
section
variable {X : Cx} {ad : Str → Addr}
theorem catL {S : Hp} {r : Rg} {O : Store} {H : Hp} {x y : V} {d e : D} {W : WX} {σ : L2.St} {Q : VK} {h : Bool} (rs : Rs X.K ad S r O H) (px : Rp X.K S r d x) (py : Rp X.K S r e y)
    (p : Post X.K ad (fun S r => Rp X.K S r) W σ S r Q (ofO (match lstOf O d, lstOf O e with | some a, some b => newLO h (a ++ b) O | _, _ => none))) : rCat x y H Q := by
  split at p
  · rename_i a b ha hb
    obtain ⟨l, vs, rfl, q1, q2⟩ := lstOf_ok rs px ha
    obtain ⟨m, us, rfl, q3, q4⟩ := lstOf_ok rs py hb
    rw [ofO_newLO] at p
    obtain ⟨h1, h2⟩ := newL_post rs (q2.append q4) p
    exact ⟨l, m, vs, us, rfl, rfl, q1, q3, by rw [List.length_append] at h1; exact h1, h2⟩
  · exact p.elim
theorem od_add (h : Bool) : OpD X ad (binaryOp .Add) (gAdd h) where
  ok := by
    refine ⟨_, OpR.or op_add (OpR.or op_add_str (OpR.or op_catA op_cat)), ?_⟩
    intro S r O H x y d e W σ Q rs px py p
    unfold gAdd at p
    split at p
    · rename_i i j
      rw [show x = .int i from px, show y = .int j from py]
      exact .inl ⟨i, j, rfl, rfl, p S r H _ (Ext.refl _ _) rs rfl⟩
    · rename_i a b
      rw [show x = .str a from px, show y = .str b from py]
      split at p
      · rename_i hl
        exact .inr (.inl ⟨a, b, rfl, rfl, million hl, p S r H _ (Ext.refl _ _) rs rfl⟩)
      · exact p.elim
    · rename_i a b
      split at p
      · rename_i hl
        obtain ⟨l, vs, rfl, q1, q2⟩ := px
        obtain ⟨m, us, rfl, q3, q4⟩ := py
        refine .inr (.inr (.inl ⟨l, m, vs, us, rfl, rfl, sqT_same rs.sub q1, sqT_same rs.sub q3, by rw [q2.length, q4.length]; exact million hl, fun e => ?_, fun e1 e2 => ?_, fun e1 e2 => ?_⟩))
        · refine p S r H _ (Ext.refl _ _) rs ⟨m, us, rfl, q3, ?_⟩
          have q5 := q2.append q4
          rw [e] at q5
          exact q5
        · refine p S r H _ (Ext.refl _ _) rs ⟨l, vs, rfl, q1, ?_⟩
          have q5 := q2.append q4
          rw [e2, List.append_nil] at q5
          exact q5
        · exact newT_post rs (q2.append q4) p
      · exact p.elim
    · exact .inr (.inr (.inr (catL rs px py p)))
theorem od_I {bop : Value → Value → Sem Value} {f : Int → Int → V} {g : Int → Int → D} {C : Int → Int → Prop} {c : Int → Int → Bool} (ho : OpR X bop (rI C f)) (hc : ∀ i j, c i j = true → C i j) (hg : ∀ i j S r, Rp X.K S r (g i j) (f i j)) : OpD X ad bop (gI g c) where
  ok := by
    refine ⟨_, ho, ?_⟩
    intro S r O H x y d e W σ Q rs px py p
    unfold gI at p
    split at p
    · rename_i i j
      rw [show x = .int i from px, show y = .int j from py]
      split at p
      · rename_i hcc
        exact ⟨i, j, rfl, rfl, hc i j hcc, p S r H _ (Ext.refl _ _) rs (hg i j S r)⟩
      · exact p.elim
    · exact p.elim
theorem od_I0 {bop : Value → Value → Sem Value} {f : Int → Int → V} {g : Int → Int → D} (ho : OpR X bop (rI0 f)) (hg : ∀ i j S r, Rp X.K S r (g i j) (f i j)) : OpD X ad bop (gI g fun _ _ => true) where
  ok := by
    refine ⟨_, ho, ?_⟩
    intro S r O H x y d e W σ Q rs px py p
    unfold gI at p
    split at p
    · rename_i i j
      rw [show x = .int i from px, show y = .int j from py]
      rw [if_pos rfl] at p
      exact ⟨i, j, rfl, rfl, p S r H _ (Ext.refl _ _) rs (hg i j S r)⟩
    · exact p.elim
theorem od_sub : OpD X ad (binaryOp .Sub) gSub := od_I0 op_sub fun _ _ _ _ => rfl
theorem od_mul : OpD X ad (binaryOp .Mult) gMul := od_I op_mulW (fun i j h => (of_decide_eq_true h : i.natAbs.log2 + j.natAbs.log2 < 1000000)) fun _ _ _ _ => rfl
theorem od_fdiv : OpD X ad (binaryOp .FloorDiv) gFdiv := od_I op_fdivW (fun i j h => (of_decide_eq_true h : 0 < j ∧ j.natAbs.log2 < 9000)) fun _ _ _ _ => rfl
theorem od_mod : OpD X ad (binaryOp .Mod) gMod := od_I op_mod (fun i j h => of_decide_eq_true h) fun _ _ _ _ => rfl
theorem od_pow : OpD X ad (binaryOp .Pow) gPow := od_I op_pow (fun i j h => (of_decide_eq_true h : 0 ≤ j ∧ j ≤ 1000000 ∧ i.natAbs < 2 ^ 64)) fun _ _ _ _ => rfl
/-! ### comparisons -/
/-- ints, texts -/
def gCmp (f : Int → Int → Bool) (g : Str → Str → Bool) : Store → D → D → Option (D × Store) := fun O x y => match x, y with
  | .int i, .int j => some (.bl (f i j), O)
  | .str i, .str j => some (.bl (g i j), O)
  | _, _ => none
def gLt := gCmp (fun i j => decide (i < j)) (fun i j => decide (i.cps.toList < j.cps.toList))
def gLe := gCmp (fun i j => decide (i ≤ j)) (fun i j => !decide (j.cps.toList < i.cps.toList))
def gGt := gCmp (fun i j => decide (j < i)) (fun i j => decide (j.cps.toList < i.cps.toList))
def gGe := gCmp (fun i j => decide (j ≤ i)) (fun i j => !decide (i.cps.toList < j.cps.toList))
theorem od_cmp {bop : Value → Value → Sem Value} {f : Int → Int → Bool} {g : Str → Str → Bool} (h1 : OpR X bop (rI0 fun i j => .bl (f i j))) (h2 : OpR X bop (fun x y H Q => ∃ i j, x = .str i ∧ y = .str j ∧ Q (.bl (g i j)) H)) : OpD X ad bop (gCmp f g) where
  ok := by
    refine ⟨_, OpR.or h1 h2, ?_⟩
    intro S r O H x y d e W σ Q rs px py p
    unfold gCmp at p
    split at p
    · rename_i i j
      rw [show x = .int i from px, show y = .int j from py]
      exact .inl ⟨i, j, rfl, rfl, p S r H _ (Ext.refl _ _) rs rfl⟩
    · rename_i i j
      rw [show x = .str i from px, show y = .str j from py]
      exact .inr ⟨i, j, rfl, rfl, p S r H _ (Ext.refl _ _) rs rfl⟩
    · exact p.elim
theorem od_lt : OpD X ad (compareOp .Lt) gLt := od_cmp op_lt op_lt_str
theorem od_le : OpD X ad (compareOp .LtE) gLe := od_cmp op_le op_le_str
theorem od_gt : OpD X ad (compareOp .Gt) gGt := od_cmp op_gt op_gt_str
theorem od_ge : OpD X ad (compareOp .GtE) gGe := od_cmp op_ge op_ge_str
/-- flat values -/
def flatOf : D → Option V
  | .non => some .non
  | .bl b => some (.bl b)
  | .int i => some (.int i)
  | .str s => some (.str s)
  | _ => none
theorem flatOf_ok {K : PySem.W.Frag} {S : Hp} {r : Rg} {d : D} {v x : V} (h : flatOf d = some v) (p : Rp K S r d x) : x = v ∧ flatV v = true := by
  cases d <;> first | (cases h; done) | (have e := Option.some.inj h; subst e; exact ⟨p, rfl⟩)
/-- a value read through, for == -/
def deep (O : Store) : Nat → D → Option PyData
  | 0, _ => none
  | n + 1, .non => some .none
  | n + 1, .bl b => some (.bool b)
  | n + 1, .int i => some (.int i)
  | n + 1, .str s => some (.str s)
  | n + 1, .lst xs => (xs.mapM (deep O n)).map .list
  | n + 1, .rol xs => (xs.mapM (deep O n)).map .list
  | n + 1, .tup xs => (xs.mapM (deep O n)).map .tuple
  | n + 1, .hdl k => match O[k]? with
    | some (.lst xs) => (xs.mapM (deep O n)).map .list
    | _ => none
theorem mapM_cons {α β : Type} {f : α → Option β} {x : α} {xs : List α} : (x :: xs).mapM f = (f x).bind fun y => (xs.mapM f).bind fun ys => some (y :: ys) := by
  simp [List.mapM_cons]
theorem deepAll_ok {K : PySem.W.Frag} {S : Hp} {r : Rg} {H : Hp} {g : D → Option PyData} (hg : ∀ d v p, Rp K S r d v → g d = some p → Dp K H v p) : ∀ {ds : List D} {vs : List V} {ps : List PyData}, RpAll K S r ds vs → ds.mapM g = some ps → DpAll K H vs ps
  | [], vs, ps, h, e => by
    rw [show vs = [] from h]
    have e : some [] = some ps := by rw [List.mapM_nil] at e; exact e
    cases e
    exact .nil
  | d :: ds, vs, ps, h, e => by
    obtain ⟨v, vr, rfl, h1, h2⟩ := h
    rw [mapM_cons] at e
    cases e1 : g d with
    | none => rw [e1] at e; cases e
    | some p =>
      rw [e1] at e
      cases e2 : ds.mapM g with
      | none =>
        rw [e2] at e
        cases e
      | some qs =>
        rw [e2] at e
        cases e
        exact .cons (hg d v p h1 e1) (deepAll_ok hg h2 e2)
theorem deep_ok {K : PySem.W.Frag} {S : Hp} {r : Rg} {O : Store} {H : Hp} (rs : Rs K ad S r O H) : ∀ (n : Nat) (d : D) (v : V) (p : PyData), Rp K S r d v → deep O n d = some p → Dp K H v p
  | 0, d, v, p, h, e => by cases e
  | n + 1, .non, v, p, h, e => by cases e; rw [show v = .non from h]; exact .non
  | n + 1, .bl b, v, p, h, e => by cases e; rw [show v = .bl b from h]; exact .bl b
  | n + 1, .int i, v, p, h, e => by cases e; rw [show v = .int i from h]; exact .int i
  | n + 1, .str s, v, p, h, e => by cases e; rw [show v = .str s from h]; exact .str s
  | n + 1, .lst xs, v, p, h, e => by
    obtain ⟨a, vs, rfl, q1, q2⟩ := h
    obtain ⟨ps, e1, rfl⟩ := Option.map_eq_some_iff.mp (show (xs.mapM (deep O n)).map .list = some p from e)
    exact .lst (.of (rs.sub _ _ q1)) (deepAll_ok (deep_ok rs n) q2 e1)
  | n + 1, .rol xs, v, p, h, e => by
    obtain ⟨a, vs, rfl, q1, q2⟩ := h
    obtain ⟨ps, e1, rfl⟩ := Option.map_eq_some_iff.mp (show (xs.mapM (deep O n)).map .list = some p from e)
    exact .lst (sqL_same rs.sub q1) (deepAll_ok (deep_ok rs n) q2 e1)
  | n + 1, .tup xs, v, p, h, e => by
    obtain ⟨a, vs, rfl, q1, q2⟩ := h
    obtain ⟨ps, e1, rfl⟩ := Option.map_eq_some_iff.mp (show (xs.mapM (deep O n)).map .tuple = some p from e)
    exact .tup (sqT_same rs.sub q1) (deepAll_ok (deep_ok rs n) q2 e1)
  | n + 1, .hdl k, v, p, h, e => by
    have e : (match O[k]? with | some (.lst xs) => (xs.mapM (deep O n)).map .list | _ => none) = some p := e
    split at e
    · rename_i xs hx
      obtain ⟨a, rfl, q1, _, vs, q3, q4⟩ := hdl_at rs h hx
      obtain ⟨ps, e1, rfl⟩ := Option.map_eq_some_iff.mp e
      exact .lst (.of q3) (deepAll_ok (deep_ok rs n) q4 e1)
    · cases e
/-- == -/
def eqD (O : Store) (x y : D) : Option Bool := match flatOf x, flatOf y with
  | some v, some u => if scal v u = true then some (decide (v = u)) else match deep O 2 x, deep O 2 y with
    | some p, some q => if SeqAt.shaped p = true ∧ SeqAt.shaped q = true then some (PyData.eqv p q) else none
    | _, _ => none
  | _, _ => match deep O 30 x, deep O 30 y with
    | some p, some q => if SeqAt.shaped p = true ∧ SeqAt.shaped q = true then some (PyData.eqv p q) else none
    | _, _ => none
def gEq : Store → D → D → Option (D × Store) := fun O x y => match eqD O x y with
  | some b => some (.bl b, O)
  | none => none
def gNe : Store → D → D → Option (D × Store) := fun O x y => match eqD O x y with
  | some b => some (.bl (!b), O)
  | none => none
theorem eqD_ok {S : Hp} {r : Rg} {O : Store} {H : Hp} {x y : V} {d e : D} {b : Bool} (rs : Rs X.K ad S r O H) (px : Rp X.K S r d x) (py : Rp X.K S r e y) (h : eqD O d e = some b) :
    (scal x y = true ∧ decide (x = y) = b) ∨ (∃ p q, Dp X.K H x p ∧ Dp X.K H y q ∧ SeqAt.shaped p = true ∧ SeqAt.shaped q = true ∧ PyData.eqv p q = b) := by
  have deepCase : ∀ n, (match deep O n d, deep O n e with | some p, some q => if SeqAt.shaped p = true ∧ SeqAt.shaped q = true then some (PyData.eqv p q) else none | _, _ => none) = some b →
      (∃ p q, Dp X.K H x p ∧ Dp X.K H y q ∧ SeqAt.shaped p = true ∧ SeqAt.shaped q = true ∧ PyData.eqv p q = b) := fun n h => by
    split at h
    · rename_i p q e1 e2
      split at h
      · rename_i hs
        exact ⟨p, q, deep_ok rs n d x p px e1, deep_ok rs n e y q py e2, hs.1, hs.2, Option.some.inj h⟩
      · cases h
    · cases h
  unfold eqD at h
  split at h
  · rename_i v u e1 e2
    split at h
    · rename_i hs
      obtain ⟨rfl, _⟩ := flatOf_ok e1 px
      obtain ⟨rfl, _⟩ := flatOf_ok e2 py
      exact .inl ⟨hs, Option.some.inj h⟩
    · exact .inr (deepCase 2 h)
  · exact .inr (deepCase 30 h)
theorem od_eq (hu : X.A.units + 64 < cLine) : OpD X ad (compareOp .Eq) gEq where
  ok := by
    refine ⟨_, OpR.or op_eq (op_eqD hu), ?_⟩
    intro S r O H x y d e W σ Q rs px py p
    unfold gEq at p
    split at p
    · rename_i b hb
      have q := p S r H (.bl b) (Ext.refl _ _) rs rfl
      rcases eqD_ok rs px py hb with ⟨h1, h2⟩ | ⟨p1, p2, h1, h2, h3, h4, h5⟩
      · exact .inl ⟨h1, by rw [h2]; exact q⟩
      · exact .inr ⟨p1, p2, h1, h2, h3, h4, by rw [h5]; exact q⟩
    · exact p.elim
theorem od_ne (hu : X.A.units + 64 < cLine) : OpD X ad (compareOp .NotEq) gNe where
  ok := by
    refine ⟨_, OpR.or op_ne (op_neD hu), ?_⟩
    intro S r O H x y d e W σ Q rs px py p
    unfold gNe at p
    split at p
    · rename_i b hb
      have q := p S r H (.bl (!b)) (Ext.refl _ _) rs rfl
      rcases eqD_ok rs px py hb with ⟨h1, h2⟩ | ⟨p1, p2, h1, h2, h3, h4, h5⟩
      · exact .inl ⟨h1, by rw [h2]; exact q⟩
      · exact .inr ⟨p1, p2, h1, h2, h3, h4, by rw [h5]; exact q⟩
    · exact p.elim
def isNon : D → Bool
  | .non => true
  | _ => false
theorem isNon_ok {K : PySem.W.Frag} {S : Hp} {r : Rg} {d : D} {x : V} (p : Rp K S r d x) : decide (x = .non) = isNon d := by
  cases d with
  | non => rw [show x = .non from p]; rfl
  | bl b => rw [show x = .bl b from p]; rfl
  | int i => rw [show x = .int i from p]; rfl
  | str s => rw [show x = .str s from p]; rfl
  | lst s => obtain ⟨a, _, rfl, _⟩ := p; rfl
  | rol s => obtain ⟨a, _, rfl, _⟩ := p; rfl
  | tup s => obtain ⟨a, _, rfl, _⟩ := p; rfl
  | hdl s => obtain ⟨a, rfl, _⟩ := p; rfl
def gIs : Store → D → D → Option (D × Store) := fun O x y => match y with
  | .non => some (.bl (isNon x), O)
  | _ => none
def gIsNot : Store → D → D → Option (D × Store) := fun O x y => match y with
  | .non => some (.bl (!isNon x), O)
  | _ => none
theorem od_is : OpD X ad (compareOp .Is) gIs where
  ok := by
    refine ⟨_, op_isN, ?_⟩
    intro S r O H x y d e W σ Q rs px py p
    unfold gIs at p
    split at p
    · exact ⟨py, by rw [isNon_ok px]; exact p S r H _ (Ext.refl _ _) rs rfl⟩
    · exact p.elim
/-- in, not in: a sign in a text; a flat value in a list or tuple of flat ones -/
def inD (O : Store) (x y : D) : Option Bool := match x, y with
  | .str z, .str w => match z.cps.toList with
    | [c] => some (decide (c ∈ w.cps.toList))
    | _ => none
  | _, _ => match seqOf O y, flatOf x with
    | some ds, some v => match ds.mapM flatOf with
      | some vs => some (inV v vs)
      | none => none
    | _, _ => none
def gIn : Store → D → D → Option (D × Store) := fun O x y => match inD O x y with
  | some b => some (.bl b, O)
  | none => none
def gNotIn : Store → D → D → Option (D × Store) := fun O x y => match inD O x y with
  | some b => some (.bl (!b), O)
  | none => none
theorem flats_ok {K : PySem.W.Frag} {S : Hp} {r : Rg} : ∀ {ds : List D} {vs us : List V}, ds.mapM flatOf = some vs → RpAll K S r ds us → us = vs ∧ vs.all flatV = true
  | [], vs, us, e, h => by
    have e : some [] = some vs := by rw [List.mapM_nil] at e; exact e
    cases e
    exact ⟨h, rfl⟩
  | d :: ds, vs, us, e, h => by
    obtain ⟨v, vr, rfl, h1, h2⟩ := h
    rw [mapM_cons] at e
    cases e1 : flatOf d with
    | none => rw [e1] at e; cases e
    | some p =>
      rw [e1] at e
      cases e2 : ds.mapM flatOf with
      | none => rw [e2] at e; cases e
      | some qs =>
        rw [e2] at e
        cases e
        obtain ⟨rfl, f1⟩ := flatOf_ok e1 h1
        obtain ⟨rfl, f2⟩ := flats_ok e2 h2
        exact ⟨rfl, by rw [List.all_cons, f1, f2]; rfl⟩
theorem inD_ok {S : Hp} {r : Rg} {O : Store} {H : Hp} {x y : V} {d e : D} {b : Bool} (rs : Rs X.K ad S r O H) (px : Rp X.K S r d x) (py : Rp X.K S r e y) (h : inD O d e = some b) :
    (∃ (c : Nat) (z : Str), x = .str ⟨#[c]⟩ ∧ y = .str z ∧ decide (c ∈ z.cps.toList) = b) ∨ (∃ p xs, y = .ref p ∧ (SqL X.K H p xs ∨ SqT X.K H p xs) ∧ flatV x = true ∧ xs.all flatV = true ∧ inV x xs = b) := by
  unfold inD at h
  split at h
  · rename_i z w
    split at h
    · rename_i c hc
      refine .inl ⟨c, w, ?_, py, Option.some.inj h⟩
      rw [show x = .str z from px]
      congr 1
      obtain ⟨⟨l⟩⟩ := z
      have hc : l = [c] := hc
      rw [hc]
    · cases h
  · split at h
    · rename_i ds v e1 e2
      split at h
      · rename_i vs e3
        obtain ⟨a, us, rfl, q1, q2⟩ := seqOf_ok rs py e1
        obtain ⟨rfl, f1⟩ := flatOf_ok e2 px
        obtain ⟨rfl, f2⟩ := flats_ok e3 q2
        exact .inr ⟨a, us, rfl, q1, f1, f2, Option.some.inj h⟩
      · cases h
    · cases h
theorem od_in : OpD X ad (compareOp .In) gIn where
  ok := by
    refine ⟨_, OpR.or op_in_sign op_in_seq, ?_⟩
    intro S r O H x y d e W σ Q rs px py p
    unfold gIn at p
    split at p
    · rename_i b hb
      have q := p S r H (.bl b) (Ext.refl _ _) rs rfl
      rcases inD_ok rs px py hb with ⟨c, z, h1, h2, h3⟩ | ⟨p1, xs, h1, h2, h3, h4, h5⟩
      · exact .inl ⟨c, z, h1, h2, by rw [h3]; exact q⟩
      · exact .inr ⟨p1, xs, h1, h2, h3, h4, by rw [if_neg Bool.false_ne_true, h5]; exact q⟩
    · exact p.elim
theorem od_notin : OpD X ad (compareOp .NotIn) gNotIn where
  ok := by
    refine ⟨_, OpR.or op_notIn_sign op_notIn_seq, ?_⟩
    intro S r O H x y d e W σ Q rs px py p
    unfold gNotIn at p
    split at p
    · rename_i b hb
      have q := p S r H (.bl (!b)) (Ext.refl _ _) rs rfl
      rcases inD_ok rs px py hb with ⟨c, z, h1, h2, h3⟩ | ⟨p1, xs, h1, h2, h3, h4, h5⟩
      · exact .inl ⟨c, z, h1, h2, by rw [h3]; exact q⟩
      · exact .inr ⟨p1, xs, h1, h2, h3, h4, by rw [if_pos rfl, h5]; exact q⟩
    · exact p.elim
end
/-! ### subscripts -/
/-- xs[i], t[i], s[i] -/
def gIx : Store → D → D → Option (D × Store) := fun O x y => match y with
  | .int i => match x with
    | .str s => if s.length ≤ 1000000 then (match atI s.cps.toList i with
      | some c => some (.str ⟨#[c]⟩, O)
      | none => none) else none
    | _ => match seqOf O x with
      | some ds => match atI ds i with
        | some d => some (d, O)
        | none => none
      | none => none
  | _ => none
section
variable {X : Cx} {ad : Str → Addr} {J : JP} {W : WX} {pos p2 : Pos} {a b e : Expr} {ma mb : EM}
theorem atI_rp {K : PySem.W.Frag} {S : Hp} {r : Rg} {ds : List D} {vs : List V} {i : Int} {d : D} (h : RpAll K S r ds vs) (e : atI ds i = some d) : ∃ v, atI vs i = some v ∧ Rp K S r d v := by
  unfold atI at e ⊢
  rw [h.length]
  cases hj : ixN ds.length i with
  | none => rw [hj] at e; cases e
  | some j =>
    rw [hj] at e
    exact h.get e
theorem de_ix (ha : PE X a (tE X.K ad J W ma)) (hb : PE X b (tE X.K ad J W mb)) (hs : PlainIx b) : PE X (.Subscript a b pos) (tE X.K ad J W (mOp gIx ma mb)) := by
  refine pe_imp (pe_ix ix_seq ha hb hs) ?_
  rintro σ H Q ⟨S, r, L, O, j, rl, rs, p⟩
  refine ⟨S, r, L, O, j, rl, rs, (Post.bind p).imp ?_⟩
  rintro x H1 ⟨S1, r1, d, O1, e1, s1, p1, q1⟩
  refine ⟨S1, r1, L, O1, J.mono e1.s j, rl.mono e1, s1, (Post.bind q1).imp ?_⟩
  rintro y H2 ⟨S2, r2, e, O2, e2, s2, p2, q2⟩
  replace p1 := Rp.mono e2 d x p1
  replace q2 : Post X.K ad (fun S r => Rp X.K S r) W σ S2 r2 Q (ofO (gIx O2 d e)) := q2
  unfold gIx at q2
  split at q2
  · rename_i i
    rw [show y = .int i from p2]
    split at q2
    · rename_i s
      rw [show x = .str s from p1]
      split at q2
      · rename_i hl
        split at q2
        · rename_i c hc
          exact .inr (.inr ⟨s, i, c, rfl, rfl, million hl, hc, q2 S2 r2 H2 _ (Ext.refl _ _) s2 rfl⟩)
        · exact q2.elim
      · exact q2.elim
    · split at q2
      · rename_i ds hds
        split at q2
        · rename_i z hz
          obtain ⟨l, vs, rfl, h1, h2⟩ := seqOf_ok s2 p1 hds
          obtain ⟨v, hv, pv⟩ := atI_rp h2 hz
          have q := q2 S2 r2 H2 v (Ext.refl _ _) s2 pv
          rcases h1 with h1 | h1
          · exact .inl ⟨l, vs, i, v, rfl, rfl, h1, hv, q⟩
          · exact .inr (.inl ⟨l, vs, i, v, rfl, rfl, h1, hv, q⟩)
        · exact q2.elim
      · exact q2.elim
  · exact q2.elim
end
/-- lists alone -/
def lsqOf (O : Store) : D → Option (List D)
  | .lst xs => some xs
  | .rol xs => some xs
  | .hdl n => match O[n]? with
    | some (.lst xs) => some xs
    | _ => none
  | _ => none
theorem lsqOf_ok {K : PySem.W.Frag} {ad : Str → Addr} {S : Hp} {r : Rg} {O : Store} {H : Hp} {d : D} {x : V} {xs : List D} (s : Rs K ad S r O H) (p : Rp K S r d x) (h : lsqOf O d = some xs) : ∃ a vs, x = .ref a ∧ SqL K H a vs ∧ RpAll K S r xs vs := by
  cases d with
  | lst ds =>
    obtain rfl : ds = xs := Option.some.inj h
    obtain ⟨a, vs, e, q, w⟩ := p
    exact ⟨a, vs, e, .of (s.sub _ _ q), w⟩
  | rol ds =>
    obtain rfl : ds = xs := Option.some.inj h
    obtain ⟨a, vs, e, q, w⟩ := p
    exact ⟨a, vs, e, sqL_same s.sub q, w⟩
  | tup ds => cases h
  | hdl n =>
    replace h : (match O[n]? with | some (Ob.lst xs) => some xs | _ => none) = some xs := h
    split at h
    · rename_i zs e
      obtain rfl : zs = xs := Option.some.inj h
      obtain ⟨a, e1, e2, _, vs, e3, e4⟩ := hdl_at s p e
      exact ⟨a, vs, e1, .of e3, e4⟩
    · cases h
  | non => cases h
  | bl b => cases h
  | int i => cases h
  | str z => cases h
/-- a slice's ends -/
abbrev OM := Loc → Store → Res (Option Int)
def oNone : OM := fun _ O => .ok none O
def oSome (m : EM) : OM := fun L O => (m L O).bind fun d O1 => match d with
  | .int i => .ok (some i) O1
  | _ => .bad
def cutD {α : Type} (xs : List α) (lo hi : Option Int) : List α := (xs.drop (HT.sIx xs.length 0 lo)).take (HT.sIx xs.length xs.length hi - HT.sIx xs.length 0 lo)
def gSl (h : Bool) (x : D) (lo hi : Option Int) (O : Store) : Res D := match x with
  | .str s => if s.length ≤ 1000000 then .ok (.str (cutS s lo hi)) O else .bad
  | .tup ds => .ok (.tup (cutD ds lo hi)) O
  | _ => match lsqOf O x with
    | some ds => newL h (cutD ds lo hi) O
    | none => .bad
def mSl (h : Bool) (m : EM) (lo hi : OM) : EM := fun L O => (m L O).bind fun x O1 => (lo L O1).bind fun i O2 => (hi L O2).bind fun j O3 => gSl h x i j O3
section
variable {X : Cx} {ad : Str → Addr} {J : JP} {W : WX} {pos p2 : Pos} {a e : Expr} {ma : EM} {lo hi : Option Expr} {ml mh : OM}
def tO (K : PySem.W.Frag) (ad : Str → Addr) (J : JP) (W : WX) (m : OM) : TO := fun σ H Q => ∃ S r L O, J.p σ S ∧ Rl K S r L σ ∧ Rs K ad S r O H ∧ Post K ad (fun _ _ a v => v = a) W σ S r Q (m L O)
theorem po_imp {t t' : TO} (h : PO X lo t) (k : ∀ σ H Q, t' σ H Q → t σ H Q) : PO X lo t' := ⟨fun pins s σ H Q I q => h.run pins s σ H Q I (k σ H Q q)⟩
theorem do_none : PO X none (tO X.K ad J W oNone) := by
  refine po_imp po_none ?_
  rintro σ H Q ⟨S, r, L, O, j, rl, rs, p⟩
  exact p S r H none (Ext.refl _ _) rs rfl
theorem do_some (he : PE X e (tE X.K ad J W ma)) : PO X (some e) (tO X.K ad J W (oSome ma)) := by
  refine po_imp (po_some he) ?_
  rintro σ H Q ⟨S, r, L, O, j, rl, rs, p⟩
  refine ⟨S, r, L, O, j, rl, rs, (Post.bind p).imp ?_⟩
  rintro x H1 ⟨S1, r1, d, O1, e1, s1, p1, q1⟩
  cases d with
  | int i => exact ⟨i, p1, q1 S1 r1 H1 _ (Ext.refl _ _) s1 rfl⟩
  | non => exact q1.elim
  | bl i => exact q1.elim
  | str s => exact q1.elim
  | lst s => exact q1.elim
  | rol s => exact q1.elim
  | tup s => exact q1.elim
  | hdl s => exact q1.elim
theorem cut_rp {K : PySem.W.Frag} {S : Hp} {r : Rg} {ds : List D} {vs : List V} (h : RpAll K S r ds vs) (lo hi : Option Int) : RpAll K S r (cutD ds lo hi) (cutV vs lo hi) := by
  unfold cutD cutV
  rw [h.length]
  exact (h.drop _).take _
theorem de_sl {hm : Bool} (ha : PE X a (tE X.K ad J W ma)) (hl : PO X lo (tO X.K ad J W ml)) (hh : PO X hi (tO X.K ad J W mh)) : PE X (.Subscript a (.Slice lo hi none p2) pos) (tE X.K ad J W (mSl hm ma ml mh)) := by
  refine pe_imp (pe_slice (SlR.or sl_list (SlR.or sl_tupA sl_str)) ha hl hh) ?_
  rintro σ H Q ⟨S, r, L, O, j, rl, rs, p⟩
  refine ⟨S, r, L, O, j, rl, rs, (Post.bind p).imp ?_⟩
  rintro x H1 ⟨S1, r1, d, O1, e1, s1, p1, q1⟩
  refine ⟨S1, r1, L, O1, J.mono e1.s j, rl.mono e1, s1, (Post.bind q1).imp ?_⟩
  rintro i H2 ⟨S2, r2, i', O2, e2, s2, rfl, q2⟩
  refine ⟨S2, r2, L, O2, J.mono (e1.trans e2).s j, rl.mono (e1.trans e2), s2, (Post.bind q2).imp ?_⟩
  rintro k H3 ⟨S3, r3, k', O3, e3, s3, rfl, q3⟩
  replace p1 := Rp.mono (e2.trans e3) d x p1
  unfold gSl at q3
  split at q3
  · rename_i s
    rw [show x = .str s from p1]
    split at q3
    · rename_i hl
      exact .inr (.inr ⟨s, rfl, million hl, q3 S3 r3 H3 _ (Ext.refl _ _) s3 rfl⟩)
    · exact q3.elim
  · rename_i ds
    obtain ⟨l, vs, rfl, h1, h2⟩ := p1
    have h3 := cut_rp h2 i k
    refine .inr (.inl ⟨l, vs, rfl, sqT_same s3.sub h1, fun ⟨z1, z2⟩ => ?_, fun _ => newT_post s3 h3 q3⟩)
    refine q3 S3 r3 H3 _ (Ext.refl _ _) s3 ⟨l, vs, rfl, h1, ?_⟩
    have e4 : cutV vs i k = vs := by
      unfold cutV
      rw [z1, z2, List.drop_zero, Nat.sub_zero, List.take_length]
    rw [e4] at h3
    exact h3
  · split at q3
    · rename_i ds hds
      obtain ⟨l, vs, rfl, h1, h2⟩ := lsqOf_ok s3 p1 hds
      exact .inl ⟨l, vs, rfl, h1, (newL_post s3 (cut_rp h2 i k) q3).2⟩
    · exact q3.elim
end
end DK
end
section
set_option Elab.async false
set_option linter.all false
set_option autoImplicit false
set_option maxRecDepth 100000
set_option maxHeartbeats 4000000
/-! DKCall: built-ins, methods, fields, objects, by mirrors. -/
namespace DK
open PySem L2
def g1 (f : Store → D → Option (D × Store)) : Store → List D → Option (D × Store) := fun O ds => match ds with
  | [d] => f O d
  | _ => none
def g2 (f : Store → D → D → Option (D × Store)) : Store → List D → Option (D × Store) := fun O ds => match ds with
  | [d, e] => f O d e
  | _ => none
/-! ### len, int, abs, str, list, .. -/
def gLen : Store → D → Option (D × Store) := fun O d => match d with
  | .str s => if s.length ≤ 1000000 then some (.int s.length, O) else none
  | .hdl n => match O[n]? with
    | some (.lst xs) => some (.int xs.length, O)
    | some (.dct xs) => some (.int xs.length, O)
    | _ => none
  | _ => match seqOf O d with
    | some xs => some (.int xs.length, O)
    | none => none
def gInt : Store → D → Option (D × Store) := fun O d => match d with
  | .int i => some (.int i, O)
  | .bl b => some (.int (if b then 1 else 0), O)
  | .str s => if s.length ≤ 640 then (match PySem.intText? s with
    | some n => some (.int n, O)
    | none => none) else none
  | _ => none
def gAbs : Store → D → Option (D × Store) := fun O d => match d with
  | .int i => some (.int (if i < 0 then -i else i), O)
  | _ => none
def gMax2 : Store → D → D → Option (D × Store) := fun O d e => match d, e with
  | .int i, .int j => some (.int (if j > i then j else i), O)
  | _, _ => none
def gMin2 : Store → D → D → Option (D × Store) := fun O d e => match d, e with
  | .int i, .int j => some (.int (if j < i then j else i), O)
  | _, _ => none
def gStr : Store → D → Option (D × Store) := fun O d => match d with
  | .int i => if i.natAbs.log2 < 1920 then some (.str (toString i), O) else none
  | .str s => some (.str s, O)
  | _ => none
def gList (h : Bool) : Store → D → Option (D × Store) := fun O d => match seqOf O d with
  | some xs => newLO h xs O
  | none => none
section
variable {X : Cx} {ad : Str → Addr}
theorem cd_1 {f : Value} {rr : List V → Hp → VK → Prop} {g : Store → D → Option (D × Store)} (hc : CallR X f rr)
    (h : ∀ (S : Hp) (r : Rg) (O : Store) (H : Hp) (x : V) (d : D) (W : WX) (σ : L2.St) (Q : VK), Rs X.K ad S r O H → Rp X.K S r d x → Post X.K ad (fun S r => Rp X.K S r) W σ S r Q (ofO (g O d)) → rr [x] H Q) : CallD X ad f (g1 g) where
  ok := by
    refine ⟨rr, hc, fun S r O H vs ds W σ Q rs p q => ?_⟩
    unfold g1 at q
    split at q
    · rename_i d
      obtain ⟨v, vr, rfl, h1, rfl⟩ := p
      exact h S r O H v d W σ Q rs h1 q
    · exact q.elim
theorem cd_len : CallD X ad (.builtin "len") (g1 gLen) := cd_1 (CallR.or call_len call_lenD) fun S r O H x d W σ Q rs p q => by
  have seqCase : ∀ {xs : List D}, seqOf O d = some xs → Post X.K ad (fun S r => Rp X.K S r) W σ S r Q (ofO (some (D.int xs.length, O))) → ((∃ y n, [x] = [y] ∧ LenV X.K y H n ∧ Q (.int n) H) ∨ (∃ a kvs, [x] = [V.ref a] ∧ H a = some (.dK kvs) ∧ Q (.int kvs.length) H)) := fun {xs} e q => by
    obtain ⟨a, vs, rfl, h1, h2⟩ := seqOf_ok rs p e
    refine .inl ⟨_, vs.length, rfl, ?_, by rw [h2.length]; exact q S r H _ (Ext.refl _ _) rs rfl⟩
    rcases h1 with h1 | h1
    · exact .inl ⟨vs, h1, rfl⟩
    · exact .inr ⟨vs, h1, rfl⟩
  unfold gLen at q
  split at q
  · rename_i s
    rw [show x = .str s from p]
    split at q
    · rename_i hl
      exact .inl ⟨_, s.length, rfl, ⟨million hl, rfl⟩, q S r H _ (Ext.refl _ _) rs rfl⟩
    · exact q.elim
  · rename_i n
    split at q
    · rename_i xs hx
      refine seqCase ?_ q
      show (match O[n]? with | some (Ob.lst xs) => some xs | _ => none) = some xs
      rw [hx]
    · rename_i xs hx
      obtain ⟨a, rfl, h1, _, vs, h2, h3⟩ := hdl_at rs p hx
      have hl : ∀ {ks : List (Key × D)} {us : List (Key × V)}, RpP X.K S r ks us → us.length = ks.length := fun {ks} => by
        induction ks with
        | nil => intro us h; rw [show us = [] from h]; rfl
        | cons k ks ih => intro us h; obtain ⟨_, _, rfl, _, h⟩ := h; rw [List.length_cons, List.length_cons, ih h]
      exact .inr ⟨a, vs, rfl, h2, by rw [hl h3]; exact q S r H _ (Ext.refl _ _) rs rfl⟩
    · exact q.elim
  · split at q
    · rename_i xs hx
      exact seqCase hx q
    · exact q.elim
theorem cd_int : CallD X ad (.type "int") (g1 gInt) := cd_1 (CallR.or call_int1 call_int_str) fun S r O H x d W σ Q rs p q => by
  unfold gInt at q
  split at q
  · rename_i i
    rw [show x = .int i from p]
    exact .inl (.inl ⟨i, rfl, q S r H _ (Ext.refl _ _) rs rfl⟩)
  · rename_i b
    rw [show x = .bl b from p]
    exact .inl (.inr ⟨b, rfl, q S r H _ (Ext.refl _ _) rs rfl⟩)
  · rename_i s
    rw [show x = .str s from p]
    split at q
    · rename_i hl
      split at q
      · rename_i n hn
        exact .inr ⟨s, n, rfl, hn, hl, q S r H _ (Ext.refl _ _) rs rfl⟩
      · exact q.elim
    · exact q.elim
  · exact q.elim
theorem cd_abs : CallD X ad (.builtin "abs") (g1 gAbs) := cd_1 call_abs fun S r O H x d W σ Q rs p q => by
  unfold gAbs at q
  split at q
  · rename_i i
    rw [show x = .int i from p]
    exact ⟨i, rfl, q S r H _ (Ext.refl _ _) rs rfl⟩
  · exact q.elim
theorem cd_str : CallD X ad (.type "str") (g1 gStr) := cd_1 (CallR.or call_str_int SkE.call_str_str) fun S r O H x d W σ Q rs p q => by
  unfold gStr at q
  split at q
  · rename_i i
    rw [show x = .int i from p]
    split at q
    · rename_i hl
      exact .inl ⟨i, rfl, hl, q S r H _ (Ext.refl _ _) rs rfl⟩
    · exact q.elim
  · rename_i i
    rw [show x = .str i from p]
    exact .inr ⟨i, rfl, q S r H _ (Ext.refl _ _) rs rfl⟩
  · exact q.elim
theorem cd_list (h : Bool) : CallD X ad (.type "list") (g1 (gList h)) := cd_1 call_list_of fun S r O H x d W σ Q rs p q => by
  unfold gList at q
  split at q
  · rename_i xs hx
    obtain ⟨a, vs, rfl, h1, h2⟩ := seqOf_ok rs p hx
    rw [ofO_newLO] at q
    exact ⟨a, vs, rfl, h1, (newL_post rs h2 q).2⟩
  · exact q.elim
end
def mNeg (m : EM) : EM := fun L O => (m L O).bind fun d O1 => match d with
  | .int i => .ok (.int (-i)) O1
  | _ => .bad
/-! ### isinstance -/
def tyD (O : Store) : D → Option String
  | .non => some "NoneType"
  | .bl _ => some "bool"
  | .int _ => some "int"
  | .str _ => some "str"
  | .lst _ => some "list"
  | .rol _ => some "list"
  | .tup _ => some "tuple"
  | .hdl n => match O[n]? with
    | some (.lst _) => some "list"
    | some (.dct _) => some "dict"
    | _ => none
/-- isinstance(x, T) -/
def mIsi (T : String) (m : EM) : EM := fun L O => (m L O).bind fun d O1 => match tyD O1 d with
  | some t => match kitB t T with
    | some b => .ok (.bl b) O1
    | none => .bad
  | none => .bad
def kitL (t : String) : List String → Option Bool
  | [] => some false
  | T :: Ts => match kitB t T with
    | some true => some true
    | some false => kitL t Ts
    | none => none
def mIsiT (Ts : List String) (m : EM) : EM := fun L O => (m L O).bind fun d O1 => match tyD O1 d with
  | some t => match kitL t Ts with
    | some b => .ok (.bl b) O1
    | none => .bad
  | none => .bad
section
variable {X : Cx} {ad : Str → Addr} {J : JP} {W : WX} {pos p p2 p3 p4 p5 : Pos} {a b e : Expr} {es : List Expr} {m : EM} {mt : AM}
theorem tyD_ok {S : Hp} {r : Rg} {O : Store} {H : Hp} {d : D} {x : V} {t : String} (rs : Rs X.K ad S r O H) (px : Rp X.K S r d x) (h : tyD O d = some t) : TyX X.K H x (.type t) := by
  cases d with
  | non => cases h; rw [show x = .non from px]; exact .base .non
  | bl b => cases h; rw [show x = .bl b from px]; exact .base (.bl b)
  | int b => cases h; rw [show x = .int b from px]; exact .base (.int b)
  | str b => cases h; rw [show x = .str b from px]; exact .base (.str b)
  | lst s =>
    cases h
    obtain ⟨a, vs, rfl, q, _⟩ := px
    exact .base (.lst (rs.sub _ _ q))
  | rol s =>
    cases h
    obtain ⟨a, vs, rfl, q, _⟩ := px
    rcases sqL_same rs.sub q with (q | ⟨o, q⟩) | ⟨o, its, n, q, c, _⟩
    · exact .base (.lst q)
    · exact .base (.frz q)
    · exact .kList q c
  | tup s =>
    cases h
    obtain ⟨a, vs, rfl, q, _⟩ := px
    rcases sqT_same rs.sub q with (q | ⟨o, q⟩) | ⟨o, its, n, q, c, _⟩
    · exact .base (.tup q)
    · exact .fTuple q
    · exact .kTuple q c
  | hdl n =>
    replace h : (match O[n]? with | some (Ob.lst _) => some "list" | some (Ob.dct _) => some "dict" | _ => none) = some t := h
    split at h
    · rename_i zs e
      cases h
      obtain ⟨a, rfl, _, _, vs, q, _⟩ := hdl_at rs px e
      exact .base (.lst q)
    · rename_i zs e
      cases h
      obtain ⟨a, rfl, _, _, vs, q, _⟩ := hdl_at rs px e
      exact .base (.dK q)
    · cases h
theorem de_isi {T : String} {x : Str} (hg : Gl X "isinstance") (hm : X.mg "isinstance" = none) (hv : bootBuiltins "isinstance" = some (.builtin "isinstance")) (hg2 : Gl X x) (hm2 : X.mg x = none) (hv2 : bootBuiltins x = some (.type T)) (he : PE X e (tE X.K ad J W m))
    (hn : x ≠ "__name__" := by decide) (hd : (x == ("__debug__" : Str)) = false := by decide)
    (hs1 : starEach (e :: [.Name x p2]) X.env = (false, eval e X.env) :: starEach [.Name x p2] X.env := by rfl) (hs2 : starEach (.Name x p2 :: []) X.env = (false, eval (.Name x p2) X.env) :: starEach [] X.env := by rfl)
    (hpl : (backTo pos (starEach [.Name x p2] X.env)).any (·.1) = false := by rfl) : PE X (.Call (.Name "isinstance" p) [e, .Name x p2] [] pos) (tE X.K ad J W (mIsi T m)) := by
  refine pe_imp (pe_callB call_isi hg hm hv (pa_cons he (pa_cons (pe_bltn (v := .ty T) hg2 hm2 hv2 rfl hn hd) pa_nil hs2) hs1) (by decide) (by decide) hs1 hpl) ?_
  rintro σ H Q ⟨S, r, L, O, j, rl, rs, q⟩
  refine ⟨S, r, L, O, j, rl, rs, (Post.bind q).imp ?_⟩
  rintro x H1 ⟨S1, r1, d, O1, e1, s1, p1, q1⟩
  split at q1
  · rename_i t ht
    split at q1
    · rename_i b hb
      exact ⟨x, .ty T, _, .type T, b, rfl, .ty T, tyD_ok s1 p1 ht, kit_ty hb, q1 S1 r1 H1 _ (Ext.refl _ _) s1 rfl⟩
    · exact q1.elim
  · exact q1.elim
theorem de_neg (ha : PE X a (tE X.K ad J W m)) : PE X (.UnaryOp .USub a pos) (tE X.K ad J W (mNeg m)) := by
  refine pe_imp (pe_un un_neg ha) ?_
  rintro σ H Q ⟨S, r, L, O, j, rl, rs, q⟩
  refine ⟨S, r, L, O, j, rl, rs, (Post.bind q).imp ?_⟩
  rintro x H1 ⟨S1, r1, d, O1, e1, s1, p1, q1⟩
  cases d with
  | int i => exact ⟨i, p1, q1 S1 r1 H1 _ (Ext.refl _ _) s1 rfl⟩
  | non => exact q1.elim
  | bl i => exact q1.elim
  | str s => exact q1.elim
  | lst s => exact q1.elim
  | rol s => exact q1.elim
  | tup s => exact q1.elim
  | hdl s => exact q1.elim
end
end DK
end
section
set_option Elab.async false
set_option linter.all false
set_option autoImplicit false
set_option maxRecDepth 100000
set_option maxHeartbeats 4000000
/-! DKObj: lists that change, objects, exceptions, comprehensions, by mirrors. -/
namespace DK
open PySem L2
/-! ### lists that change -/
/-- xs.append(e), the list one of the store -/
def mApp (m e : EM) : EM := fun L O => (m L O).bind fun x O1 => match x with
  | .hdl n => match lstOf O1 (.hdl n) with
    | some _ => (e L O1).bind fun y O2 => match lstOf O2 (.hdl n) with
      | some xs => if xs.length ≤ 1000000 then .ok .non (O2.set n (.lst (xs ++ [y]))) else .bad
      | none => .bad
    | none => .bad
  | _ => .bad
/-- o[i] = v, the list one of the store -/
def bSubL (mo mi : EM) : BM := fun d L O => match mo L O with
  | .ok (.hdl n) O1 => match mi L O1 with
    | .ok (.int i) O2 => match lstOf O2 (.hdl n) with
      | some xs => match ixN xs.length i with
        | some k => some (L, O2.set n (.lst (xs.set k d)))
        | none => none
      | none => none
    | _ => none
  | _ => none
section
variable {X : Cx} {ad : Str → Addr} {J : JP} {W : WX} {pos p p2 apos cpos : Pos} {a b e o : Expr} {es : List Expr} {m me mo mi : EM} {mt : AM}
theorem hdl_lst {S : Hp} {r : Rg} {O : Store} {H : Hp} {n : Nat} {a : Addr} {xs : List D} (rs : Rs X.K ad S r O H) (hr : r.l[n]? = some a) (h : lstOf O (.hdl n) = some xs) : S a = none ∧ ∃ vs, H a = some (.lst vs) ∧ RpAll X.K S r xs vs := by
  replace h : (match O[n]? with | some (Ob.lst xs) => some xs | _ => none) = some xs := h
  split at h
  · rename_i zs hz
    obtain rfl : zs = xs := Option.some.inj h
    exact rs.ob n a _ hr hz
  · cases h
theorem set_lst {S : Hp} {r : Rg} {O : Store} {H : Hp} {n : Nat} {a : Addr} {vs us : List V} {ys : List D} (rs : Rs X.K ad S r O H) (hr : r.l[n]? = some a) (hz : S a = none) (h : RpAll X.K S r ys us) : Rs X.K ad S r (O.set n (.lst ys)) (upd H a (.lst us)) :=
  rs.write hr hz ⟨hz, us, upd_same, h⟩
theorem de_app (hm : PE X o (tE X.K ad J W m)) (he : PE X e (tE X.K ad J W me)) (hbase : attributeBase o "append" X.env (eval o X.env) = eval o X.env := by rfl)
    (hfew : ((backTo cpos (starEach (e :: []) X.env)).all (fun x => !x.1) && (backToKw cpos (keywordEach [] X.env)).all (fun x => x.1.isSome)
      && decide ((e :: []).length + ([] : List Keyword).length + (if ([] : List Keyword).isEmpty then 0 else 1) < 30)) = true := by rfl)
    (hline : (apos.endLine == cpos.line) = true := by rfl) (hs : starEach (e :: []) X.env = (false, eval e X.env) :: starEach [] X.env := by rfl) (hplain : (backTo cpos (starEach [] X.env)).any (·.1) = false := by rfl) :
    PE X (.Call (.Attribute o "append" apos) [e] [] cpos) (tE X.K ad J W (mApp m me)) := by
  refine pe_imp (pe_bm PySem.F.plainAttrs_list PySem.F.slot_list_append PySem.F.type_list_append mt_append hm (pa_cons he pa_nil hs) hbase hfew hline hs hplain) ?_
  rintro σ H Q ⟨S, r, L, O, j, rl, rs, q⟩
  refine ⟨S, r, L, O, j, rl, rs, (Post.bind q).imp ?_⟩
  rintro x H1 ⟨S1, r1, d, O1, e1, s1, p1, q1⟩
  cases d with
  | hdl n =>
    obtain ⟨l, rfl, hl⟩ := p1
    replace q1 : Post X.K ad (fun S r => Rp X.K S r) W σ S1 r1 Q (match lstOf O1 (.hdl n) with
      | some _ => (me L O1).bind fun y O2 => match lstOf O2 (.hdl n) with
        | some xs => if xs.length ≤ 1000000 then .ok .non (O2.set n (.lst (xs ++ [y]))) else .bad
        | none => .bad
      | none => .bad) := q1
    split at q1
    · rename_i zs hz
      obtain ⟨_, vs, g1, g2⟩ := hdl_lst s1 hl hz
      refine ⟨.inl ⟨rfl, vs, .of g1⟩, S1, r1, L, O1, J.mono e1.s j, rl.mono e1, s1, (Post.bind q1).imp ?_⟩
      rintro y H2 ⟨S2, r2, d, O2, e2, s2, p2, q2⟩
      have hl2 := pre_get e2.r hl
      replace q2 : Post X.K ad (fun S r => Rp X.K S r) W σ S2 r2 Q (match lstOf O2 (.hdl n) with | some xs => if xs.length ≤ 1000000 then .ok .non (O2.set n (.lst (xs ++ [d]))) else .bad | none => .bad) := q2
      split at q2
      · rename_i xs hx
        obtain ⟨z2, us, g3, g4⟩ := hdl_lst s2 hl2 hx
        split at q2
        · rename_i hlen
          exact ⟨l, us, y, rfl, rfl, g3, by rw [g4.length]; exact million_lt hlen, q2 S2 r2 _ _ (Ext.refl _ _) (set_lst (vs := us) s2 hl2 z2 (g4.append (.cons p2 .nil))) rfl⟩
        · exact q2.elim
      · exact q2.elim
    · exact q1.elim
  | non => exact q1.elim
  | bl i => exact q1.elim
  | int i => exact q1.elim
  | str s => exact q1.elim
  | lst s => exact q1.elim
  | rol s => exact q1.elim
  | tup s => exact q1.elim
theorem dg_subL (ho : PE X o (tE X.K ad J W mo)) (hi : PE X e (tE X.K ad J W mi))
    (ha : ∀ v, assign (.Subscript o e pos) X.env v = (do
      let ov ← holding [v] (eval o X.env)
      let iv ← holding [v, ov] (eval e X.env)
      standAt pos
      holding [v, ov, iv] (setItem ov iv v)
      release [v, ov, iv] []) := by intro _; rfl) : PG X (.Subscript o e pos) (tG X.K ad J (bSubL mo mi)) := by
  refine pg_imp (pg_sub ho hi set_list ha) ?_
  rintro v σ H Q ⟨S, r, L, O, d, j, rl, rs, rp, q⟩
  refine ⟨S, r, L, O, j, rl, rs, ?_⟩
  replace q : PostB X.K ad J S r Q (match mo L O with
    | .ok (.hdl n) O1 => match mi L O1 with
      | .ok (.int i) O2 => match lstOf O2 (.hdl n) with
        | some xs => match ixN xs.length i with
          | some k => some (L, O2.set n (.lst (xs.set k d)))
          | none => none
        | none => none
      | _ => none
    | _ => none) := q
  generalize mo L O = z at q
  cases z with
  | exc x O1 => exact q.elim
  | bad => exact q.elim
  | ok y O1 =>
    intro S1 r1 H1 u e1 s1 p1
    cases y with
    | hdl n =>
      obtain ⟨l, rfl, hl⟩ := p1
      refine ⟨S1, r1, L, O1, J.mono e1.s j, rl.mono e1, s1, ?_⟩
      replace q : PostB X.K ad J S r Q (match mi L O1 with
        | .ok (.int i) O2 => match lstOf O2 (.hdl n) with
          | some xs => match ixN xs.length i with
            | some k => some (L, O2.set n (.lst (xs.set k d)))
            | none => none
          | none => none
        | _ => none) := q
      generalize mi L O1 = z at q
      cases z with
      | exc x O2 => exact q.elim
      | bad => exact q.elim
      | ok y O2 =>
        intro S2 r2 H2 u2 e2 s2 p2
        cases y with
        | int i =>
          rw [show u2 = .int i from p2]
          have hl2 := pre_get e2.r hl
          replace q : PostB X.K ad J S r Q (match lstOf O2 (.hdl n) with
            | some xs => match ixN xs.length i with
              | some k => some (L, O2.set n (.lst (xs.set k d)))
              | none => none
            | none => none) := q
          split at q
          · rename_i xs hx
            obtain ⟨z2, us, g3, g4⟩ := hdl_lst s2 hl2 hx
            split at q
            · rename_i k hk
              refine ⟨l, us, i, k, rfl, rfl, g3, by rw [g4.length]; exact hk, ?_⟩
              exact q S2 r2 σ _ (e1.trans e2) (J.mono (e1.trans e2).s j) (rl.mono (e1.trans e2)) (set_lst (vs := us) s2 hl2 z2 (g4.set k (Rp.mono (e1.trans e2) d v rp)))
            · exact q.elim
          · exact q.elim
        | non => exact q.elim
        | bl i => exact q.elim
        | hdl i => exact q.elim
        | str s => exact q.elim
        | lst s => exact q.elim
        | rol s => exact q.elim
        | tup s => exact q.elim
    | non => exact q.elim
    | bl i => exact q.elim
    | int i => exact q.elim
    | str s => exact q.elim
    | lst s => exact q.elim
    | rol s => exact q.elim
    | tup s => exact q.elim
end
/-- a, b = a list -/
def bLst (n : Nat) (c : BsM) : BM := fun d L O => match lsqOf O d with
  | some ds => if ds.length = n then c ds L O else none
  | none => none
/-! ### objects -/
def mFld (c f : Str) (m : EM) : EM := fun L O => (m L O).bind fun x O1 => match x with
  | .hdl n => match O1[n]? with
    | some (.ins c' fs) => if c' = c then (match fs.lookup f with
      | some d => .ok d O1
      | none => .bad) else .bad
    | _ => .bad
  | _ => .bad
def putD (f : Str) (d : D) : List (Str × D) → List (Str × D)
  | [] => [(f, d)]
  | (g, e) :: r => if g = f then (g, d) :: r else (g, e) :: putD f d r
/-- o.f = e : the value first -/
def sFldM (c f : Str) (mo mv : EM) : SM := fun L O => ofRes L (mv L O) fun y O1 => ofRes L (mo L O1) fun x O2 => match x with
  | .hdl n => match O2[n]? with
    | some (.ins c' fs) => if c' = c ∧ fs.length < 1000 then .next L (O2.set n (.ins c' (putD f y fs))) else .bad
    | _ => .bad
  | _ => .bad
def mMeth (c m : Str) (f : FM) (dds : List D) (mo : EM) (t : AM) : EM := fun L O => (mo L O).bind fun x O1 => match x with
  | .hdl n => match O1[n]? with
    | some (.ins c' fs) => if c' = c ∧ fs.lookup m = none then (t L O1).bind fun xs O2 => f (.hdl n :: (xs ++ dds)) O2 else .bad
    | _ => .bad
  | _ => .bad
def mMake (c : Str) (f : FM) (dds : List D) (t : AM) : EM := fun L O => (t L O).bind fun xs O1 => (f (.hdl O1.length :: (xs ++ dds)) (O1 ++ [.ins c []])).bind fun d O2 => match d with
  | .non => .ok (.hdl O1.length) O2
  | _ => .bad
section
variable {K : PySem.W.Frag} {S : Hp} {r : Rg}
theorem RpP.lookup {f : Str} : ∀ {fs : List (Str × D)} {gs : List (Str × V)} {d : D}, RpP K S r fs gs → fs.lookup f = some d → ∃ v, gs.lookup f = some v ∧ Rp K S r d v
  | [], gs, d, h, e => by cases e
  | (g, x) :: fs, gs, d, h, e => by
    obtain ⟨v, gr, rfl, h1, h2⟩ := h
    rw [List.lookup_cons] at e ⊢
    cases hb : f == g with
    | true =>
      rw [hb] at e
      cases e
      exact ⟨v, rfl, h1⟩
    | false =>
      rw [hb] at e
      exact RpP.lookup h2 e
theorem RpP.length {κ : Type} : ∀ {fs : List (κ × D)} {gs : List (κ × V)}, RpP K S r fs gs → gs.length = fs.length
  | [], gs, h => by rw [show gs = [] from h]; rfl
  | (g, x) :: fs, gs, h => by
    obtain ⟨v, gr, rfl, h1, h2⟩ := h
    rw [List.length_cons, List.length_cons, RpP.length h2]
end
end DK
end
section
set_option Elab.async false
set_option linter.all false
set_option autoImplicit false
set_option maxRecDepth 100000
set_option maxHeartbeats 4000000
/-! DKExc: raise, try, comprehensions, by mirrors. -/
namespace DK
open PySem L2
abbrev WF : WX := fun _ _ _ _ => False
theorem takesF {X : Cx} : Takes X WF := takes0
/-! ### raise, try -/
def sRaise (c : Str) (t : AM) : SM := fun L O => ofRes L (t L O) fun ds O1 => if ds.length ≤ 1000 then .exc ⟨c, none⟩ L O1 else .bad
section
variable {X : Cx} {ad : Str → Addr} {J : JP} {W : WX} {pos pos' p p2 np : Pos} {e : Expr} {es : List Expr} {mt : AM} {c : Str} {body suite : List Stmt} {b0 : Stmt} {sb : SM} {ss : Str → SM}
theorem ds_raise {x : Str} {bmB : List Value} {B newId initId : String} (hc : X.calm = true) (tk : Takes X W) (F : ExcBaseFacts B newId initId bmB) (q : PySem.W.excIn X.K (ad c) bmB newId = true) (gC : X.mg x = some (.ref (ad c))) (kC : PySem.W.keepIn X.K (.ref (ad c)) = true) (r : Raises X (.ref (ad c))) (hg : Gl X x)
    (ha : PA X (e :: es) (tA X.K ad J W mt)) (hdb : (x == ("__debug__" : Str)) = false := by decide) (he : starEach (e :: es) X.env = (false, eval e X.env) :: starEach es X.env := by rfl) (hpl : (backTo p2 (starEach es X.env)).any (·.1) = false := by rfl) :
    PS X (.Raise (some (.Call (.Name x p) (e :: es) [] p2)) none pos) (tS X.K ad J W (sRaise c mt)) := by
  refine ps_imp (ps_raise hc tk (pmk_ownA F q gC kC r hg ha hdb he hpl)) ?_
  rintro En σ H ⟨S, r, L, O, j, rl, rs, z⟩
  refine ⟨S, r, L, O, j, rl, rs, (bindS j rl z).imp ?_⟩
  rintro vs H1 ⟨S1, r1, ds, O1, e1, s1, p1, q1⟩
  replace q1 : PostS X.K ad J W S1 r1 En (if ds.length ≤ 1000 then .exc ⟨c, none⟩ L O1 else .bad) := q1
  split at q1
  · rename_i hl
    exact ⟨by rw [p1.length]; exact million (by omega), q1 S1 r1 σ H1 none (Ext.refl _ _) (J.mono e1.s j) (rl.mono e1) s1 rfl⟩
  · exact q1.elim
/-- a statement whose mirror is told by what is at hand -/
theorem pss_ex {α : Type} {st : List Stmt} {P : α → Prop} {t : α → TS} (h : ∀ x, P x → PSs X st (t x)) : PSs X st (fun En σ H => ∃ x, P x ∧ t x En σ H) := ⟨fun pins s σ H En I ⟨x, hp, q⟩ => (h x hp).run pins s σ H En I q⟩
end
/-! ### comprehensions -/
def wipeL (L : Loc) : List Nat → Loc
  | [] => L
  | v :: vs => (wipeL L vs).set v none
def lcTurn (vs : List Nat) (b : BM) (tt : TM) (el : EM) (L : Loc) (d : D) (O : Store) (acc : List D) : Option (Store × List D) := match b d (wipeL L vs) O with
  | some p => match tt p.1 p.2 with
    | .ok true O2 => match el p.1 O2 with
      | .ok y O3 => if acc.length ≤ 900000 then some (O3, acc ++ [y]) else none
      | _ => none
    | .ok false O2 => some (O2, acc)
    | _ => none
  | none => none
def lcG (nx : Nat → Store → Option (Option D)) (turn : D → Store → List D → Option (Store × List D)) : Nat → Nat → Store → List D → Option (Store × List D)
  | 0, i, O, acc => match nx i O with
    | some none => some (O, acc)
    | _ => none
  | k + 1, i, O, acc => match nx i O with
    | some none => some (O, acc)
    | some (some d) => match turn d O acc with
      | some p => lcG nx turn k (i + 1) p.1 p.2
      | none => none
    | none => none
def mYes : TM := fun _ O => .ok true O
def lcEnd (h : Bool) : Option (Store × List D) → Res D
  | some p => newL h p.2 p.1
  | none => .bad
/-- over a list -/
def mLcL (h : Bool) (src : EM) (vs : List Nat) (b : BM) (tt : TM) (el : EM) : EM := fun L O => (src L O).bind fun d O1 => match lsqOf O1 d with
  | some xs => lcEnd h (lcG (fun i O => (lsqOf O d).map (·[i]?)) (lcTurn vs b tt el L) xs.length 0 O1 [])
  | none => .bad
/-- what a block may not touch -/
def Cl (vs : List Nat) (J : JP) : Prop := ∀ (σ : L2.St) (v : V) (S : Hp) (i : Nat), i ∈ vs → J.p σ S → J.p (σ.set i (some v)) S
section
variable {X : Cx} {ad : Str → Addr} {J : JP} {W : WX} {pos p q : Pos} {a b tg elt iter : Expr} {ifs : List Expr} {m me : EM} {mt : AM} {bm : BM} {tm : TM} {own : List (Str × Nat)} {scope : Scope}
theorem wipe_rl {K : PySem.W.Frag} {S : Hp} {r : Rg} {L : Loc} {σ : L2.St} (h : Rl K S r L σ) : ∀ vs : List Nat, Rl K S r (wipeL L vs) (wipe σ vs)
  | [] => h
  | v :: vs => by
    unfold wipeL wipe
    exact (wipe_rl h vs).wipe v none
abbrev Jw (vs : List Nat) (σ0 : L2.St) : JP := ⟨fun σ _ => wipe σ vs = σ0, fun _ h => h⟩
theorem wipe_cl {σ0 : L2.St} {vs : List Nat} : Cl vs (Jw vs σ0) := fun σ v _ i hi h => by
  have key : ∀ (vs : List Nat) (σ : L2.St), i ∈ vs → wipe (σ.set i (some v)) vs = wipe σ vs := fun vs => by
    induction vs with
    | nil => intro σ hi; simp at hi
    | cons w ws ih =>
      intro σ hi
      unfold wipe
      by_cases hw : i ∈ ws
      · rw [ih σ hw]
      · have e : i = w := by
          rcases List.mem_cons.mp hi with e | e
          · exact e
          · exact absurd e hw
        subst e
        have comm : ∀ (us : List Nat) (σ : L2.St), i ∉ us → wipe (σ.set i (some v)) us = (wipe σ us).set i (some v) := fun us => by
          induction us with
          | nil => intro σ _; rfl
          | cons u us ih2 =>
            intro σ hu
            unfold wipe
            rw [ih2 σ (fun z => hu (List.mem_cons_of_mem _ z)), List.set_comm _ _ (fun z => hu (by rw [z]; exact List.mem_cons_self))]
        rw [comm ws σ hw, List.set_set]
  show wipe (σ.set i (some v)) vs = σ0
  rw [key vs σ hi]
  exact h
/-- what is told for every J that lets the block's names change -/
def tGx (K : PySem.W.Frag) (ad : Str → Addr) (vs : List Nat) (b : BM) : TG := fun v σ H Q => ∃ J', Cl vs J' ∧ tG K ad J' b v σ H Q
def tTx (K : PySem.W.Frag) (ad : Str → Addr) (vs : List Nat) (m : TM) : TT := fun σ H Q => ∃ J', Cl vs J' ∧ tT K ad J' WF m σ H Q
def tEx (K : PySem.W.Frag) (ad : Str → Addr) (vs : List Nat) (m : EM) : TE := fun σ H Q => ∃ J', Cl vs J' ∧ tE K ad J' WF m σ H Q
theorem gx_of {Y : Cx} {vs : List Nat} (h : ∀ J', Cl vs J' → PG Y tg (tG Y.K ad J' bm)) : PG Y tg (tGx Y.K ad vs bm) := ⟨fun pins s σ H v u Q I r ⟨J', hJ, z⟩ => (h J' hJ).run pins s σ H v u Q I r z⟩
theorem tx_of {Y : Cx} {vs : List Nat} (h : ∀ J', Cl vs J' → PTs Y ifs (tT Y.K ad J' WF tm)) : PTs Y ifs (tTx Y.K ad vs tm) := ⟨fun pins s σ H Q I ⟨J', hJ, z⟩ => (h J' hJ).run pins s σ H Q I z⟩
theorem ex_of {Y : Cx} {vs : List Nat} (h : ∀ J', Cl vs J' → PE Y elt (tE Y.K ad J' WF me)) : PE Y elt (tEx Y.K ad vs me) := ⟨fun pins s σ H Q I ⟨J', hJ, z⟩ => (h J' hJ).run pins s σ H Q I z⟩
theorem dts_nil {Y : Cx} : PTs Y [] (tT Y.K ad J W mYes) := ⟨fun pins s σ H Q I ⟨S, r, L, O, j, rl, rs, z⟩ => pts_nil.run pins s σ H Q I (z S r H true (Ext.refl _ _) rs rfl)⟩
theorem dts_one {Y : Cx} (h : PT Y a (tT Y.K ad J W tm)) : PTs Y [a] (tT Y.K ad J W tm) := pts_one h
/-- a comprehension's loop -/
theorem lc_post {It' : It} {nx : Nat → Store → Option (Option D)} {hm : Bool} {vs : List Nat} {S1 : Hp} {r1 : Rg} {L : Loc} {σ : L2.St} {Q : VK} {k : Nat} {O1 : Store} {H1 : Hp}
    (hgo : ∀ (i : Nat) (S : Hp) (r : Rg) (O : Store) (H : Hp) (d : D), Same S1 S → r1.l <+: r.l → Rs X.K ad S r O H → nx i O = some (some d) → It'.go i H ∧ ∀ x H', It'.yld i H x H' → H' = H ∧ Rp X.K S r d x)
    (hst : ∀ (i : Nat) (S : Hp) (r : Rg) (O : Store) (H : Hp), Same S1 S → r1.l <+: r.l → Rs X.K ad S r O H → nx i O = some none → It'.stop i H)
    (rl : Rl X.K S1 r1 L σ) (rs : Rs X.K ad S1 r1 O1 H1) (z : Post X.K ad (fun S r => Rp X.K S r) W σ S1 r1 Q (lcEnd hm (lcG nx (lcTurn vs bm tm me L) k 0 O1 []))) :
    ∀ Dn, H1 Dn = none → ∃ W' : Nat → Nat → Hp → Prop, (∃ m, W' 0 m (upd H1 Dn (.lst []))) ∧ ∀ i m H, W' i m H →
      (It'.stop i H ∧ Q (.ref Dn) H) ∨ (It'.go i H ∧ ∃ Nx : Hp → Prop, (∀ H', Nx H' → ∃ m', m' < m ∧ W' (i + 1) m' H') ∧ ∀ x H', It'.yld i H x H' → tGx X.K ad vs bm x (wipe σ vs) H' fun σ2 H2 => wipe σ2 vs = wipe σ vs ∧ tTx X.K ad vs tm σ2 H2 fun b H3 =>
        if b = true then tEx X.K ad vs me σ2 H3 fun y H4 => ∃ acc, H4 Dn = some (.lst acc) ∧ acc.length < sizeLine ∧ Nx (upd H4 Dn (.lst (acc ++ [y]))) else Nx H3) := by
  intro Dn hDn
  have hfr : r1.fr Dn = none := rs.fr.free hDn
  have ww : wipe (wipe σ vs) vs = wipe σ vs := by
    have key : ∀ (us : List Nat) (τ : L2.St), (∀ u ∈ us, ∀ w, τ[u]? = some w → w = none) → wipe τ us = τ := fun us => by
      induction us with
      | nil => intro τ _; rfl
      | cons u us ih =>
        intro τ h
        unfold wipe
        rw [ih τ fun u' hu' => h u' (List.mem_cons_of_mem _ hu')]
        refine List.ext_getElem? fun n => ?_
        by_cases hn : u = n
        · subst hn
          by_cases hl : u < τ.length
          · rw [List.getElem?_set_self hl]
            have := h u List.mem_cons_self τ[u] (List.getElem?_eq_getElem hl)
            rw [List.getElem?_eq_getElem hl, this]
          · rw [List.getElem?_eq_none (by rw [List.length_set]; omega), List.getElem?_eq_none (by omega)]
        · rw [List.getElem?_set_ne hn]
    refine key vs _ fun u hu w hw => ?_
    cases w with
    | none => rfl
    | some w => exact absurd hu (wipe_some hw).2
  refine ⟨fun i m H => ∃ S r O acc us, Same S1 S ∧ r1.l <+: r.l ∧ r.fr = r1.fr ∧ Rs X.K ad S (r.at (upd r1.fr Dn (.lst us))) O H ∧ RpAll X.K S r acc us ∧ Post X.K ad (fun S r => Rp X.K S r) W σ S1 r1 Q (lcEnd hm (lcG nx (lcTurn vs bm tm me L) m i O acc)),
    ⟨k, S1, r1, O1, [], [], Same.refl _, List.prefix_rfl, rfl, rs.hold hDn, rfl, z⟩, ?_⟩
  rintro i m H ⟨S, r, O, acc, us, es, el, ef, rs, ra, z⟩
  have fin : nx i O = some none → Post X.K ad (fun S r => Rp X.K S r) W σ S1 r1 Q (lcEnd hm (some (O, acc))) → It'.stop i H ∧ Q (.ref Dn) H := fun hn z => by
    refine ⟨hst i S (r.at (upd r1.fr Dn (.lst us))) O H es el rs hn, ?_⟩
    have rs' : Rs X.K ad S (r.at (upd r.fr Dn (.lst us))) O H := by rw [ef]; exact rs
    obtain ⟨q1, q2, q3, q4⟩ := rs'.unhold (by rw [ef]; exact hfr)
    have e0 : Ext S1 r1 S r := ⟨es, ef, el⟩
    replace z : Post X.K ad (fun S r => Rp X.K S r) W σ S1 r1 Q (newL hm acc O) := z
    unfold newL at z
    split at z
    · cases hm with
      | true =>
        rw [if_pos rfl] at z
        refine z S (r.push Dn) H _ (e0.trans (Ext.push S r Dn)) (q1.pushAt ⟨q3, us, q2, RpAll.mono (Ext.push S r Dn) _ _ ra⟩ q4 (by rw [ef]; exact hfr)) ⟨Dn, rfl, ?_⟩
        show (r.l ++ [Dn])[O.length]? = some Dn
        rw [← q1.len, List.getElem?_append_right (Nat.le_refl _)]
        simp
      | false =>
        rw [if_neg Bool.false_ne_true] at z
        exact z (upd S Dn (.lst us)) r H _ (e0.trans (Ext.new q3)) (q1.sealAt q2 q3 q4 (by rw [ef]; exact hfr)) ⟨Dn, us, rfl, upd_same, RpAll.mono (Ext.new q3) _ _ ra⟩
    · exact z.elim
  have next : ∀ m', m = m' + 1 → ∀ d, nx i O = some (some d) → Post X.K ad (fun S r => Rp X.K S r) W σ S1 r1 Q (lcEnd hm (match lcTurn vs bm tm me L d O acc with | some p => lcG nx (lcTurn vs bm tm me L) m' (i + 1) p.1 p.2 | none => none)) →
      (It'.go i H ∧ ∃ Nx : Hp → Prop, (∀ H', Nx H' → ∃ m'', m'' < m ∧ (∃ S r O acc us, Same S1 S ∧ r1.l <+: r.l ∧ r.fr = r1.fr ∧ Rs X.K ad S (r.at (upd r1.fr Dn (.lst us))) O H' ∧ RpAll X.K S r acc us ∧ Post X.K ad (fun S r => Rp X.K S r) W σ S1 r1 Q (lcEnd hm (lcG nx (lcTurn vs bm tm me L) m'' (i + 1) O acc)))) ∧
        ∀ x H', It'.yld i H x H' → tGx X.K ad vs bm x (wipe σ vs) H' fun σ2 H2 => wipe σ2 vs = wipe σ vs ∧ tTx X.K ad vs tm σ2 H2 fun b H3 =>
          if b = true then tEx X.K ad vs me σ2 H3 fun y H4 => ∃ acc, H4 Dn = some (.lst acc) ∧ acc.length < sizeLine ∧ Nx (upd H4 Dn (.lst (acc ++ [y]))) else Nx H3) := by
    intro m' hm' d hd z
    obtain ⟨g1, g2⟩ := hgo i S (r.at (upd r1.fr Dn (.lst us))) O H d es el rs hd
    refine ⟨g1, _, fun H' hN => ⟨m', by omega, hN⟩, fun x H' hy => ?_⟩
    obtain ⟨rfl, px⟩ := g2 x H' hy
    let rr := r.at (upd r1.fr Dn (.lst us))
    have rlw : Rl X.K S rr (wipeL L vs) (wipe σ vs) := ⟨(wipe_rl rl vs).len, fun n d hn => by
      obtain ⟨v, q1, q2⟩ := (wipe_rl rl vs).at_ n d hn
      exact ⟨v, q1, Rp.monoW (r' := rr) es el d v q2⟩⟩
    refine ⟨Jw vs (wipe σ vs), wipe_cl, S, rr, wipeL L vs, O, d, ww, rlw, rs, px, ?_⟩
    unfold lcTurn at z
    generalize bm d (wipeL L vs) O = w at z
    cases w with
    | none => exact z.elim
    | some w =>
      intro S2 r2 σ2 H2 e2 j2 l2 s2
      refine ⟨j2, Jw vs (wipe σ vs), wipe_cl, S2, r2, w.1, w.2, j2, l2, s2, ?_⟩
      replace z : Post X.K ad (fun S r => Rp X.K S r) W σ S1 r1 Q (lcEnd hm (match (match tm w.1 w.2 with
        | .ok true O2 => match me w.1 O2 with
          | .ok y O3 => if acc.length ≤ 900000 then some (O3, acc ++ [y]) else none
          | _ => none
        | .ok false O2 => some (O2, acc)
        | _ => none) with | some p => lcG nx (lcTurn vs bm tm me L) m' (i + 1) p.1 p.2 | none => none)) := z
      generalize tm w.1 w.2 = t at z
      cases t with
      | exc x O3 => exact z.elim
      | bad => exact z.elim
      | ok k O3 =>
        intro S3 r3 H3 k' e3 s3 ek
        obtain rfl : k' = k := ek
        cases k' with
        | false =>
          rw [if_neg Bool.false_ne_true]
          have e23 := e2.trans e3
          have hr3 : r3 = (r3.at r1.fr).at (upd r1.fr Dn (.lst us)) := by
            obtain ⟨l3, f3⟩ := r3
            have : f3 = upd r1.fr Dn (.lst us) := e23.f
            subst this
            rfl
          rw [hr3] at s3
          exact ⟨S3, r3.at r1.fr, O3, acc, us, es.trans e23.s, List.IsPrefix.trans el e23.r, rfl, s3, RpAll.monoW (r := r) (r' := r3.at r1.fr) e23.s e23.r _ _ ra, z⟩
        | true =>
          rw [if_pos rfl]
          refine ⟨Jw vs (wipe σ vs), wipe_cl, S3, r3, w.1, O3, j2, l2.mono e3, s3, ?_⟩
          replace z : Post X.K ad (fun S r => Rp X.K S r) W σ S1 r1 Q (lcEnd hm (match (match me w.1 O3 with
            | .ok y O3 => if acc.length ≤ 900000 then some (O3, acc ++ [y]) else none
            | _ => none) with | some p => lcG nx (lcTurn vs bm tm me L) m' (i + 1) p.1 p.2 | none => none)) := z
          generalize me w.1 O3 = t at z
          cases t with
          | exc x O3 => exact z.elim
          | bad => exact z.elim
          | ok y O4 =>
            intro S4 r4 H4 v e4 s4 pv
            have e24 := (e2.trans e3).trans e4
            have hr4 : r4 = (r4.at r1.fr).at (upd r1.fr Dn (.lst us)) := by
              obtain ⟨l4, f4⟩ := r4
              have : f4 = upd r1.fr Dn (.lst us) := e24.f
              subst this
              rfl
            rw [hr4] at s4
            replace z : Post X.K ad (fun S r => Rp X.K S r) W σ S1 r1 Q (lcEnd hm (match (if acc.length ≤ 900000 then some (O4, acc ++ [y]) else none) with | some p => lcG nx (lcTurn vs bm tm me L) m' (i + 1) p.1 p.2 | none => none)) := z
            split at z
            · rename_i hacc
              split at hacc
              · rename_i hlen
                cases hacc
                refine ⟨us, s4.fr Dn _ upd_same, by rw [ra.length]; exact million_lt (by omega), S4, r4.at r1.fr, O4, acc ++ [y], us ++ [v], es.trans e24.s, List.IsPrefix.trans el e24.r, rfl, s4.rehold, ?_, z⟩
                exact (RpAll.monoW (r := r) (r' := r4.at r1.fr) e24.s e24.r _ _ ra).append (.cons (Rp.monoW (r := r4) (r' := r4.at r1.fr) (Same.refl _) List.prefix_rfl _ _ pv) .nil)
              · cases hacc
            · exact z.elim
  cases hn : nx i O with
  | none =>
    have e : lcG nx (lcTurn vs bm tm me L) m i O acc = none := by
      cases m with
      | zero => unfold lcG; rw [hn]
      | succ m => unfold lcG; rw [hn]
    rw [e] at z
    exact z.elim
  | some o =>
    cases o with
    | none =>
      have e : lcG nx (lcTurn vs bm tm me L) m i O acc = some (O, acc) := by
        cases m with
        | zero => unfold lcG; rw [hn]
        | succ m => unfold lcG; rw [hn]
      rw [e] at z
      exact .inl (fin hn z)
    | some d =>
      cases m with
      | zero =>
        have e : lcG nx (lcTurn vs bm tm me L) 0 i O acc = none := by unfold lcG; rw [hn]
        rw [e] at z
        exact z.elim
      | succ m =>
        have e : lcG nx (lcTurn vs bm tm me L) (m + 1) i O acc = (match lcTurn vs bm tm me L d O acc with | some p => lcG nx (lcTurn vs bm tm me L) m (i + 1) p.1 p.2 | none => none) := by
          show (match nx i O with | some none => some (O, acc) | some (some d) => (match lcTurn vs bm tm me L d O acc with | some p => lcG nx (lcTurn vs bm tm me L) m (i + 1) p.1 p.2 | none => none) | none => none) = _
          rw [hn]
        rw [e] at z
        exact .inr (next m rfl d hn z)
theorem lcL_imp {hm : Bool} : ∀ σ H Q, (tE X.K ad J W (mLcL hm m (own.map (·.2)) bm tm me)) σ H Q → tLc (iList X.K (tE X.K ad J W m)) (tGx X.K ad (own.map (·.2)) bm) (tTx X.K ad (own.map (·.2)) tm) (tEx X.K ad (own.map (·.2)) me) (own.map (·.2)) σ H Q := by
  rintro σ H Q ⟨S, r, L, O, j, rl, rs, z⟩
  refine ⟨S, r, L, O, j, rl, rs, (Post.bind z).imp ?_⟩
  rintro x H1 ⟨S1, r1, d, O1, e1, s1, p1, q1⟩
  replace q1 : Post X.K ad (fun S r => Rp X.K S r) W σ S1 r1 Q (match lsqOf O1 d with
    | some xs => lcEnd hm (lcG (fun i O => (lsqOf O d).map (·[i]?)) (lcTurn (own.map (·.2)) bm tm me L) xs.length 0 O1 [])
    | none => .bad) := q1
  split at q1
  · rename_i xs hx
    obtain ⟨a, vs, rfl, h1, h2⟩ := lsqOf_ok s1 p1 hx
    refine ⟨a, rfl, ⟨vs, h1⟩, lc_post (fun i S r O H d' es el rs hn => ?_) (fun i S r O H es el rs hn => ?_) (rl.mono e1) s1 q1⟩
    · obtain ⟨ys, hy, e⟩ := Option.map_eq_some_iff.mp (show (lsqOf O d).map (·[i]?) = some (some d') from hn)
      obtain ⟨a', us, ea, g1, g2⟩ := lsqOf_ok rs (Rp.monoW es el d _ p1) hy
      cases ea
      obtain ⟨v, hv, pv⟩ := g2.get e
      exact ⟨⟨us, v, g1, hv⟩, fun x H' hyy => ⟨hyy.1, by rw [Option.some.inj ((hyy.2 us g1).symm.trans hv)]; exact pv⟩⟩
    · obtain ⟨ys, hy, e⟩ := Option.map_eq_some_iff.mp (show (lsqOf O d).map (·[i]?) = some none from hn)
      obtain ⟨a', us, ea, g1, g2⟩ := lsqOf_ok rs (Rp.monoW es el d _ p1) hy
      cases ea
      exact ⟨us, g1, by rw [g2.length]; exact List.getElem?_eq_none_iff.mp e⟩
  · exact q1.elim
theorem de_lcL {hm : Bool} (hc : X.calm = true) (hN : X.N.Nodup) (hi : PE X iter (tE X.K ad J W m)) (ok : BlkOk X.N X.env.scope scope own)
    (hg : ∀ (s : Shared) (H : Hp) (C : Addr) (cl : List (Str × Addr)) (fp : List Addr) (J' : JP), Cl (own.map (·.2)) J' → PG (X.blk s H scope (PySem.compEnvC scope cl C X.env) fp) tg (tG X.K ad J' bm))
    (ht : ∀ (s : Shared) (H : Hp) (C : Addr) (cl : List (Str × Addr)) (fp : List Addr) (J' : JP), Cl (own.map (·.2)) J' → PTs (X.blk s H scope (PySem.compEnvC scope cl C X.env) fp) ifs (tT X.K ad J' WF tm))
    (he : ∀ (s : Shared) (H : Hp) (C : Addr) (cl : List (Str × Addr)) (fp : List Addr) (J' : JP), Cl (own.map (·.2)) J' → PE (X.blk s H scope (PySem.compEnvC scope cl C X.env) fp) elt (tE X.K ad J' WF me)) (hs : ∀ x, foldedSetIterable iter X.env x = pure x := by intro _; rfl) :
    PE X (.ListComp elt [⟨tg, iter, ifs, 0⟩] scope pos) (tE X.K ad J W (mLcL hm m (own.map (·.2)) bm tm me)) :=
  pe_imp (pe_lc hc hN (pi_list hi) ok (g := tGx X.K ad (own.map (·.2)) bm) (tt := tTx X.K ad (own.map (·.2)) tm) (te := tEx X.K ad (own.map (·.2)) me) (fun s H C cl fp => gx_of (hg s H C cl fp)) (fun s H C cl fp => tx_of (ht s H C cl fp)) (fun s H C cl fp => ex_of (he s H C cl fp)) hs) lcL_imp
end
end DK
end
section
set_option Elab.async false
set_option linter.all false
set_option autoImplicit false
set_option maxRecDepth 100000
set_option maxHeartbeats 4000000
/-! DKHead: facts of the head by names, a def's datum, the law's own end. -/
namespace DK
open PySem L2
/-! ### more facts -/
/-- these values are these texts -/
def strsB : List Value → List Str → Bool
  | [], [] => true
  | .str a _ :: vs, b :: bs => decide (a = b) && strsB vs bs
  | _, _ => false
/-- a tuple of texts of the module -/
def tupB (K : PySem.W.Frag) (a : Addr) (xs : List Str) : Bool := match K.lookup a with
  | some o => (o.cls == .type "tuple") && (match o.data with
    | .seq its _ => decide (its.size ≤ sizeLine) && strsB its.toList xs
    | _ => false)
  | none => false
inductive Fx where
  | exc (x : Str)
  | kitR (x y : Str) (b : Bool)
  | kitT (x : Str) (T : String) (b : Bool)
  | own (x : Str)
  | tupS (x : Str) (xs : List Str)
  | tupD (x : Str)
def Fx.ok (K : PySem.W.Frag) : Fx → Bool
  | .exc x => (decide (PySem.W.findIn K (.ref (He.ga K x)) "__getattribute__" = some (some (.builtin "BaseException.__getattribute__")) ∧ PySem.W.findIn K (.ref (He.ga K x)) "__getattr__" = some none ∧ PySem.W.subIn K (.ref (He.ga K x)) (.type "BaseException") = some true ∧ PySem.W.hasDictIn K (He.ga K x) = true ∧ PySem.W.findIn K (.ref (He.ga K x)) "__class__" = some (some (.builtin "object.__class__"))
      ∧ PySem.W.specialIn K (.builtin "object.__class__") "__get__" = some (some (.builtin "getset_descriptor.__get__")) ∧ PySem.W.takesIn K (.builtin "object.__class__") = some true ∧ PySem.W.mroIn K (He.ga K x) (.type "object") = some true))
  | .kitR x y b => decide (PySem.W.kitOne K (.ref (He.ga K x)) (.ref (He.ga K y)) = some b)
  | .kitT x T b => decide (PySem.W.kitOne K (.ref (He.ga K x)) (.type T) = some b)
  | .own x => decide (PySem.W.findIn K (.ref (He.ga K x)) "__class__" = some (some (.builtin "object.__class__")) ∧ PySem.W.specialIn K (.builtin "object.__class__") "__get__" = some (some (.builtin "getset_descriptor.__get__"))
      ∧ PySem.W.takesIn K (.builtin "object.__class__") = some true ∧ PySem.W.mroIn K (He.ga K x) (.type "object") = some true ∧ PySem.W.kitOne K (.ref (He.ga K x)) (.ref (He.ga K x)) = some true ∧ PySem.W.kitOne K (.type "int") (.ref (He.ga K x)) = some false)
  | .tupS x xs => tupB K (He.ga K x) xs
  | .tupD x => (match K.lookup (He.ga K x) with
    | some o => (o.cls == .type "tuple") && o.dict.isNone
    | none => false)
theorem fx_exc {K : PySem.W.Frag} {x : Str} (h : (Fx.exc x).ok K = true) : ExcC K (He.ga K x) := by
  obtain ⟨h1, h2, h3, h4, h5, h6, h7, h8⟩ := of_decide_eq_true h
  exact ⟨h1, h2, h3, h4, h5, h6, h7, h8⟩
def allFx (fx : List Fx) (K : PySem.W.Frag) : Bool := fx.all fun f => f.ok K
theorem fx_at {fx : List Fx} {K : PySem.W.Frag} (c : allFx fx K = true) (i : Nat) {f : Fx} (h : fx[i]? = some f := by rfl) : f.ok K = true := List.all_eq_true.mp c f (List.mem_of_getElem? h)
/-- what the head tells of K -/
structure Knows (fa : List He.Fa) (fn : List He.DefD) (fx : List Fx) (K : PySem.W.Frag) (mg : Str → Option Value) : Prop where
  c : He.SaysD fa fn K
  x : allFx fx K = true
  h : ∃ h : Heap, K.In h ∧ h.Ns mainGlobals mg
section
variable {fa : List He.Fa} {fn : List He.DefD} {fx : List Fx} {K : PySem.W.Frag} {mg : Str → Option Value} (k : Knows fa fn fx K mg)
include k
theorem Knows.glo (i : Nat) {x : Str} (e : fa[i]? = some (.glo x) := by rfl) : mg x = some (.ref (He.ga K x)) := by
  obtain ⟨h, X, G⟩ := k.h
  exact He.glo_ok X G (k.c.fact i e)
theorem Knows.free (i : Nat) {x : Str} (e : fa[i]? = some (.free x) := by rfl) : mg x = none := by
  obtain ⟨h, X, G⟩ := k.h
  exact He.free_ok X G (k.c.fact i e)
theorem Knows.int (i : Nat) {x : Str} {z : Int} (e : fa[i]? = some (.int x z) := by rfl) : ∃ t, mg x = some (.int z t) := by
  obtain ⟨h, X, G⟩ := k.h
  exact He.int_ok X G (k.c.fact i e)
theorem Knows.str (i : Nat) {x z : Str} (e : fa[i]? = some (.str x z) := by rfl) : ∃ t, mg x = some (.str z t) := by
  obtain ⟨h, X, G⟩ := k.h
  exact He.str_ok X G (k.c.fact i e)
theorem Knows.cls (i : Nat) {x : Str} (e : fa[i]? = some (.cls x) := by rfl) : Cls K (He.ga K x) := He.cls_ok (k.c.fact i e)
theorem Knows.noat (i : Nat) {x f : Str} (e : fa[i]? = some (.noat x f) := by rfl) : NoAttr K (He.ga K x) f := He.noat_ok (k.c.fact i e)
theorem Knows.exc (i : Nat) {x : Str} (e : fa[i]? = some (.exc x) := by rfl) : PySem.W.excIn K (He.ga K x) He.veBase "ValueError.__new__" = true ∧ PySem.W.keepIn K (.ref (He.ga K x)) = true ∧ PySem.W.subIn K (.ref (He.ga K x)) (.type "BaseException") = some true ∧ PySem.W.typeIn K (.ref (He.ga K x)) = some (.type "type") := He.exc_ok (k.c.fact i e)
theorem Knows.exm (i : Nat) {x y : Str} {b : Bool} (e : fa[i]? = some (.exm x y b) := by rfl) : PySem.W.exmOne K (.ref (He.ga K x)) (.ref (He.ga K y)) = some b := He.exm_ok (k.c.fact i e)
end
/-- a def that the mirror tells -/
def Has (P : Program) (w : World) (K : PySem.W.Frag) (mg : Str → Option Value) (base : Heap) (k : Nat) (d : He.DefD) (ps : List Str) (fm : FM) : Prop :=
  ∃ fd, FunD K d.name d.qual d.params d.body d.scope (d.dvs K) (d.kws K) (He.fAd K d.at_) fd ∧ FnOk P w K mg base (L2.CX P w) k (He.fAd K d.at_) fd ps (spM K (He.ga K) ps.length fm)
section
variable {P : Program} {w : World} {K : PySem.W.Frag} {mg : Str → Option Value} {base : Heap} {d : He.DefD} {ps N : List Str} {fm : FM} {b : SM}
theorem has_def {k : Nat} (c : ∃ fd, FunD K d.name d.qual d.params d.body d.scope (d.dvs K) (d.kws K) (He.fAd K d.at_) fd) (sc : FnScope N ps d.scope)
    (hb : ∀ (f : Addr) (cdv : Value) (A : Around) (outer : List Env) (s : Shared) (H : Hp) (E : XK), Room k (A.deeper (PyProof.Rows.envOfC d.qual d.scope s.heap.objs.size f cdv)) →
      PSs (cxOf (L2.CX P w) P w K mg base N d.qual d.scope f cdv A outer s H E) d.body (tS K (He.ga K) JT (fun c d _ H => E c d H) b)) :
    Has P w K mg base (k + 1) d ps (runF N.length b) := by
  obtain ⟨fd, F⟩ := c
  exact ⟨fd, F, fn_def F sc fun cdv A outer s H E hr => hb _ cdv A outer s H E hr⟩
end
/-! ### the law's def: nothing is let out -/
section
variable {P : Program} {w : World} {K : PySem.W.Frag} {mg : Str → Option Value} {base : Heap} {ad : Str → Addr}
/-- the promise: the law gives True -/
def spLaw (K : PySem.W.Frag) (m : FM) : Sp := fun vs H Q _ => ∃ (a : Addr) (ns : List Int), vs = [.ref a] ∧ SqL K H a (ns.map V.int) ∧ ns.length ≤ 63 ∧ (∃ O, m [.rol (ns.map D.int)] [] = .ok (.bl true) O) ∧ ∀ H', Q (.bl true) H'
theorem ints_rp {S : Hp} {r : Rg} : ∀ ns : List Int, RpAll K S r (ns.map D.int) (ns.map V.int)
  | [] => rfl
  | n :: ns => ⟨_, _, rfl, rfl, ints_rp ns⟩
theorem law_def {x qual : Str} {params : Arguments} {bd : List Stmt} {scope : Scope} {f : Addr} {fd : FuncData} {N : List Str} {k : Nat} {b : SM} {y : Str} (F : FunD K x qual params bd scope [] [] f fd) (sc : FnScope N [y] scope)
    (hb : ∀ (cdv : Value) (A : Around) (outer : List Env) (s : Shared) (H : Hp) (E : XK), Room k (A.deeper (PyProof.Rows.envOfC qual scope s.heap.objs.size f cdv)) →
      PSs (cxOf CX0 P w K mg base N qual scope f cdv A outer s H E) bd (tS K ad JT WF b)) :
    FnOk P w K mg base CX0 (k + 1) f fd [y] (spLaw K (runF N.length b)) := by
  have hpl : 1 ≤ N.length := by have := congrArg List.length sc.pre; rw [List.length_take] at this; simp at this; omega
  refine F.ok sc (fun vs H Q E h => ?_) (fun cdv A outer s H vs Q E hr h => ?_)
  · obtain ⟨a, ns, rfl, _⟩ := h
    rfl
  · refine ⟨_, hb cdv A outer s H E hr, ?_⟩
    obtain ⟨a, ns, rfl, hS, hl, ⟨O1, hm⟩, hQ⟩ := h
    have p1 : RpAll K H ⟨[], fun _ => none⟩ [.rol (ns.map D.int)] [.ref a] := ⟨_, _, rfl, ⟨a, _, rfl, hS, ints_rp ns⟩, rfl⟩
    have rs : Rs K ad H ⟨[], fun _ => none⟩ [] H := ⟨Same.refl H, rfl, List.nodup_nil, fun n a o h => (by simp at h), fun b u e => (by cases e), fun a o e => (by cases e)⟩
    refine ⟨H, ⟨[], fun _ => none⟩, _, [], trivial, start_rl (ds := [.rol (ns.map D.int)]) hpl p1, rs, ?_⟩
    unfold runF at hm
    generalize b (([D.rol (ns.map D.int)] : List D).map some ++ List.replicate (N.length - ([D.rol (ns.map D.int)] : List D).length) none) [] = z at hm ⊢
    cases z with
    | next L O => cases hm
    | ret d O =>
      cases hm
      exact fun S' r' H' v e _ p => by
        rw [show v = .bl true from p]
        exact hQ H'
    | brk L O => cases hm
    | cnt L O => cases hm
    | exc x L O => cases hm
    | bad => cases hm
end
/-- one address, one function object -/
theorem fd_eq {K : PySem.W.Frag} {x x' qual qual' : Str} {params params' : Arguments} {bd bd' : List Stmt} {scope scope' : Scope} {dvs dvs' : List V} {kws kws' : List (Str × V)} {f : Addr} {fd fd' : FuncData} (F : FunD K x qual params bd scope dvs kws f fd) (G : FunD K x' qual' params' bd' scope' dvs' kws' f fd') : fd = fd' := by
  obtain ⟨_, _, _, _, _, _, _, _, _, _, rfl, l1, _⟩ := F.ex
  obtain ⟨_, _, _, _, _, _, _, _, _, _, rfl, l2, _⟩ := G.ex
  have e := l1.symm.trans l2
  injection e with e
  injection e with _ _ e _
  injection e
/-! ### small helps -/
theorem tk_of {P : Program} {w : World} {K : PySem.W.Frag} {mg : Str → Option Value} {base : Heap} {N : List Str} {qual : Str} {scope : Scope} {f : Addr} {cdv : Value} {A : Around} {outer : List Env} {s : Shared} {H : Hp} {E : XK} : Takes (cxOf (L2.CX P w) P w K mg base N qual scope f cdv A outer s H E) (fun c d _ H => E c d H) := takes_of rfl rfl rfl rfl
theorem own_of {CX : CXT} {P : Program} {w : World} {K : PySem.W.Frag} {mg : Str → Option Value} {base : Heap} {N : List Str} {qual : Str} {scope : Scope} {f : Addr} {cdv : Value} {A : Around} {outer : List Env} {s : Shared} {H : Hp} {E : XK} : PassesOwn (model P w) (cxOf CX P w K mg base N qual scope f cdv A outer s H E).A (cxOf CX P w K mg base N qual scope f cdv A outer s H E).env (cxOf CX P w K mg base N qual scope f cdv A outer s H E).xe := passes_of rfl
def inC (st : Stmt) (i : Nat) : Stmt := match st with
  | .ClassDef _ _ _ b _ _ _ _ _ _ _ => b.getD i (.Pass ⟨0, 0, 0, 0⟩)
  | _ => .Pass ⟨0, 0, 0, 0⟩
end DK
end
section
set_option Elab.async false
set_option linter.all false
set_option autoImplicit false
set_option maxRecDepth 100000
set_option maxHeartbeats 4000000
/-! DKSup: own errors whose first word is super().__init__(..): the def as a promise. -/
namespace DK
open PySem L2
/-- the part of the heap that super() looks at -/
structure SupK (K : PySem.W.Frag) (main : Str) (f C cc cda : Addr) : Prop where
  cell : ∃ cl cld csl, K.lookup cc = some ⟨cl, cld, .cell (some (.ref C)), csl⟩
  code : ∃ ccl cdd vs ccs tf, K.lookup cda = some ⟨ccl, cdd, .fields vs, ccs⟩ ∧ vs[2]? = some (.str main tf)
  sub : PySem.W.mroIn K C (.ref C) = some true
  sup : PySem.W.ks_superIn K C C "__init__" = some (some (.builtin "ValueError.__init__"))
  ve : PySem.W.subIn K (.ref C) (.type "ValueError") = some true
  opq : PySem.W.nsIn K cStatics "thirdparty.any" = some none
  fr : PySem.W.nsIn K mainGlobals "super" = some none
/-- a method's scope: nothing captured but the class -/
structure SupScope (N ps : List Str) (sc : Scope) : Prop where
  kind : sc.kind = .function
  co : sc.isCoroutine = false
  gen : sc.isGenerator = false
  nd : N.Nodup
  pre : N.take ps.length = ps
  par : ∀ x ∈ ps, sc.names.lookup x = some .local
  nocell : ∀ y ∈ sc.names, y.2 ≠ .cell
  free : ∀ y, sc.names.lookup y = some .free → y = "__class__"
  sup : sc.names.lookup ("super" : Str) = some .globalImplicit
  cls : sc.names.lookup ("__class__" : Str) = some .free
section
variable {P : Program} {w : World} {K : PySem.W.Frag} {mg : Str → Option Value} {base : Heap}
def cxI (P : Program) (w : World) (K : PySem.W.Frag) (mg : Str → Option Value) (base : Heap) (N : List Str) (qual : Str) (scope : Scope) (f : Addr) (cd : Value) (cc : Addr) (A : Around) (outer : List Env) (s : Shared) (H : Hp) (E : XK) : Cx where
  prog := P
  w := w
  K := K
  mg := mg
  base := base
  A := A.deeper (PySem.W.ksEnv qual scope s.heap.objs.size f cd cc)
  N := N
  s_0 := s
  H_0 := H
  env := PySem.W.ksEnv qual scope s.heap.objs.size f cd cc
  outer := outer
  stack := PySem.W.ksEnv qual scope s.heap.objs.size f cd cc :: outer
  ex := []
  calm := true
  fn := fun x => !(x == "__class__")
  pn := []
  xe := fun e s' => wpAny (model P w) (A.deeper (PySem.W.ksEnv qual scope s.heap.objs.size f cd cc)) (leaving (PySem.W.ksEnv qual scope s.heap.objs.size f cd cc) e) (fun _ s'' => L2.CX P w outer H s E e s'') (fun e' s'' => L2.CX P w outer H s E e' s'') s'
theorem zip_fst {α β : Type} : ∀ (l : List α) (m : List β), ((l.zip m).map (·.1)).Sublist l
  | [], _ => by simp
  | a :: l, [] => by simp
  | a :: l, b :: m => by
    rw [List.zip_cons_cons, List.map_cons]
    exact (zip_fst l m).cons₂ a
theorem lookup_rev {ps : List Str} {us : List Value} (nd : ps.Nodup) : ∀ {i : Nat} {x : Str} {u : Value}, ps[i]? = some x → us[i]? = some u → (ps.zip us).reverse.lookup x = some u := by
  have key : ∀ (l : List (Str × Value)) (x : Str) (u : Value), (x, u) ∈ l → (l.map (·.1)).Nodup → l.lookup x = some u := fun l => by
    induction l with
    | nil => intro x u h; cases h
    | cons p l ih =>
      intro x u h hn
      rw [List.map_cons, List.nodup_cons] at hn
      obtain ⟨y, v⟩ := p
      rw [List.lookup_cons]
      rcases List.mem_cons.mp h with e | h2
      · cases e
        rw [beq_self_eq_true]
      · have : (x == y) = false := by
          refine beq_eq_false_iff_ne.mpr fun z => hn.1 ?_
          subst z
          exact List.mem_map.mpr ⟨(x, u), h2, rfl⟩
        rw [this]
        exact ih x u h2 hn.2
  intro i x u h1 h2
  refine key _ x u (List.mem_reverse.mpr (List.mem_of_getElem? (i := i) ?_)) ?_
  · rw [List.getElem?_zip_eq_some]
    exact ⟨h1, h2⟩
  · rw [List.map_reverse]
    unfold List.Nodup
    rw [List.pairwise_reverse]
    have : ((ps.zip us).map (·.1)).Sublist ps := by
      exact zip_fst ps us
    exact (List.Pairwise.sublist this nd).imp Ne.symm
theorem inv_startI {main : Str} {N ps : List Str} {qual : Str} {scope : Scope} {f C cc cda : Addr} {cd : Value} {A : Around} {outer : List Env} {s : Shared} {H : Hp} {E : XK} {us : List Value} {vs : List V} {h₀ : Heap} {tk : Nat}
    (S : SupScope N ps scope) (Z : SupK K main f C cc cda) (hd : A.handled = none) (e0 : Env0 P w K mg base A outer s H) (hl : vs.length = ps.length) (r : Vals vs us)
    (hns : h₀.Ns s.heap.objs.size (fun x => (ps.zip us).reverse.lookup x)) (hk : ∀ b o, s.heap.get? b = some o → h₀.get? b = some o) :
    Inv (cxI P w K mg base N qual scope f cd cc A outer s H E) [] (L2.start N vs) H { s with heap := h₀, toks := tk } := by
  have hpl : ps.length ≤ N.length := by have := congrArg List.length S.pre; rw [List.length_take] at this; omega
  have noA : ∀ b : Addr, b ∉ (cxI P w K mg base N qual scope f cd cc A outer s H E).ex := fun b z => absurd (show b ∈ ([] : List Addr) from z) (by simp)
  have one : ∀ {x : Str} {c : Addr}, ([(("__class__" : Str), cc)] : List (Str × Addr)).lookup x = some c → x = "__class__" ∧ c = cc := fun {x c} h => by
    rw [List.lookup_cons] at h
    cases hb : x == ("__class__" : Str) with
    | true =>
      rw [hb] at h
      exact ⟨beq_iff_eq.mp hb, (Option.some.inj h).symm⟩
    | false =>
      rw [hb] at h
      cases h
  obtain ⟨cl, cld, csl, hcell⟩ := Z.cell
  have hcb := e0.mod.kin _ _ hcell
  refine ⟨⟨e0.mod, S.kind, rfl, rfl, Nat.le_refl _, fun y z c h1 h2 => (one h1).1.trans (one h2).1.symm, fun y hy => ?_, fun y c hf h => ?_, fun _ => hd, Around.frames_deeper e0.frames, .inr ⟨rfl, rfl⟩, fun b z => absurd z (noA b), e0.bs, e0.bsz, fun b _ _ => noA b, fun b z => absurd z (noA b), e0.funs, e0.frf⟩,
    rfl, e0.bare, Un.kept hk, ⟨_, hns, fun i y v h1 h2 h3 => ?_⟩, fun y c h => ?_, e0.hok.fresh (Nat.le_refl _), fun y c h => ?_, fun p hp => absurd (show p ∈ ([] : List (Addr × Obj)) from hp) (by simp), e0.hok.kept hk, ?_⟩
  · rcases (show scope.names.lookup y = some .cell ∨ scope.names.lookup y = some .free from hy) with hy | hy
    · exact absurd rfl (S.nocell _ (PySem.mem_of_lookup hy))
    · rw [S.free y hy]
      exact ⟨cc, rfl⟩
  · rw [(one h).1] at hf
    cases hf
  · have hi : i < vs.length := by
      unfold L2.start at h2
      by_cases hi : i < vs.length
      · exact hi
      · rw [List.getElem?_append_right (by simpa using hi), List.getElem?_replicate] at h2
        split at h2 <;> cases h2
    have ha : vs[i]? = some v := by
      unfold L2.start at h2
      rw [List.getElem?_append_left (by simpa using hi), List.getElem?_map] at h2
      cases e : vs[i]? with
      | none => rw [e] at h2; cases h2
      | some a => rw [e] at h2; cases h2; rfl
    obtain ⟨u, hu, rv⟩ := r.get ha
    have hp : ps[i]? = some y := by
      rw [← S.pre, List.getElem?_take_of_lt (by omega)]; exact h1
    have ndP : ps.Nodup := by rw [← S.pre]; exact S.nd.sublist (List.take_sublist _ _)
    exact ⟨u, rv, .inl ⟨S.par y (List.mem_of_getElem? hp), lookup_rev ndP hp hu⟩⟩
  · obtain ⟨rfl, rfl⟩ := one h
    exact ⟨_, _, hk _ _ (e0.bs _ _ hcb).1, rfl⟩
  · obtain ⟨rfl, rfl⟩ := one h
    exact (e0.bs _ _ hcb).2
  · unfold L2.start
    show _ = N.length
    rw [List.length_append, List.length_map, List.length_replicate]
    omega
end
/-! ### the wrapper called -/
section
variable {X : Cx} {pins : List (Addr × Obj)} {σ : L2.St} {H : Hp} {s : Shared} {a C u : Addr}
theorem Inv.addpin {p : Addr × Obj} (I : Inv X pins σ H s) (h : s.heap.get? p.1 = some p.2) (n : H p.1 = none) (nl : p.1 ≠ X.env.locals) (nf : p.1 ∉ X.fs) (nc : ∀ v, p.2.data ≠ .cell v) : Inv X (p :: pins) σ H s :=
  I.pins_of fun q hq => by
    rcases List.mem_cons.mp hq with rfl | hq
    · exact ⟨h, n, nl, nf, nc⟩
    · exact I.pin q (List.mem_append_right _ hq)
theorem Inv.unpin1 {p : Addr × Obj} (I : Inv X (p :: pins) σ H s) : Inv X pins σ H s := I.pins_of fun q hq => I.pin q (List.mem_append_right _ (List.mem_cons_of_mem _ hq))
theorem wrap_call {us : List Value} {Q : Value → Shared → Prop} {E : Value → Shared → Prop} {A : Around} (T : OexC X.K C) (I : Inv X pins σ H s) (e : H a = some (exo a C none)) (hu : s.heap.get? u = some (PySem.W.kxs_mw "ValueError.__init__" a)) (hl : us.length ≤ sizeLine) (h : ∀ s', Inv X pins σ H s' → Q .none s') :
    wpAny (model X.prog X.w) A (call (.ref u) us) Q E s := by
  obtain ⟨nm, q, N, bs, bm, sn, sub, ab, col, dd, k0, k1, k2, k3, k5, hC, hbm⟩ := T.cls
  obtain ⟨t1, ho⟩ := exo_at I.hok e
  have hCh := I.kIn _ _ hC
  have fin : ∀ h', (∀ b o, b ≠ a → s.heap.get? b = some o → h'.get? b = some o) → (∃ t2 : Addr, h'.get? a = some ({ cls := .ref C, dict := none, data := .fields #[.ref t2, .none, .none, .none, .bool false, .none] } : Obj)) → Q .none { s with heap := h' } := fun h' k hx => by
    obtain ⟨t2, hx⟩ := hx
    have J := I.write (t' := s.toks) (x := a) (e := a) (o := exo a C none) (by rw [e]; exact True.intro) (.inl rfl) k ⟨_, hx⟩ (exo_ok hx)
    have eu : upd H a (exo a C none) = H := funext fun b => by
      by_cases hb : b = a
      · rw [hb, upd_same, e]
      · rw [upd_ne hb]
    rw [eu] at J
    exact h _ J
  obtain ⟨hp, g, d, t, os⟩ := s
  have FB := PySem.F.excBase_ValueError
  refine wpAny_call (codeAny_of_tree ?_)
  show wpAny _ A.in1 (callAny (.ref u) ⟨us, []⟩) _ _ _
  unfold callAny
  refine wpAny_bind (wpAny_load hu ?_)
  refine PySem.W.KFB.if_so (by rfl) ?_
  refine wpAny_bind (PySem.W.check_bound_init FB.toExcCallFacts hCh ho rfl ?_)
  refine wpAny_bind (wpAny_pure (wpAny_pure ?_))
  refine ⟨plainId_quiet FB.init.plain _, codeAny_builtin FB.initEntry ?_⟩
  exact PySem.W.exc_init_tree ho hl fun h' k hx _ => fin h' k ⟨_, hx⟩
/-- the first word: super().__init__(e) -/
theorem sup_stmt {main : Str} {N ps : List Str} {qual self : Str} {scope : Scope} {L f cc cda : Addr} {fd : FuncData} {ar : Arg} {oc : Value} {od : Option Addr} {osl : Array (Option Value)} {body : List Stmt} {e : Expr} {te : TE} {p0 p1 apos pos pos2 : Pos} {Q : Hp → Prop}
    (hX : X.env = PySem.W.ksEnv qual scope L f (.ref cda) cc) (S : SupScope N ps scope) (Z : SupK X.K main f C cc cda) (T : OexC X.K C) (hN : X.N = N) (h0 : N[0]? = some self) (hself : scope.names.lookup self = some .local)
    (lk : X.K.lookup f = some ⟨oc, od, .func fd, osl⟩) (hp : (fd.params.posonlyargs ++ fd.params.args).head? = some ar) (har : ar.arg = self) (hmain : ((X.prog.main.file : Str) == main) = true) (htop : (X.prog.main.scope.names.lookup ("super" : Str)).isSome = false) (hm : X.mg "super" = none)
    (I : Inv X pins σ H s) (hs : σ[0]? = some (some (.ref a))) (ea : H a = some (exo a C none)) (he : PE X e te) (hq : te σ H fun v H2 => H2 a = some (exo a C none) ∧ Q H2)
    {pl : Sem Bool} (hev : eval (.Call (.Attribute (.Call (.Name "super" p0) [] [] p1) "__init__" apos) [e] [] pos) X.env = (do
      let ov ← attributeBase (.Call (.Name "super" p0) [] [] p1) "__init__" X.env (eval (.Call (.Name "super" p0) [] [] p1) X.env)
      standAt apos.atName
      let (f, first) ← holding [ov] (getMethod ov "__init__" pl)
      callWith pos f first (backTo pos (starEach [e] X.env)) []) := by rfl)
    (hst : starEach [e] X.env = [(false, eval e X.env)] := by rfl) (hsw : swapsWith (.Call (.Attribute (.Call (.Name "super" p0) [] [] p1) "__init__" apos) [e] [] pos) none pos2.line X.env = pure false := by rfl) (hint : interactive X.env = false := by rfl) :
    wpAt (model X.prog X.w) X.A (.func body X.env) (exec (.Expr (.Call (.Attribute (.Call (.Name "super" p0) [] [] p1) "__init__" apos) [e] [] pos) pos2) X.env) (fun fl s' => fl = .next ∧ ∃ H2, Inv X pins σ H2 s' ∧ Q H2) X.xe s := by
  have KX := I.kIn
  obtain ⟨cl, cld, csl, hcell⟩ := Z.cell
  obtain ⟨ccl, cdd, vsc, ccs, tf, hcode, hvs⟩ := Z.code
  obtain ⟨t1, ho⟩ := exo_at I.hok ea
  have IA : PySem.W.InstAt s.heap a _ C none := ⟨ho, rfl, rfl, trivial⟩
  obtain ⟨m, hns, hloc⟩ := I.loc
  obtain ⟨u0, ru0, lu0⟩ := hloc 0 self (.ref a) (by rw [hN]; exact h0) hs (.inl (by rw [hX]; exact hself))
  obtain rfl : u0 = Value.ref a := ru0
  have hmself : m self = some (.ref a) := by
    rcases lu0 with ⟨_, h⟩ | ⟨h, _⟩
    · exact h
    · rw [hX] at h
      rcases (show scope.names.lookup self = some .cell ∨ scope.names.lookup self = some .free from h) with h | h
      · rw [hself] at h; cases h
      · rw [hself] at h; cases h
  have hsup := Z.sup
  unfold PySem.W.ks_superIn at hsup
  cases hcd : PySem.W.clsIn X.K C with
  | none => rw [hcd] at hsup; cases hsup
  | some cd =>
    rw [hcd] at hsup
    obtain ⟨oD, hD1, hD2⟩ : ∃ oD, s.heap.get? C = some oD ∧ oD.data = .cls cd := by
      unfold PySem.W.clsIn at hcd
      split at hcd
      · rename_i c d cd' sl hlk
        cases hcd
        exact ⟨_, KX _ _ hlk, rfl⟩
      · cases hcd
    have hfs : X.env.func = some f := by rw [hX]
    have hkind : X.env.scope.kind = .function := by rw [hX]; exact S.kind
    refine PySem.ks_wpAt_Expr_any ?_ hint hsw
    refine PySem.ks_wpAt_MethodCall (pl := pl) ?_ hev
    refine PySem.ks_wpAt_super_base (f := f) (cc := cda) (by rw [hX]; exact S.sup) (by rw [hX]; exact S.cls) rfl hfs (KX _ _ lk) rfl hp (by rw [hX]) (KX _ _ hcode) rfl hvs hmain htop ?_
    obtain ⟨mb, hb1, hb2⟩ := I.mod.blt
    refine PySem.W.ks_loadName_global hkind (by rw [hX]; exact S.sup) (Calls.loadGlobal_builtin (by rw [I.ok.glob]; exact I.mod.glob.keeps I.bk) hm (by rw [I.ok.blt]; exact hb1.keeps I.bk) ((hb2 _ (by decide)).trans (show bootBuiltins ("super" : Str) = some (.type "super") by decide +kernel)) ⟨rfl, ?_⟩)
    refine wpAny_loadName_free hkind (by rw [hX]; exact S.cls) (by rw [hX]; rfl) ⟨_, KX _ _ hcell, rfl⟩ ?_
    rw [har]
    refine wpAny_loadName_local hkind (by rw [hX]; exact hself) hns hmself ?_
    refine PySem.ks_wpAny_isType_cls hD1 hD2 ⟨rfl, ?_⟩
    obtain ⟨hp1, g, d, t, os⟩ := s
    refine PySem.ks_wpAny_call_super hD1 hD2 IA.at_ IA.cls (fun c hc => by cases hc) (PySem.W.looks_mroIn KX Z.sub) (fun h' eso k => ?_)
    have I1 : Inv X pins σ H ⟨h', g, d, t, os⟩ := I.kept (t' := t) k
    have IA1 : PySem.W.InstAt h' a _ C none := ⟨k _ _ ho, rfl, rfl, trivial⟩
    refine PySem.W.kxs_getMethod PySem.W.kxs_ValueError eso (PySem.W.looks_opaque I1.kIn Z.opq) (l₀ := cd.mro) (fun A Q E s k q => wpAny_bind ((PySem.W.looks_clsIn I1.kIn hcd) A _ E s k (wpAny_pure q))) rfl I1.kIn hsup (IA1.type.andThen (PySem.W.looks_subIn I1.kIn Z.ve)) (PySem.W.ks_ne I1.kIn IA1 hcd) rfl ?_
    have hmw : (h'.push (PySem.W.kxs_mw "ValueError.__init__" a)).get? h'.objs.size = some (PySem.W.kxs_mw "ValueError.__init__" a) := Heap.get?_push_at rfl rfl
    have I2 : Inv X pins σ H ⟨h'.push (PySem.W.kxs_mw "ValueError.__init__" a), g, d, t + 1, os⟩ := I1.kept (t' := t + 1) fun b o eb => Heap.get?_push_of_some _ eb
    have hnl : h'.objs.size ≠ X.env.locals := fun z => by
      obtain ⟨m1, hn1, _⟩ := I1.loc
      obtain ⟨oL, es, ep, hL, _⟩ := hn1
      exact absurd (Heap.lt_size hL) (by rw [← z]; exact Nat.lt_irrefl _)
    have I3 := Inv.addpin (p := (h'.objs.size, PySem.W.kxs_mw "ValueError.__init__" a)) I2 hmw (I1.hok.fresh (Nat.le_refl _)) hnl (I1.nofs (Nat.le_refl _)) (fun v z => by cases z)
    have ha := (pa_cons he pa_nil (hs := hst)).run pos _ _ σ H (fun vs H2 => match vs with | [_] => H2 a = some (exo a C none) ∧ Q H2 | _ => False) I3 hq
    rw [hst] at ha ⊢
    refine PySem.W.kxs_callWith (i := "ValueError.__init__") (x := a) (by rfl) ?_
    refine Calls.evalArgs_plain (thn ha fun us s1 ⟨vs, H2, J, rr, q⟩ => ?_)
    cases vs with
    | nil => exact q.elim
    | cons v vs =>
      cases vs with
      | cons _ _ => exact q.elim
      | nil =>
        obtain ⟨q1, q2⟩ := q
        have hl : us.length = 1 := (Paired.length rr).symm
        have pu := (J.pin (h'.objs.size, PySem.W.kxs_mw "ValueError.__init__" a) (List.mem_append_right _ List.mem_cons_self)).1
        refine ⟨pu, ?_⟩
        exact wrap_call (us := us) T (Inv.unpin1 J) q1 pu (by rw [hl]; decide) fun s' J2 => ⟨rfl, H2, J2, q2⟩
end
/-! ### the def -/
section
variable {P : Program} {w : World} {K : PySem.W.Frag} {mg : Str → Option Value} {base : Heap}
def spI (N ps : List Str) (C : Addr) (te : TE) (tr : TS) : Sp := fun vs H Q E => vs.length = ps.length ∧ ∃ a, vs[0]? = some (.ref a) ∧ H a = some (exo a C none) ∧ te (L2.start N vs) H fun _ H2 => H2 a = some (exo a C none) ∧ tr { nx := fun _ H' => Q .non H', rt := Q } (L2.start N vs) H2
theorem fnI_of {main : Str} {N ps : List Str} {name qual self : Str} {params : Arguments} {scope : Scope} {f C cc cda : Addr} {ar : Arg} {kV doc pm ct oc : Value} {an od : Option Addr} {osl : Array (Option Value)} {e : Expr} {rest : List Stmt} {te : TE} {tr : TS} {p0 p1 apos pos pos2 : Pos} {k : Nat}
    (lk : K.lookup f = some ⟨oc, od, .func (PySem.W.ksFn name qual params (.Expr (.Call (.Attribute (.Call (.Name "super" p0) [] [] p1) "__init__" apos) [e] [] pos) pos2 :: rest) scope .none kV doc pm an (.ref cda) ct cc), osl⟩) (hcd : PySem.W.codeIn K (.ref cda) qual = true)
    (S : SupScope N ps scope) (Z : SupK K main f C cc cda) (T : OexC K C) (h0 : N[0]? = some self) (hps : 0 < ps.length) (hp : (params.posonlyargs ++ params.args).head? = some ar) (har : ar.arg = self) (hself : scope.names.lookup self = some .local)
    (hmain : ((P.main.file : Str) == main) = true) (htop : (P.main.scope.names.lookup ("super" : Str)).isSome = false) (hm : mg "super" = none)
    (he : ∀ (A : Around) (outer : List Env) (s : Shared) (H : Hp) (E : XK), Room k (A.deeper (PySem.W.ksEnv qual scope s.heap.objs.size f (.ref cda) cc)) → PE (cxI P w K mg base N qual scope f (.ref cda) cc A outer s H E) e te)
    (hrest : ∀ (A : Around) (outer : List Env) (s : Shared) (H : Hp) (E : XK), Room k (A.deeper (PySem.W.ksEnv qual scope s.heap.objs.size f (.ref cda) cc)) → PSs (cxI P w K mg base N qual scope f (.ref cda) cc A outer s H E) rest tr)
    {pl : Sem Bool} (hev : ∀ L : Addr, eval (.Call (.Attribute (.Call (.Name "super" p0) [] [] p1) "__init__" apos) [e] [] pos) (PySem.W.ksEnv qual scope L f (.ref cda) cc) = (do
      let ov ← attributeBase (.Call (.Name "super" p0) [] [] p1) "__init__" (PySem.W.ksEnv qual scope L f (.ref cda) cc) (eval (.Call (.Name "super" p0) [] [] p1) (PySem.W.ksEnv qual scope L f (.ref cda) cc))
      standAt apos.atName
      let (f1, first) ← holding [ov] (getMethod ov "__init__" pl)
      callWith pos f1 first (backTo pos (starEach [e] (PySem.W.ksEnv qual scope L f (.ref cda) cc))) []))
    (hst : ∀ L : Addr, starEach [e] (PySem.W.ksEnv qual scope L f (.ref cda) cc) = [(false, eval e (PySem.W.ksEnv qual scope L f (.ref cda) cc))])
    (hsw : ∀ L : Addr, swapsWith (.Call (.Attribute (.Call (.Name "super" p0) [] [] p1) "__init__" apos) [e] [] pos) none pos2.line (PySem.W.ksEnv qual scope L f (.ref cda) cc) = pure false)
    (hint : ∀ L : Addr, interactive (PySem.W.ksEnv qual scope L f (.ref cda) cc) = false) :
    FnOk P w K mg base (L2.CX P w) (k + 1) f (PySem.W.ksFn name qual params (.Expr (.Call (.Attribute (.Call (.Name "super" p0) [] [] p1) "__init__" apos) [e] [] pos) pos2 :: rest) scope .none kV doc pm an (.ref cda) ct cc) ps (spI N ps C te tr) := by
  refine ⟨fun vs H Q E h => h.1, fun A outer s H args us vs Q E hr e0 hb r hsp => ?_⟩
  obtain ⟨hl, a, ha0, ea, hq⟩ := hsp
  have KX : K.In s.heap := e0.mod.kin.keeps fun b o e => (e0.bs b o e).1
  have lim : s.heap.NoLimit := e0.mod.nolimit.keeps fun b o e => (e0.bs b o e).1
  have hrd := hr.deeper (PySem.W.ksEnv qual scope s.heap.objs.size f (.ref cda) cc)
  refine PySem.ks_codeAny_call_defAt hr.depth (KX _ _ lk) rfl lim (PySem.W.codeRec_of KX hcd) rfl hb S.nocell (fun y hy => S.par y.1 (List.of_mem_zip hy).1) (fun h₀ hns hk => ?_) S.co S.gen S.kind
  have I := inv_startI (P := P) (w := w) (E := E) (qual := qual) (f := f) (cd := .ref cda) (tk := s.toks + (ps.zip us).length) S Z hr.hd e0 hl r hns hk
  have hs0 : (L2.start N vs)[0]? = some (some (.ref a)) := by
    unfold L2.start
    rw [List.getElem?_append_left (by rw [List.length_map, hl]; exact hps), List.getElem?_map, ha0]
    rfl
  have w1 := sup_stmt (X := cxI P w K mg base N qual scope f (.ref cda) cc A outer s H E) (p0 := p0) (p1 := p1) (apos := apos) (pos := pos) (pos2 := pos2) (body := .Expr (.Call (.Attribute (.Call (.Name "super" p0) [] [] p1) "__init__" apos) [e] [] pos) pos2 :: rest) rfl S Z T rfl h0 hself lk hp har hmain htop hm I hs0 ea (he A outer s H E hrd) hq (hev _) (hst _) (hsw _) (hint _)
  refine PySem.ks_wpAt_execs_cons ?_
  refine PySem.ks_wpAt_mono w1 (fun fl s1 h1 => ?_) fun _ _ z => z
  obtain ⟨rfl, H2, I2, q2⟩ := h1
  refine wpAt_of_wpAny ?_
  refine wpAny_mono ((hrest A outer s H E hrd).run [] s1 (L2.start N vs) H2 _ I2 q2) (fun fl s' hs => ?_) fun e s' hs => hs
  have fin : ∀ {σ' : L2.St} {H' : Hp} {v : V} {u : Value}, Inv (cxI P w K mg base N qual scope f (.ref cda) cc A outer s H E) [] σ' H' s' → RelV v u → Q v H' → CE outer P w H s Q u s' :=
    fun {σ' H' v u} J rv q => ⟨v, H', J.os, J.bare, J.base, J.hok, rv, q⟩
  cases fl with
  | ret u =>
    obtain ⟨v, σ', H', J, rv, q⟩ := hs
    exact fin J rv q
  | next =>
    obtain ⟨σ', H', J, q⟩ := hs
    exact fin (v := V.non) (u := Value.none) J rfl q
  | brk =>
    obtain ⟨_, _, _, q⟩ := hs
    exact q.elim
  | cont =>
    obtain ⟨_, _, _, q⟩ := hs
    exact q.elim
end
end DK
end
section
set_option Elab.async false
set_option linter.all false
set_option autoImplicit false
set_option maxRecDepth 100000
set_option maxHeartbeats 4000000
/-! DKSupR: an own error with fields is raised. -/
namespace DK
open PySem L2
section
variable {K : PySem.W.Frag} {ad : Str → Addr} {S S' : Hp} {r r' : Rg} {O O' : Store} {H H' : Hp}
/-- all that nobody knows, held -/
noncomputable def allFr (S : Hp) (r : Rg) (H : Hp) : Hp := fun b => open Classical in if S b = none ∧ b ∉ r.l then H b else none
theorem Rs.holdAll (h : Rs K ad S r O H) : Rs K ad S (r.at (allFr S r H)) O H where
  sub := h.sub
  len := h.len
  nd := h.nd
  ob := fun n a o e1 e2 => (h.ob n a o e1 e2).at_
  fr := fun b u e => by
    have e : (open Classical in if S b = none ∧ b ∉ r.l then H b else none) = some u := e
    split at e
    · exact e
    · cases e
  off := fun b u e => by
    have e : (open Classical in if S b = none ∧ b ∉ r.l then H b else none) = some u := e
    split at e
    · rename_i hc; exact hc
    · cases e
/-- what stood then stands now -/
theorem Rs.dom (h0 : Rs K ad S r O H) (es : Same S S') (er : r.l <+: r'.l) (ef : ∀ b o, allFr S r H b = some o → r'.fr b = some o) (h : Rs K ad S' r' O' H') {b : Addr} (hb : H' b = none) : H b = none := by
  cases hH : H b with
  | none => rfl
  | some o =>
    exfalso
    by_cases hS : S b = none
    · by_cases hl : b ∈ r.l
      · obtain ⟨n, hn, en⟩ := List.getElem_of_mem hl
        have e1 : r'.l[n]? = some b := pre_get er (by show r.l[n]? = some b; rw [List.getElem?_eq_getElem hn, en])
        have hO : n < O'.length := by rw [← h.len]; exact (List.getElem?_eq_some_iff.mp e1).1
        obtain ⟨u, q⟩ := (h.ob n b O'[n] e1 (List.getElem?_eq_getElem hO)).there
        rw [hb] at q
        cases q
      · have : r'.fr b = some o := by
          refine ef b o ?_
          show (open Classical in if S b = none ∧ b ∉ r.l then H b else none) = some o
          rw [if_pos ⟨hS, hl⟩]
          exact hH
        have q := h.fr b o this
        rw [hb] at q
        cases q
    · cases hS2 : S b with
      | none => exact hS hS2
      | some u =>
        have q := h.sub b u (es b u hS2)
        rw [hb] at q
        cases q
theorem Rs.notS (h : Rs K ad S r O H) {b : Addr} (hb : H b = none) : S b = none := h.sub.free hb
/-- behind the making of an error at a with its dict at d -/
theorem Rs.afterExc {a d : Addr} {u : HO} {H4 fr0 : Hp} (h : Rs K ad S r O H) (ha : r.fr a ≠ none) (hd : H d = none) (hda : d ≠ a) (h4 : ∀ b, b ≠ a → b ≠ d → H4 b = H b) (h5 : H4 d = some u) (hf : ∀ b o, fr0 b = some o → b ≠ a ∧ b ≠ d ∧ r.fr b = some o) : Rs K ad (upd S d u) (r.at fr0) O H4 := by
  obtain ⟨oa, hoa⟩ := Option.ne_none_iff_exists'.mp ha
  have offa := h.off a oa hoa
  have Sd := h.notS hd
  have ld : d ∉ r.l := h.notin hd
  refine ⟨fun b o e => ?_, h.len, h.nd, fun n b o e1 e2 => ?_, fun b o e => ?_, fun b o e => ?_⟩
  · by_cases hb : b = d
    · rw [hb, upd_same] at e
      rw [hb, h5]
      exact e
    · rw [upd_ne hb] at e
      have : b ≠ a := fun z => by rw [z, offa.1] at e; cases e
      rw [h4 b this hb]
      exact h.sub b o e
  · have hm : b ∈ r.l := List.mem_of_getElem? e1
    have n1 : b ≠ a := fun z => offa.2 (z ▸ hm)
    have n2 : b ≠ d := fun z => ld (z ▸ hm)
    exact ((h.ob n b o e1 e2).mono (Ext.new Sd) (fun x q => by rw [h4 b n1 n2]; exact q) (fun q => by rw [upd_ne n2]; exact q)).at_
  · obtain ⟨n1, n2, e'⟩ := hf b o e
    rw [h4 b n1 n2]
    exact h.fr b o e'
  · obtain ⟨n1, n2, e'⟩ := hf b o e
    rw [upd_ne n2]
    exact h.off b o e'
end
section
variable {K : PySem.W.Frag} {ad : Str → Addr} {S : Hp} {r : Rg} {O O' : Store} {H : Hp}
theorem rl_init {N : List Str} {a : Addr} {ds : List D} {ws : List V} (hl : ds.length + 1 ≤ N.length) (p : RpAll K S r ds ws) : Rl K S r (none :: (ds.map some ++ List.replicate (N.length - (ds.length + 1)) none)) (L2.start N (V.ref a :: ws)) where
  len := by
    unfold L2.start
    have := p.length
    simp [this]
  at_ := fun i d q => by
    cases i with
    | zero => cases q
    | succ i =>
      rw [List.getElem?_cons_succ] at q
      have hi : i < ds.length := by
        by_cases hi : i < ds.length
        · exact hi
        · rw [List.getElem?_append_right (by rw [List.length_map]; omega), List.getElem?_replicate] at q
          split at q <;> cases q
      rw [List.getElem?_append_left (by rw [List.length_map]; exact hi), List.getElem?_map] at q
      cases e : ds[i]? with
      | none => rw [e] at q; cases q
      | some d' =>
        rw [e] at q
        obtain rfl : d' = d := Option.some.inj (Option.some.inj q)
        obtain ⟨v, hv, pv⟩ := p.get e
        refine ⟨v, ?_, pv⟩
        unfold L2.start
        rw [List.map_cons, List.cons_append, List.getElem?_cons_succ, List.getElem?_append_left (by rw [List.length_map, p.length]; exact hi), List.getElem?_map, hv]
        rfl
def iniL (N : List Str) (ds : List D) : Loc := none :: (ds.map some ++ List.replicate (N.length - (ds.length + 1)) none)
/-- what the end of an __init__ needs -/
structure EndI (K : PySem.W.Frag) (ad : Str → Addr) (S : Hp) (r : Rg) (O' : Store) (fs : List (Str × D)) (Qx : Option Addr → Hp → Prop) : Prop where
  q : ∀ (S2 : Hp) (r2 : Rg) (H4 : Hp) (dd : Addr) (gs : List (Str × V)), Ext S r S2 r2 → Rs K ad S2 r2 O' H4 → S2 dd = some (.xd gs) → RpP K S2 r2 fs gs → Qx (some dd) H4
abbrev QI (a C : Addr) (H1 : Hp) (Qx : Option Addr → Hp → Prop) : VK := fun v H2 => v = .non ∧ ∃ (d : Addr) (fs : List (Str × V)), H2 a = some (exo a C (some d)) ∧ H2 d = some (exd d fs) ∧ H1 d = none ∧ Qx (some d) (upd (del H2 a) d (.xd fs))
/-- behind the message -/
theorem spI_mid {N ps : List Str} {a C : Addr} {ds : List D} {ws : List V} {ms : EM} {tr : TS} {Q : VK} {E : XK} {dm : D} (rs : Rs K ad S r O H) (p : RpAll K S r ds ws) (hl : ds.length + 1 = ps.length) (hN : ps.length ≤ N.length) (ha : H a = none)
    (hm : ms (iniL N ds) O = .ok dm O')
    (k : ∀ (S' : Hp) (r' : Rg) (H2 : Hp), Same S S' → r.l <+: r'.l → Rs K ad S' r' O' H2 → H2 a = some (exo a C none) → r'.fr a ≠ none → (∀ b o, r.fr b = some o → b ≠ a ∧ r'.fr b = some o) → (∀ b, H2 b = none → H b = none) → Rl K S' r' (iniL N ds) (L2.start N (V.ref a :: ws)) →
      tr { nx := fun _ H' => Q .non H', rt := Q } (L2.start N (V.ref a :: ws)) H2) :
    spI N ps C (tE K ad JT WF ms) tr (V.ref a :: ws) (upd H a (exo a C none)) Q E := by
  refine ⟨by rw [List.length_cons, p.length]; exact hl, a, rfl, upd_same, ?_⟩
  have hA := rs.holdAll
  have hh := Rs.hold (o := exo a C none) hA ha
  refine ⟨S, _, iniL N ds, O, trivial, ⟨(rl_init (by omega) p).len, fun i d q => ?_⟩, hh, ?_⟩
  · obtain ⟨v, q1, q2⟩ := (rl_init (a := a) (N := N) (by omega) p).at_ i d q
    exact ⟨v, q1, Rp.monoW (r := r) (r' := (r.at (allFr S r H)).at (upd (r.at (allFr S r H)).fr a (exo a C none))) (Same.refl S) List.prefix_rfl d v q2⟩
  · rw [hm]
    intro S' r' H2 v e2 s2 _
    have efr : ∀ b o, allFr S r H b = some o → r'.fr b = some o := fun b o eb => by
      rw [e2.f]
      show upd (allFr S r H) a (exo a C none) b = some o
      have : b ≠ a := fun z => by
        have q := hA.fr b o eb
        rw [z, ha] at q
        cases q
      rw [upd_ne this]
      exact eb
    have ea : r'.fr a = some (exo a C none) := by
      rw [e2.f]
      exact upd_same
    have h2a := s2.fr a _ ea
    refine ⟨h2a, k S' r' H2 e2.s e2.r s2 h2a (by rw [ea]; exact fun z => by cases z) (fun b o eb => ?_) (fun b hb => rs.dom e2.s e2.r efr s2 hb) ?_⟩
    · have hb := rs.fr b o eb
      have n1 : b ≠ a := fun z => by rw [z, ha] at hb; cases hb
      refine ⟨n1, efr b o ?_⟩
      show (open Classical in if S b = none ∧ b ∉ r.l then H b else none) = some o
      rw [if_pos (rs.off b o eb)]
      exact hb
    · refine ⟨(rl_init (by omega) p).len, fun i d q => ?_⟩
      obtain ⟨v, q1, q2⟩ := (rl_init (a := a) (N := N) (by omega) p).at_ i d q
      exact ⟨v, q1, Rp.monoW (r := r) (r' := r') e2.s e2.r d v q2⟩
/-- the end -/
theorem endI_of {S' : Hp} {r' : Rg} {H2 H3 : Hp} {a C dx : Addr} {fs : List (Str × D)} {gs : List (Str × V)} {Qx : Option Addr → Hp → Prop} (rs : Rs K ad S r O H) (ha : H a = none) (es : Same S S') (er : r.l <+: r'.l) (s2 : Rs K ad S' r' O' H2) (hfa : r'.fr a ≠ none) (hfr : ∀ b o, r.fr b = some o → b ≠ a ∧ r'.fr b = some o) (hdom : ∀ b, H2 b = none → H b = none)
    (hdx : H2 dx = none) (hne : dx ≠ a) (h3 : ∀ b, b ≠ a → b ≠ dx → H3 b = H2 b) (h3a : H3 a = some (exo a C (some dx))) (h3d : H3 dx = some (exd dx gs)) (pf : RpP K S' r' fs gs) (q : EndI K ad S r O' fs Qx) : QI a C H Qx .non H3 := by
  have hS : S' dx = none := s2.notS hdx
  refine ⟨rfl, dx, gs, h3a, h3d, hdom dx hdx, ?_⟩
  refine q.q (upd S' dx (.xd gs)) (r'.at r.fr) _ dx gs ⟨fun b u eb => ?_, rfl, er⟩ (Rs.afterExc s2 hfa hdx hne (fun b n1 n2 => by rw [upd_ne n2, del_ne n1, h3 b n1 n2]) upd_same (fun b o eb => ?_)) upd_same ?_
  · have := es b u eb
    rw [upd_ne (fun z => by rw [z, hS] at this; cases this)]
    exact this
  · obtain ⟨n1, e1⟩ := hfr b o eb
    refine ⟨n1, fun z => ?_, e1⟩
    have q1 := rs.fr b o eb
    rw [z, hdom dx hdx] at q1
    cases q1
  · exact RpP.monoW (r := r') (r' := r'.at r.fr) (Ext.new (r := r') hS).s List.prefix_rfl _ _ pf
theorem spI_one {N ps : List Str} {a C : Addr} {ds : List D} {ws : List V} {ms : EM} {E : XK} {dm d1 : D} {f1 : Str} {j1 : Nat} {Qx : Option Addr → Hp → Prop} (T : OexC K C) (hno : PySem.W.findIn K (.ref C) f1 = some none) (rs : Rs K ad S r O H) (p : RpAll K S r ds ws) (hl : ds.length + 1 = ps.length) (hN : ps.length ≤ N.length) (ha : H a = none)
    (hm : ms (iniL N ds) O = .ok dm O') (hj : (iniL N ds)[j1]? = some (some d1)) (q : EndI K ad S r O' [(f1, d1)] Qx) :
    spI N ps C (tE K ad JT WF ms) (tOst K f1 (tVar 0) (tVar j1)) (V.ref a :: ws) (upd H a (exo a C none)) (QI a C H Qx) E := by
  refine spI_mid rs p hl hN ha hm fun S' r' H2 es er s2 h2a hfa hfr hdom rl => ?_
  obtain ⟨v1, q1, p1⟩ := rl.at_ j1 d1 hj
  refine ⟨v1, q1, .ref a, rfl, a, C, rfl, T, hno, .inl ⟨h2a, fun dx hdx hne => ?_⟩⟩
  exact endI_of rs ha es er s2 hfa hfr hdom hdx hne (fun b n1 n2 => by rw [upd_ne n1, upd_ne n2]) upd_same (by rw [upd_ne hne, upd_same]) (show RpP K S' r' [(f1, d1)] [(f1, v1)] from ⟨v1, [], rfl, p1, rfl⟩) q
end
end DK
end
section
set_option Elab.async false
set_option linter.all false
set_option autoImplicit false
set_option maxRecDepth 100000
set_option maxHeartbeats 4000000
/-! DKMore: loops over a text, methods of texts, repr. -/
namespace DK
open PySem L2
def charsD (s : Str) : List D := s.cps.toList.map fun c => .str ⟨#[c]⟩
theorem chars_rp {K : PySem.W.Frag} {S : Hp} {r : Rg} : ∀ cs : List Nat, RpAll K S r (cs.map fun c => D.str ⟨#[c]⟩) (cs.map fun c => V.str ⟨#[c]⟩)
  | [] => rfl
  | _ :: cs => ⟨_, _, rfl, rfl, chars_rp cs⟩
def sForS (m : EM) (b : BM) (body : SM) : SM := fun L O => ofRes L (m L O) fun d O1 => match d with
  | .str s => loopD (turnOf b body) (charsD s) L O1
  | _ => .bad
def mLcS (h : Bool) (src : EM) (vs : List Nat) (b : BM) (tt : TM) (el : EM) : EM := fun L O => (src L O).bind fun d O1 => match d with
  | .str s => lcEnd h (lcG (fun i _ => some (charsD s)[i]?) (lcTurn vs b tt el L) (charsD s).length 0 O1 [])
  | _ => .bad
section
variable {X : Cx} {ad : Str → Addr} {J : JP} {W : WX} {pos : Pos} {a b c e tg iter elt : Expr} {es ifs : List Expr} {m me : EM} {mt : AM} {tm : TM} {st : Stmt} {rest body els : List Stmt} {s1 s2 : SM} {bm : BM} {bs : BsM} {scope : Scope} {own : List (Str × Nat)}
theorem its_at {x : Str} {i : Nat} {v : V} (h : (x.cps.toList.map fun c => V.str ⟨#[c]⟩)[i]? = some v) : ∃ c, x.cps[i]? = some c ∧ v = .str ⟨#[c]⟩ := by
  rw [List.getElem?_map] at h
  obtain ⟨c, hc, rfl⟩ := Option.map_eq_some_iff.mp h
  exact ⟨c, by rw [← Array.getElem?_toList]; exact hc, rfl⟩
theorem ds_forS (hp : PassesOwn (model X.prog X.w) X.A X.env X.xe) (hc : X.calm = true) (hi : PE X iter (tE X.K ad J W m)) (hg : PG X tg (tG X.K ad J bm)) (hb : PSs X body (tS X.K ad J W s1)) (hs : ∀ x, foldedSetIterable iter X.env x = pure x := by intro _; rfl) :
    PS X (.For tg iter body [] pos) (tS X.K ad J W (sForS m bm s1)) := by
  refine ps_imp (ps_for hp hc (pi_str hi) hg hb hs) ?_
  rintro En σ H ⟨S, r, L, O, j, rl, rs, p⟩
  refine ⟨S, r, L, O, j, rl, rs, (bindS j rl p).imp ?_⟩
  rintro x H1 ⟨S1, r1, d, O1, e1, q1, p1, k1⟩
  have rl1 := rl.mono e1
  cases d with
  | str s =>
    refine ⟨s, p1, for_still (It' := Its s) (charsD s) (chars_rp s.cps.toList) (fun i H S x e e' hx => ?_) (fun i H S x y H' e e' hx hy => ?_) (fun i H S e e' hl => ?_) (J.mono e1.s j) rl1 q1 k1⟩
    · obtain ⟨c, hc, _⟩ := its_at hx
      exact (Array.getElem?_eq_some_iff.mp hc).1
    · obtain ⟨c, hc, rfl⟩ := its_at hx
      obtain ⟨h1, c2, h2, h3⟩ := hy
      rw [hc] at h2
      cases h2
      exact ⟨h3, h1⟩
    · rw [List.length_map] at hl
      exact hl
  | hdl n => exact k1.elim
  | lst n => exact k1.elim
  | rol n => exact k1.elim
  | tup n => exact k1.elim
  | non => exact k1.elim
  | bl b => exact k1.elim
  | int i => exact k1.elim
theorem lcS_imp {hm : Bool} : ∀ σ H Q, (tE X.K ad J W (mLcS hm m (own.map (·.2)) bm tm me)) σ H Q → tLc (iStr (tE X.K ad J W m)) (tGx X.K ad (own.map (·.2)) bm) (tTx X.K ad (own.map (·.2)) tm) (tEx X.K ad (own.map (·.2)) me) (own.map (·.2)) σ H Q := by
  rintro σ H Q ⟨S, r, L, O, j, rl, rs, z⟩
  refine ⟨S, r, L, O, j, rl, rs, (Post.bind z).imp ?_⟩
  rintro x H1 ⟨S1, r1, d, O1, e1, s1, p1, q1⟩
  cases d with
  | str s =>
    refine ⟨s, p1, lc_post (nx := fun i _ => some (charsD s)[i]?) (fun i S r O H d' es el rs hn => ?_) (fun i S r O H es el rs hn => ?_) (rl.mono e1) s1 q1⟩
    · have hn' : (charsD s)[i]? = some d' := Option.some.inj hn
      unfold charsD at hn'
      rw [List.getElem?_map] at hn'
      obtain ⟨c, hc, rfl⟩ := Option.map_eq_some_iff.mp hn'
      rw [Array.getElem?_toList] at hc
      refine ⟨(Array.getElem?_eq_some_iff.mp hc).1, fun x H' hyy => ⟨hyy.1, ?_⟩⟩
      obtain ⟨_, c2, h2, h3⟩ := hyy
      rw [hc] at h2
      cases h2
      exact h3
    · have := List.getElem?_eq_none_iff.mp (Option.some.inj hn)
      unfold charsD at this
      rw [List.length_map] at this
      exact this
  | hdl n => exact q1.elim
  | lst n => exact q1.elim
  | rol n => exact q1.elim
  | tup n => exact q1.elim
  | non => exact q1.elim
  | bl b => exact q1.elim
  | int i => exact q1.elim
theorem de_lcS {hm : Bool} (hc : X.calm = true) (hN : X.N.Nodup) (hi : PE X iter (tE X.K ad J W m)) (ok : BlkOk X.N X.env.scope scope own)
    (hg : ∀ (s : Shared) (H : Hp) (C : Addr) (cl : List (Str × Addr)) (fp : List Addr) (J' : JP), Cl (own.map (·.2)) J' → PG (X.blk s H scope (PySem.compEnvC scope cl C X.env) fp) tg (tG X.K ad J' bm))
    (ht : ∀ (s : Shared) (H : Hp) (C : Addr) (cl : List (Str × Addr)) (fp : List Addr) (J' : JP), Cl (own.map (·.2)) J' → PTs (X.blk s H scope (PySem.compEnvC scope cl C X.env) fp) ifs (tT X.K ad J' WF tm))
    (he : ∀ (s : Shared) (H : Hp) (C : Addr) (cl : List (Str × Addr)) (fp : List Addr) (J' : JP), Cl (own.map (·.2)) J' → PE (X.blk s H scope (PySem.compEnvC scope cl C X.env) fp) elt (tE X.K ad J' WF me)) (hs : ∀ x, foldedSetIterable iter X.env x = pure x := by intro _; rfl) :
    PE X (.ListComp elt [⟨tg, iter, ifs, 0⟩] scope pos) (tE X.K ad J W (mLcS hm m (own.map (·.2)) bm tm me)) :=
  pe_imp (pe_lc hc hN (pi_str hi) ok (g := tGx X.K ad (own.map (·.2)) bm) (tt := tTx X.K ad (own.map (·.2)) tm) (te := tEx X.K ad (own.map (·.2)) me) (fun s H C cl fp => gx_of (hg s H C cl fp)) (fun s H C cl fp => tx_of (ht s H C cl fp)) (fun s H C cl fp => ex_of (he s H C cl fp)) hs) lcS_imp
/-! ### repr -/
end
/-! ### methods of texts -/
structure MethS (X : Cx) (ad : Str → Addr) (id : String) (g : Store → Str → List D → Option (D × Store)) : Prop where
  ok : ∃ rr, MtR X id rr ∧ ∀ (S : Hp) (r : Rg) (O : Store) (H : Hp) (s : Str) (vs : List V) (ds : List D) (W : WX) (σ : L2.St) (Q : VK), Rs X.K ad S r O H → RpAll X.K S r ds vs →
    Post X.K ad (fun S r => Rp X.K S r) W σ S r Q (ofO (g O s ds)) → rr (.str s) vs H Q
def mBS (g : Store → Str → List D → Option (D × Store)) (mo : EM) (mt : AM) : EM := fun L O => (mo L O).bind fun d O1 => match d with
  | .str s => (mt L O1).bind fun ds O2 => ofO (g O2 s ds)
  | _ => .bad
def rows (h : Bool) (ys : List Str) (O : Store) : Option (D × Store) := newLO h (ys.map .str) O
def gSplit (h : Bool) : Store → Str → List D → Option (D × Store) := fun O a ds => match ds with
  | [.str b] => if (b.length == 0) = false ∧ a.length ≤ 1000000 then rows h (Txt.split a b) O else none
  | _ => none
def strsOf : List D → Option (List Str)
  | [] => some []
  | .str s :: ds => (strsOf ds).map (s :: ·)
  | _ => none
def gJoin : Store → Str → List D → Option (D × Store) := fun O a ds => match ds with
  | [d] => match seqOf O d with
    | some xs => match strsOf xs with
      | some ys => if (ys.map (·.length)).sum + ys.length * a.length ≤ 16777216 then some (.str (Txt.join a ys), O) else none
      | none => none
    | none => none
  | _ => none
theorem strsOf_rp {K : PySem.W.Frag} {S : Hp} {r : Rg} : ∀ {ds : List D} {vs : List V} {ns : List Str}, RpAll K S r ds vs → strsOf ds = some ns → vs = ns.map V.str
  | [], vs, ns, h, e => by cases e; exact h
  | .str i :: ds, vs, ns, h, e => by
    obtain ⟨v, vr, rfl, rfl, h2⟩ := h
    have e : (strsOf ds).map (i :: ·) = some ns := e
    obtain ⟨ms, e1, rfl⟩ := Option.map_eq_some_iff.mp e
    rw [strsOf_rp h2 e1]
    rfl
  | .non :: _, _, _, _, e => by cases e
  | .int _ :: _, _, _, _, e => by cases e
  | .bl _ :: _, _, _, _, e => by cases e
  | .lst _ :: _, _, _, _, e => by cases e
  | .rol _ :: _, _, _, _, e => by cases e
  | .tup _ :: _, _, _, _, e => by cases e
  | .hdl _ :: _, _, _, _, e => by cases e
theorem strs_rp {K : PySem.W.Frag} {S : Hp} {r : Rg} : ∀ ys : List Str, RpAll K S r (ys.map D.str) (ys.map V.str)
  | [] => rfl
  | _ :: ys => ⟨_, _, rfl, rfl, strs_rp ys⟩
section
variable {X : Cx} {ad : Str → Addr} {J : JP} {W : WX} {apos cpos : Pos} {o e : Expr} {es : List Expr} {mo : EM} {mt : AM}
theorem de_bS {name : Str} {id : String} {g : Store → Str → List D → Option (D × Store)} (pa : PlainAttrs "str") (slot : Slot "str" name id) (hty : typeOf (.builtin id) = pure (.type "method_descriptor")) (hm : MethS X ad id g) (ho : PE X o (tE X.K ad J W mo)) (ha : PA X (e :: es) (tA X.K ad J W mt))
    (hbase : attributeBase o name X.env (eval o X.env) = eval o X.env := by rfl)
    (hfew : ((backTo cpos (starEach (e :: es) X.env)).all (fun x => !x.1) && (backToKw cpos (keywordEach [] X.env)).all (fun x => x.1.isSome)
      && decide ((e :: es).length + ([] : List Keyword).length + (if ([] : List Keyword).isEmpty then 0 else 1) < 30)) = true := by rfl)
    (hline : (apos.endLine == cpos.line) = true := by rfl) (hs : starEach (e :: es) X.env = (false, eval e X.env) :: starEach es X.env := by rfl) (hplain : (backTo cpos (starEach es X.env)).any (·.1) = false := by rfl) :
    PE X (.Call (.Attribute o name apos) (e :: es) [] cpos) (tE X.K ad J W (mBS g mo mt)) := by
  obtain ⟨rr, h1, h2⟩ := hm.ok
  refine pe_imp (pe_bm pa slot hty h1 ho ha hbase hfew hline hs hplain) ?_
  rintro σ H Q ⟨S, r, L, O, j, rl, rs, q⟩
  refine ⟨S, r, L, O, j, rl, rs, (Post.bind q).imp ?_⟩
  rintro x H1 ⟨S1, r1, d, O1, e1, s1, p1, q1⟩
  cases d with
  | str s =>
    refine ⟨by rw [show x = .str s from p1]; rfl, S1, r1, L, O1, J.mono e1.s j, rl.mono e1, s1, (Post.bind q1).imp ?_⟩
    rintro vs H2 ⟨S2, r2, ds, O2, e2, s2, p2, q2⟩
    rw [show x = .str s from p1]
    exact h2 S2 r2 O2 H2 s vs ds W σ Q s2 p2 q2
  | hdl n => exact q1.elim
  | lst n => exact q1.elim
  | rol n => exact q1.elim
  | tup n => exact q1.elim
  | non => exact q1.elim
  | bl b => exact q1.elim
  | int i => exact q1.elim
theorem rows_post {h : Bool} {ys : List Str} {S : Hp} {r : Rg} {O : Store} {H : Hp} {σ : L2.St} {Q : VK} (rs : Rs X.K ad S r O H) (q : Post X.K ad (fun S r => Rp X.K S r) W σ S r Q (ofO (rows h ys O))) : rNewStrs ys H Q := by
  unfold rows at q
  rw [ofO_newLO] at q
  exact (newL_post rs (strs_rp ys) q).2
theorem ms_split (h : Bool) : MethS X ad "str.split" (gSplit h) where
  ok := ⟨_, mt_split, fun S r O H s vs ds W σ Q rs p q => by
    unfold gSplit at q
    split at q
    · rename_i b
      obtain ⟨v, vr, rfl, rfl, rfl⟩ := p
      split at q
      · rename_i hc
        exact ⟨s, b, rfl, rfl, hc.1, by rw [sizeLine_eq]; omega, rows_post rs q⟩
      · exact q.elim
    · exact q.elim⟩
theorem ms_join : MethS X ad "str.join" gJoin where
  ok := ⟨_, mt_join, fun S r O H s vs ds W σ Q rs p q => by
    unfold gJoin at q
    split at q
    · rename_i d
      obtain ⟨v, vr, rfl, p1, rfl⟩ := p
      split at q
      · rename_i xs hx
        split at q
        · rename_i ys hy
          split at q
          · rename_i hl
            obtain ⟨a, us, rfl, h1, h2⟩ := seqOf_ok rs p1 hx
            rw [strsOf_rp h2 hy] at h1
            exact ⟨s, a, ys, rfl, rfl, h1, hl, q S r H _ (Ext.refl _ _) rs rfl⟩
          · exact q.elim
        · exact q.elim
      · exact q.elim
    · exact q.elim⟩
end
end DK
end
section
set_option Elab.async false
set_option linter.all false
set_option autoImplicit false
set_option maxRecDepth 100000
set_option maxHeartbeats 4000000
/-! DKHeadI: the head's facts of own errors with an __init__; raising them. -/
namespace DK
open PySem L2
def oexOk (K : PySem.W.Frag) (C : Addr) : Bool := match K.lookup C with
  | some ⟨.type t, _, .cls cd, sl⟩ => decide (t = "type") && (decide (cd.mro.head? = some (.ref C)) && (PySem.HandSPX.refsVE (cd.mro.drop 1) && (cd.hasDict && (!cd.hasDel && (match sl.toList with
    | [_, _, _, _, some (.builtin id), _] => decide (id = "ValueError.__new__")
    | _ => false)))))
  | _ => false
theorem oexOk_ok {K : PySem.W.Frag} {C : Addr} (h : oexOk K C = true) : ∃ nm q N bs bm sn sub ab col dd k0 k1 k2 k3 k5, K.lookup C = some (excClassObj nm q C N bs bm true sn sub ab col dd k0 k1 k2 k3 k5 "ValueError.__new__") ∧ PySem.HandSPX.refsVE bm = true := by
  unfold oexOk at h
  split at h
  · rename_i t dd cd sl hl
    obtain ⟨h1, h⟩ := He.ba h
    obtain ⟨h2, h⟩ := He.ba h
    obtain ⟨h3, h⟩ := He.ba h
    obtain ⟨h4, h⟩ := He.ba h
    obtain ⟨h5, h6⟩ := He.ba h
    have e1 := of_decide_eq_true h1
    have e2 := of_decide_eq_true h2
    obtain ⟨nm, bs, mro, ns, qn, hd, sn, sb, ab, col, del⟩ := cd
    have e4 : hd = true := h4
    have e5 : del = false := by
      have : (!del) = true := h5
      cases del
      · rfl
      · cases this
    subst e1 e4 e5
    cases mro with
    | nil => cases e2
    | cons m bm =>
      have em : m = .ref C := Option.some.inj e2
      subst em
      split at h6
      · rename_i k0 k1 k2 k3 id k5 hs
        have ei := of_decide_eq_true h6
        subst ei
        obtain ⟨sl⟩ := sl
        have hs : sl = [k0, k1, k2, k3, some (.builtin "ValueError.__new__"), k5] := hs
        subst hs
        exact ⟨nm, qn, ns, bs, bm, sn, sb, ab, col, dd, k0, k1, k2, k3, k5, hl, h3⟩
      · cases h6
  · cases h
/-- an error's __init__: its class, parameters, body, scope -/
structure IniD where
  cls : Str
  qual : Str
  params : Arguments
  body : List Stmt
  scope : Scope
abbrev FnC : Type := Option (Str × Str × Arguments × FuncBody × Scope × Addr × List Str × Value × Addr)
def IniD.at_ (d : IniD) : Str × Option Str := (d.cls, some "__init__")
def fnC (K : PySem.W.Frag) (p : Str × Option Str) : FnC := match K.lookup (He.fAd K p) with
  | some ⟨_, _, .func fd, _⟩ => some (fd.name, fd.qualname, fd.params, fd.body, fd.scope, fd.globals, fd.closure.map (·.1), fd.defaults, fd.builtins)
  | _ => none
def IniD.val (d : IniD) : FnC := some (("__init__" : Str), d.qual, d.params, FuncBody.stmts d.body, d.scope, mainGlobals, [("__class__" : Str)], Value.none, builtinsNs)
def IniD.ok (K : PySem.W.Frag) (main : Str) (d : IniD) : Bool := match K.lookup (He.fAd K d.at_) with
  | some ⟨_, _, .func fd, _⟩ => (match fd.closure, fd.code with
    | [(_, cc)], .ref cda => PySem.W.codeIn K (.ref cda) d.qual && ((match K.lookup cc with
        | some ⟨_, _, .cell (some v), _⟩ => decide (v = .ref (He.ga K d.cls))
        | _ => false) && ((match K.lookup cda with
        | some ⟨_, _, .fields vs, _⟩ => (match vs[2]? with
          | some (Value.str x _) => decide (x = main)
          | _ => false)
        | _ => false) && decide (PySem.W.mroIn K (He.ga K d.cls) (.ref (He.ga K d.cls)) = some true ∧ PySem.W.ks_superIn K (He.ga K d.cls) (He.ga K d.cls) "__init__" = some (some (.builtin "ValueError.__init__")) ∧ PySem.W.subIn K (.ref (He.ga K d.cls)) (.type "ValueError") = some true
          ∧ PySem.W.nsIn K cStatics "thirdparty.any" = some none ∧ PySem.W.nsIn K mainGlobals "super" = some none ∧ PySem.W.findIn K (.ref (He.ga K d.cls)) "__setattr__" = some (some (.builtin "object.__setattr__")) ∧ PySem.W.subIn K (.ref (He.ga K d.cls)) (.type "BaseException") = some true
          ∧ PySem.W.typeIn K (.ref (He.ga K d.cls)) = some (.type "type") ∧ PySem.W.keepIn K (.ref (He.ga K d.cls)) = true ∧ PySem.W.findIn K (.ref (He.ga K d.cls)) "__init__" = some (some (.ref (He.fAd K d.at_))) ∧ PySem.W.typeIn K (.ref (He.fAd K d.at_)) = some (.type "function") ∧ oexOk K (He.ga K d.cls) = true)))
    | _, _ => false)
  | _ => false
/-- what is known of it -/
structure IniK (K : PySem.W.Frag) (main : Str) (d : IniD) : Prop where
  lk : ∃ oc od kV doc pm an cda ct cc osl, K.lookup (He.fAd K d.at_) = some ⟨oc, od, .func (PySem.W.ksFn "__init__" d.qual d.params d.body d.scope .none kV doc pm an (.ref cda) ct cc), osl⟩ ∧ PySem.W.codeIn K (.ref cda) d.qual = true ∧ SupK K main (He.fAd K d.at_) (He.ga K d.cls) cc cda
  T : OexC K (He.ga K d.cls)
  iC : PySem.W.findIn K (.ref (He.ga K d.cls)) "__init__" = some (some (.ref (He.fAd K d.at_)))
  tI : PySem.W.typeIn K (.ref (He.fAd K d.at_)) = some (.type "function")
theorem iniK_of {K : PySem.W.Frag} {main : Str} {d : IniD} (e : fnC K d.at_ = d.val) (c : d.ok K main = true) : IniK K main d := by
  unfold IniD.ok at c
  unfold fnC at e
  cases q : K.lookup (He.fAd K d.at_) with
  | none => rw [q] at c; cases c
  | some o =>
    obtain ⟨oc, od, dt, osl⟩ := o
    rw [q] at c e
    cases dt with
    | func fd =>
      obtain ⟨n1, n2, n3, n4, n5, n6, n7, n8, n9, n10, n11, n12, n13, n14, n15⟩ := fd
      have e2 : (some (n1, n2, n3, n4, n5, n6, n7.map (·.1), n8, n15) : FnC) = some (("__init__" : Str), d.qual, d.params, FuncBody.stmts d.body, d.scope, mainGlobals, [("__class__" : Str)], Value.none, builtinsNs) := e
      simp only [Option.some.injEq, Prod.mk.injEq] at e2
      obtain ⟨h1, h2, h3, h4, h5, h6, h7, h8, h9⟩ := e2
      subst h1 h2 h3 h4 h5 h6 h8 h9
      cases n7 with
      | nil => cases h7
      | cons p r =>
        cases r with
        | cons _ _ => simp at h7
        | nil =>
          obtain ⟨pn, cc⟩ := p
          have hpn : pn = "__class__" := by simpa using h7
          subst hpn
          cases n13 with
          | ref cda =>
            obtain ⟨c1, c⟩ := He.ba c
            obtain ⟨c2, c⟩ := He.ba c
            obtain ⟨c3, c4⟩ := He.ba c
            obtain ⟨g1, g2, g3, g4, g5, g6, g7, g8, g9, g10, g11, g12⟩ := of_decide_eq_true c4
            refine ⟨⟨oc, od, _, _, _, _, cda, _, cc, osl, q, c1, ?_, ?_, g1, g2, g3, g4, g5⟩, ⟨oexOk_ok g12, g6, g7, g8, g9⟩, g10, g11⟩
            · split at c2
              · rename_i cl cld v csl hc
                have := of_decide_eq_true c2
                subst this
                exact ⟨_, _, _, hc⟩
              · cases c2
            · split at c3
              · rename_i ccl cdd vs ccs hc
                split at c3
                · rename_i x tf hv
                  have := of_decide_eq_true c3
                  subst this
                  exact ⟨_, _, _, _, tf, hc, hv⟩
                · cases c3
              · cases c3
          | _ => cases c
    | _ => cases c
/-! ### the Hook -/
abbrev AlI : Type := He.AlD × Bool × List FnC
structure SaysI (fa : List He.Fa) (fn : List He.DefD) (fx : List Fx) (main : Str) (ins : List IniD) (K : PySem.W.Frag) : Prop where
  c : He.SaysD fa fn K
  x : allFx fx K = true
  i : ∀ d ∈ ins, IniK K main d
def obsI (fa : List He.Fa) (fn : List He.DefD) (fx : List Fx) (main : Str) (ins : List IniD) (K : PySem.W.Frag) : AlI := (He.obsD fa fn K, allFx fx K && ins.all (fun d => d.ok K main), ins.map fun d => fnC K d.at_)
theorem saysI_of {fa : List He.Fa} {fn : List He.DefD} {fx : List Fx} {main : Str} {ins : List IniD} {K : PySem.W.Frag} (e : obsI fa fn fx main ins K = (He.valD fn, true, ins.map IniD.val)) : SaysI fa fn fx main ins K := by
  have e1 : He.obsD fa fn K = He.valD fn := congrArg (fun z : AlI => z.1) e
  have e2 : (allFx fx K && ins.all (fun d => d.ok K main)) = true := congrArg (fun z : AlI => z.2.1) e
  have e3 : ins.map (fun d => fnC K d.at_) = ins.map IniD.val := congrArg (fun z : AlI => z.2.2) e
  obtain ⟨h1, h2⟩ := He.ba e2
  refine ⟨e1, h1, fun d hd => iniK_of ?_ (List.all_eq_true.mp h2 d hd)⟩
  obtain ⟨n, hn, rfl⟩ := List.mem_iff_getElem.mp hd
  have := congrArg (fun l : List FnC => l[n]?) e3
  simp only [List.getElem?_map, List.getElem?_eq_getElem hn, Option.map_some, Option.some.injEq] at this
  exact this
/-! ### a def that makes an error -/
/-- the mirror of an __init__: of the arguments the fields -/
abbrev XM := List D → Store → Option (List (Str × D) × Store)
def HasX (P : Program) (w : World) (K : PySem.W.Frag) (mg : Str → Option Value) (base : Heap) (k : Nat) (c : Str) (n : Nat) (mk : XM) : Prop :=
  OexC K (He.ga K c) ∧ PySem.W.findIn K (.ref (He.ga K c)) "__init__" = some (some (.ref (He.fAd K (c, some "__init__")))) ∧ PySem.W.typeIn K (.ref (He.fAd K (c, some "__init__"))) = some (.type "function") ∧
  ∃ fd ps sp, FnOk P w K mg base (L2.CX P w) k (He.fAd K (c, some "__init__")) fd ps sp ∧ Binds K fd ps [] ∧ ∀ (S : Hp) (r : Rg) (O : Store) (H : Hp) (a : Addr) (ds : List D) (ws : List V) (fs : List (Str × D)) (O' : Store) (Qx : Option Addr → Hp → Prop) (E : XK), Rs K (He.ga K) S r O H → RpAll K S r ds ws → ds.length = n → H a = none → mk ds O = some (fs, O') →
    EndI K (He.ga K) S r O' fs Qx → sp (V.ref a :: ws) (upd H a (exo a (He.ga K c) none)) (QI a (He.ga K c) H Qx) E
def sRaiseX (c : Str) (n : Nat) (mk : XM) (t : AM) : SM := fun L O => ofRes L (t L O) fun ds O1 => if ds.length = n ∧ n ≤ 1000 then (match mk ds O1 with
  | some p => .exc ⟨c, some p.1⟩ L p.2
  | none => .bad) else .bad
theorem ds_raiseX {X : Cx} {J : JP} {W : WX} {k n : Nat} {c x : Str} {mk : XM} {p p2 pos : Pos} {e : Expr} {es : List Expr} {mt : AM} (hc : X.calm = true) (tk : Takes X W) (F : HasX X.prog X.w X.K X.mg X.base k c n mk) (hr : Room (k + 1) X.A) (hg : Gl X x) (hm : X.mg x = some (.ref (He.ga X.K c))) (ha : PA X (e :: es) (tA X.K (He.ga X.K) J W mt))
    (hdb : (x == ("__debug__" : Str)) = false := by decide) (he : starEach (e :: es) X.env = (false, eval e X.env) :: starEach es X.env := by rfl) (hpl : (backTo p2 (starEach es X.env)).any (·.1) = false := by rfl) :
    PS X (.Raise (some (.Call (.Name x p) (e :: es) [] p2)) none pos) (tS X.K (He.ga X.K) J W (sRaiseX c n mk mt)) := by
  obtain ⟨T, iC, tI, fd, ps, sp, F1, hb, hsp⟩ := F
  have hx : Passes (L2.CX X.prog X.w) X (fun _ _ _ => False) := fun pins σ H s e s' I c => by
    obtain ⟨_, _, _, _, _, _, _, _, _, _, _, _, z⟩ := c
    exact z.elim
  refine ps_imp (ps_raise hc tk (pmk_oex T iC tI F1 hr hb .nil hx hg hm ha hdb he hpl)) ?_
  rintro En σ H ⟨S, r, L, O, j, rl, rs, z⟩
  refine ⟨S, r, L, O, j, rl, rs, (bindS j rl z).imp ?_⟩
  rintro vs H1 ⟨S1, r1, ds, O1, e1, q1, p1, k1⟩
  split at k1
  · rename_i hn
    split at k1
    · rename_i fp hmk
      refine ⟨by rw [p1.length, hn.1]; exact hn.2, fun a ha => ?_⟩
      rw [List.append_nil]
      refine hsp S1 r1 O1 H1 a ds vs fp.1 fp.2 (fun d H' => W (.ref (He.ga X.K c)) d σ H') _ q1 p1 hn.1 ha hmk ⟨fun S2 r2 H4 dd gs e2 q2 hdd pg => ?_⟩
      exact k1 S2 r2 σ H4 (some dd) e2 (J.mono (e1.trans e2).s j) (rl.mono (e1.trans e2)) q2 ⟨dd, gs, rfl, hdd, pg⟩
    · exact k1.elim
  · exact k1.elim
end DK
end
section
set_option Elab.async false
set_option linter.all false
set_option autoImplicit false
set_option maxRecDepth 100000
set_option maxHeartbeats 4000000
/-! DKRun: the run of the top, looked at part by part (each part by itself is less for the kernel to hold). -/
namespace DK
open PySem L2 HandSHeadRun
/-- one look at the run's end -/
def hkL (α : Type) (v : α) : PySem.W.Hook where
  α := α
  obs := fun _ => v
  val := fun _ => v
  says := fun _ _ => True
  of := fun _ _ _ => trivial
  keeps := fun _ _ _ h _ => h
theorem run_of {r : PySem.W.OpenRow} {q : Program} {H : PySem.W.Hook} {ob : PySem.W.SharedT → H.α} {M : Nat} {loose : List PySem.Str} {w : World} {α : Type} {va : α} {a : PySem.W.SharedT → α} (h : RunEq r q (hkL α va) a M loose w) (j : ∀ s, a s = va → ob s = H.val w) : RunEq r q H ob M loose w := fun os => by
  obtain ⟨s, e, z⟩ := Option.map_eq_some_iff.mp (h os)
  refine Option.map_eq_some_iff.mpr ⟨s, e, ?_⟩
  have z1 := congrArg (fun z => z.1) z
  have z2 := congrArg (fun z => z.2.1) z
  have z3 : a s = va := congrArg (fun z => z.2.2) z
  exact Prod.ext z1 (Prod.ext z2 (j s z3))
theorem run_and {r : PySem.W.OpenRow} {q : Program} {M : Nat} {loose : List PySem.Str} {w : World} {α β : Type} {va : α} {vb : β} {a : PySem.W.SharedT → α} {b : PySem.W.SharedT → β} (h : RunEq r q (hkL α va) a M loose w) (g : RunEq r q (hkL β vb) b M loose w) : RunEq r q (hkL (α × β) (va, vb)) (fun s => (a s, b s)) M loose w := fun os => by
  obtain ⟨s, e, z⟩ := Option.map_eq_some_iff.mp (h os)
  obtain ⟨s', e', z'⟩ := Option.map_eq_some_iff.mp (g os)
  have es : s = s' := Option.some.inj (e.symm.trans e')
  subst es
  refine Option.map_eq_some_iff.mpr ⟨s, e, ?_⟩
  have z1 := congrArg (fun z => z.1) z
  have z2 := congrArg (fun z => z.2.1) z
  have z3 : a s = va := congrArg (fun z => z.2.2) z
  have z4 : b s = vb := congrArg (fun z => z.2.2) z'
  exact Prod.ext z1 (Prod.ext z2 (Prod.ext z3 z4))
/-- what a function names -/
def kidsF (fd : FuncData) : List Addr := He.refV fd.code ++ (He.refV fd.defaults ++ (He.refV fd.kwdefaults ++ fd.closure.map (·.2)))
def ownF (g : Addr → Option Obj) (a : Addr) : List Addr := match g a with
  | some ⟨_, _, .func fd, _⟩ => kidsF fd
  | _ => []
/-- what stands in a namespace -/
def inNs (g : Addr → Option Obj) (a : Addr) : List Addr := match g a with
  | some ⟨_, _, .dict es _, _⟩ => es.toList.flatMap fun e => He.refV e.val
  | _ => []
/-- what a global names: a function's code, a class's methods and their code -/
def ownG (g : Addr → Option Obj) (a : Addr) : List Addr := match g a with
  | some ⟨_, _, .func fd, _⟩ => kidsF fd
  | some ⟨_, _, .cls cd, _⟩ => cd.ns :: (inNs g cd.ns ++ (inNs g cd.ns).flatMap (ownF g))
  | _ => []
def asJ (g : Addr → Option Obj) : List Addr := cStatics :: mainGlobals :: (inNs g mainGlobals ++ (inNs g mainGlobals).flatMap (ownG g))
def hookJ (fa : List He.Fa) (fn : List He.DefD) (fx : List Fx) (main : Str) (ins : List IniD) : PySem.W.Hook where
  α := AlI
  obs := fun s => obsI fa fn fx main ins (He.frG s.heap.get? (asJ s.heap.get?))
  val := fun _ => (He.valD fn, true, ins.map IniD.val)
  says := fun _ h => ∃ K : PySem.W.Frag, K.In h ∧ SaysI fa fn fx main ins K
  of := fun _ _ e => ⟨_, He.frG_in, saysI_of e⟩
  keeps := fun _ _ _ ⟨K, hK, c⟩ k => ⟨K, PySem.W.Frag.In.keeps hK k, c⟩
def obsJG (fa : List He.Fa) (fn : List He.DefD) (fx : List Fx) (main : Str) (ins : List IniD) (g : Addr → Option Obj) : AlI := obsI fa fn fx main ins (He.frG g (asJ g))
theorem obsJG_eq {fa : List He.Fa} {fn : List He.DefD} {fx : List Fx} {main : Str} {ins : List IniD} {g : Addr → Option Obj} {s : Shared} (h : ∀ a, g a = s.heap.get? a) : obsJG fa fn fx main ins g = (hookJ fa fn fx main ins).obs s := by
  have e : g = s.heap.get? := funext h
  rw [e] <;> rfl
/-- the objects that are looked at -/
def frT (s : PySem.W.SharedT) : PySem.W.Frag := He.frG (getT s) (asJ (getT s))
def lookA (fa : List He.Fa) (s : PySem.W.SharedT) : Bool := fa.all fun f => f.ok (frT s)
def lookD (fn : List He.DefD) (s : PySem.W.SharedT) : Bool := fn.all fun d => d.ok (frT s)
def lookV (fn : List He.DefD) (s : PySem.W.SharedT) : List He.FnW := fn.map fun d => He.fnW (frT s) d.at_
def lookX (fx : List Fx) (s : PySem.W.SharedT) : Bool := allFx fx (frT s)
def lookI (main : Str) (ins : List IniD) (s : PySem.W.SharedT) : Bool × List FnC := (ins.all fun d => d.ok (frT s) main, ins.map fun d => fnC (frT s) d.at_)
theorem look_join {fa : List He.Fa} {fn : List He.DefD} {fx : List Fx} {main : Str} {ins : List IniD} {s : PySem.W.SharedT} (h : ((lookA fa s, lookX fx s, lookI main ins s), (lookD fn s, lookV fn s)) = ((true, true, (true, ins.map IniD.val)), (true, fn.map He.DefD.val))) :
    obsJG fa fn fx main ins (getT s) = (He.valD fn, true, ins.map IniD.val) := by
  have h1 : lookA fa s = true := congrArg (fun z => z.1.1) h
  have h2 : lookX fx s = true := congrArg (fun z => z.1.2.1) h
  have h3 : (ins.all fun d => d.ok (frT s) main) = true := congrArg (fun z => z.1.2.2.1) h
  have h4 : (ins.map fun d => fnC (frT s) d.at_) = ins.map IniD.val := congrArg (fun z => z.1.2.2.2) h
  have h5 : lookD fn s = true := congrArg (fun z => z.2.1) h
  have h6 : lookV fn s = fn.map He.DefD.val := congrArg (fun z => z.2.2) h
  unfold lookA at h1
  unfold lookX at h2
  unfold lookD at h5
  unfold lookV at h6
  show obsI fa fn fx main ins (frT s) = _
  unfold obsI He.obsD He.valD
  rw [h1, h2, h3, h4, h5, h6]
  rfl
end DK
end
section
set_option Elab.async false
set_option linter.all false
set_option autoImplicit false
set_option maxRecDepth 100000
set_option maxHeartbeats 4000000
/-! DKMeth: methods of a list of the store (pop, insert, extend, remove, reverse), by mirrors. -/
namespace DK
open PySem L2
end DK
end
section
set_option Elab.async false
set_option linter.all false
set_option autoImplicit false
set_option maxRecDepth 100000
set_option maxHeartbeats 4000000
/-! DKDict: dicts of the store, sorting. -/
namespace DK
open PySem L2
def valD (kvs : List (Key × D)) (k : Key) : Option D := (kvs.find? fun kv => decide (kv.1 = k)).map (·.2)
section
variable {K : PySem.W.Frag} {ad : Str → Addr} {S : Hp} {r : Rg} {O : Store} {H : Hp}
theorem RpP.val {k : Key} : ∀ {fs : List (Key × D)} {gs : List (Key × V)}, RpP K S r fs gs → (∀ d, valD fs k = some d → ∃ v, valV gs k = some v ∧ Rp K S r d v) ∧ (valD fs k = none → valV gs k = none)
  | [], gs, h => by
    rw [show gs = [] from h]
    exact ⟨fun d e => (by cases e), fun _ => rfl⟩
  | (g, x) :: fs, gs, h => by
    obtain ⟨v, gr, rfl, h1, h2⟩ := h
    obtain ⟨i1, i2⟩ := RpP.val (k := k) h2
    by_cases e : g = k
    · have e1 : valD ((g, x) :: fs) k = some x := by simp [valD, List.find?_cons, e]
      have e2 : valV ((g, v) :: gr) k = some v := valV_pos e
      exact ⟨fun d hd => ⟨v, e2, by rw [e1] at hd; cases hd; exact h1⟩, fun hn => by rw [e1] at hn; cases hn⟩
    · have e1 : valD ((g, x) :: fs) k = valD fs k := by simp [valD, List.find?_cons, e]
      have e2 : valV ((g, v) :: gr) k = valV gr k := valV_neg e
      rw [e1, e2]
      exact ⟨i1, i2⟩
end
/-! ### list, dict, sorted -/
end DK
end
section
set_option Elab.async false
set_option linter.all false
set_option autoImplicit false
set_option maxRecDepth 100000
set_option maxHeartbeats 4000000
/-! DKConv: tuple(list), and other conversions, by mirrors. -/
namespace DK
open PySem L2
end DK
end
section
set_option Elab.async false
set_option linter.all false
set_option autoImplicit false
set_option maxRecDepth 100000
set_option maxHeartbeats 4000000
/-! DKMin: min and max of two texts, by mirrors. -/
namespace DK
open PySem PySem.Spec PyProof.Rows L2
end DK
end
section
set_option Elab.async false
set_option linter.all false
set_option autoImplicit false
set_option maxRecDepth 100000
set_option maxHeartbeats 4000000
/-! DKFrz: a list of the store that nobody writes any more is let be for good. -/
namespace DK
open PySem L2
end DK
end
section
set_option Elab.async false
set_option linter.all false
set_option autoImplicit false
set_option maxRecDepth 100000
set_option maxHeartbeats 4000000
/-! DKRev: list(reversed(a list)), by mirrors. -/
namespace DK
open PySem PySem.Spec PyProof.Rows L2 RT
end DK
end
section
set_option Elab.async false
set_option linter.all false
set_option autoImplicit false
set_option maxRecDepth 100000
set_option maxHeartbeats 4000000
/-! DKOwn: == by an own __eq__, isinstance of an own class, remove from a list of texts; by mirrors. -/
namespace DK
open PySem L2
/-! ### remove from a list of texts -/
end DK
end
section
set_option Elab.async false
set_option linter.all false
set_option autoImplicit false
set_option maxRecDepth 100000
set_option maxHeartbeats 4000000
/-! DKMany: several except clauses, by mirrors; suites that are never asked. -/
namespace DK
open PySem L2
/-- a clause: which classes it takes, and its suite's mirrors -/
structure HdM where
  sub : Str → Option Bool
  ss : Str → SM
section
variable {X : Cx} {ad : Str → Addr} {J : JP} {W : WX} {pos : Pos} {body : List Stmt} {sb : SM} {st : List Stmt}
/-- the clauses, one by one -/
inductive HdsD (X : Cx) (ad : Str → Addr) : List ExceptHandler → List HdM → List (Value × (Addr → Value → Option Addr → TS)) → Prop
  | nil : HdsD X ad [] [] []
  | cons {x : Str} {cv : Value} {h : HdM} {b0 : Stmt} {suite : List Stmt} {np pos' : Pos} {hds : List ExceptHandler} {ms : List HdM} {l : List (Value × (Addr → Value → Option Addr → TS))} (hc : Names X x cv)
      (hsub : ∀ nm b, h.sub nm = some b → PySem.W.exmOne X.K (.ref (ad nm)) cv = some b)
      (hsu : ∀ (nm : Str) (a : Addr) (oe : Obj) (pn : List (Addr × Obj)), h.sub nm = some true → Zc (.ref (ad nm)) none oe → (∃ vs, oe.data = .fields vs) → PSs (X.suite a ((a, oe) :: pn)) (b0 :: suite) (tS X.K ad JT WF (h.ss nm)))
      (r : HdsD X ad hds ms l) : HdsD X ad (.ExceptHandler (some (.Name x np)) none (b0 :: suite) pos' :: hds) (h :: ms)
        ((cv, fun a cls d En σ H => ∃ nm : Str, (cls = .ref (ad nm) ∧ d = none ∧ h.sub nm = some true) ∧ tS X.K ad JT WF (h.ss nm) En σ H) :: l)
theorem HdsD.ok {hds : List ExceptHandler} {ms : List HdM} {l : List (Value × (Addr → Value → Option Addr → TS))} (k : HdsD X ad hds ms l) : HdsOk X hds l := by
  induction k with
  | nil => exact .nil
  | cons hc hsub hsu r ih =>
    refine .cons hc (fun a oe cls d pn hz hfl => ?_) ih
    exact pss_ex fun nm hp => by
      obtain ⟨rfl, rfl, h3⟩ := hp
      exact hsu nm a oe pn h3 hz hfl
end
end DK
end
section
set_option Elab.async false
set_option linter.all false
set_option autoImplicit false
set_option maxRecDepth 100000
set_option maxHeartbeats 4000000
/-! DKSortD: sorted and min of lists of alike data (tuples of ints and texts, any length), by mirrors. -/
namespace DK
open PySem PySem.Spec PyProof.Rows L2 PySem.W
/-! ### min -/
/-! ### sorted of a dict by texts, any length -/
end DK
end
section
set_option Elab.async false
set_option linter.all false
set_option autoImplicit false
set_option maxRecDepth 100000
set_option maxHeartbeats 4000000
/-! DKLock: comprehensions over a dict of the store, which is locked meanwhile; by mirrors. -/
namespace DK
open PySem L2
/-- S without what stands at a -/
def del (S : Hp) (a : Addr) : Hp := fun b => if b = a then none else S b
theorem del_ne {S : Hp} {a b : Addr} (h : b ≠ a) : del S a b = S b := if_neg h
end DK
end
section
set_option Elab.async false
set_option linter.all false
set_option autoImplicit false
set_option maxRecDepth 100000
set_option maxHeartbeats 4000000
/-! DKDictC: dict comprehensions, by mirrors. -/
namespace DK
open PySem L2
end DK
end
section
set_option Elab.async false
set_option linter.all false
set_option autoImplicit false
set_option maxRecDepth 100000
set_option maxHeartbeats 4000000
/-! DKIdx: index of a text in a list of texts, by mirrors. -/
namespace DK
open PySem L2
end DK
end
section
set_option Elab.async false
set_option linter.all false
set_option autoImplicit false
set_option maxRecDepth 100000
set_option maxHeartbeats 4000000
/-! DKSetC: sorted({.. for ..}) over ints, by a mirror. -/
namespace DK
open PySem L2 PyProof.Rows
/-! ### a set comprehension over any kind of sets -/
/-! ### ints -/
/-! ### the mirror -/
end DK
end
section
set_option Elab.async false
set_option linter.all false
set_option autoImplicit false
set_option maxRecDepth 100000
set_option maxHeartbeats 4000000
/-! DKIsB: `is True`, `is False` of truth values. -/
namespace DK
open PySem L2
end DK
end
section
set_option Elab.async false
set_option linter.all false
set_option autoImplicit false
set_option maxRecDepth 100000
set_option maxHeartbeats 4000000
/-! DKOrdD: < > <= >= of data that are alike (tuples), in and not in with data, by mirrors. -/
namespace DK
open PySem PySem.Spec PyProof.Rows L2 PySem.W
def notNone : PyData → Bool
  | .none => false
  | _ => true
theorem notNone_ok {p : PyData} (h : notNone p = true) : p ≠ .none := fun e => by subst e; cases h
def gCmpD (f : PyData → PyData → Bool) : Store → D → D → Option (D × Store) := fun O x y => match deep O 20 x, deep O 20 y with
  | some p, some q => if alike p q = true ∧ notNone p = true ∧ p.depth ≤ 40 then some (.bl (f p q), O) else none
  | _, _ => none
def gGeD := gCmpD fun p q => !dataLt p q
def rCmpD (K : PySem.W.Frag) (f : PyData → PyData → Bool) : R2 := fun x y H Q => ∃ p q, Dp K H x p ∧ Dp K H y q ∧ alike p q = true ∧ p ≠ .none ∧ p.depth ≤ 40 ∧ Q (.bl (f p q)) H
section
variable {X : Cx} {ad : Str → Addr}
theorem od_cmpD {bop : Value → Value → Sem Value} {f : PyData → PyData → Bool} (h : OpR X bop (rCmpD X.K f)) : OpD X ad bop (gCmpD f) where
  ok := by
    refine ⟨_, h, ?_⟩
    intro S r O H x y d e W σ Q rs px py p
    unfold gCmpD at p
    split at p
    · rename_i q1 q2 e1 e2
      split at p
      · rename_i hh
        exact ⟨q1, q2, deep_ok rs _ _ _ _ px e1, deep_ok rs _ _ _ _ py e2, hh.1, notNone_ok hh.2.1, hh.2.2, p S r H _ (Ext.refl _ _) rs rfl⟩
      · exact p.elim
    · exact p.elim
theorem op_geD (hu : X.A.units + 64 < cLine) : OpR X (compareOp .GtE) (rCmpD X.K fun p q => !dataLt p q) := by
  intro pins s σ H x y v u Q I rx ry h
  obtain ⟨d, e, hd, he, ha, hn, hdp, q⟩ := h
  obtain ⟨as, r1⟩ := Dp.reads I d x v hd rx
  obtain ⟨bs, r2⟩ := Dp.reads I e y u he ry
  exact ge_data r1 r2 ha hn (by omega) ⟨.bl _, H, I, rfl, q⟩
theorem od_geD (hu : X.A.units + 64 < cLine) : OpD X ad (compareOp .GtE) gGeD := od_cmpD (op_geD hu)
/-! ### in -/
end
end DK
end
section
set_option Elab.async false
set_option linter.all false
set_option autoImplicit false
set_option maxRecDepth 100000
set_option maxHeartbeats 4000000
/-! DKForD: `for x in d`, d a dict of the store, which is locked meanwhile, by mirrors. -/
namespace DK
open PySem PySem.Spec PyProof.Rows L2 PySem.W
end DK
end
section
set_option Elab.async false
set_option linter.all false
set_option autoImplicit false
set_option maxRecDepth 100000
set_option maxHeartbeats 4000000
/-! DKEqV: == of lists and dicts that are equal, whatever stands within. -/
namespace DK
open PySem L2
end DK
end
section
set_option Elab.async false
set_option linter.all false
set_option autoImplicit false
set_option maxRecDepth 100000
set_option maxHeartbeats 4000000
/-! DKPopD: d.pop(k) of a dict, by mirrors. -/
namespace DK
open PySem L2
end DK
end
section
set_option Elab.async false
set_option linter.all false
set_option autoImplicit false
set_option maxRecDepth 100000
set_option maxHeartbeats 4000000
/-! DKSetT: len({.. for ..}) over texts, by a mirror. -/
namespace DK
open PySem L2 PyProof.Rows
/-! ### texts -/
/-! ### the mirror -/
end DK
end
section
set_option Elab.async false
set_option linter.all false
set_option autoImplicit false
set_option maxRecDepth 100000
set_option maxHeartbeats 4000000
/-! DKIsN: `is not True`, `is not False` of truth values. -/
namespace DK
open PySem L2
end DK
end
section
set_option Elab.async false
set_option linter.all false
set_option autoImplicit false
set_option maxRecDepth 100000
set_option maxHeartbeats 4000000
/-! DKMaxD: max of alike data, by a mirror. -/
namespace DK
open PySem PySem.Spec PyProof.Rows L2 PySem.W
end DK
end
section
set_option Elab.async false
set_option linter.all false
set_option autoImplicit false
set_option maxRecDepth 100000
set_option maxHeartbeats 4000000
/-! DKInR: `k in d` of a dict that may be locked, by a mirror. -/
namespace DK
open PySem L2
end DK
end
section
set_option Elab.async false
set_option linter.all false
set_option autoImplicit false
set_option maxRecDepth 100000
set_option maxHeartbeats 4000000
/-! DKNeV: != of two lists that are the same, their items lists or dicts or flat; != of such dicts: False. -/
namespace DK
open PySem L2
end DK
end
section
set_option Elab.async false
set_option linter.all false
set_option autoImplicit false
set_option maxRecDepth 100000
set_option maxHeartbeats 4000000
/-! DKDOne: {k: v}, a dict of one pair, by mirrors. -/
namespace DK
open PySem L2
end DK
end
section
set_option Elab.async false
set_option linter.all false
set_option autoImplicit false
set_option maxRecDepth 100000
set_option maxHeartbeats 4000000
/-! DKTry: except clauses that take errors with fields. -/
namespace DK
open PySem L2
/-- a flat value's place -/
theorem flat_rp {K : PySem.W.Frag} {S : Hp} {r : Rg} {d : D} {v : V} (h : flatOf d = some v) : Rp K S r d v := by
  cases d <;> cases h <;> exact rfl
def flatFs : List (Str × D) → Option (List (Str × V))
  | [] => some []
  | (f, d) :: r => match flatOf d, flatFs r with
    | some v, some vs => some ((f, v) :: vs)
    | _, _ => none
theorem flatFs_rp {K : PySem.W.Frag} {S : Hp} {r : Rg} : ∀ {fs : List (Str × D)} {gs us : List (Str × V)}, flatFs fs = some us → RpP K S r fs gs → gs = us
  | [], gs, us, h, p => by cases h; exact p
  | (f, d) :: fs, gs, us, h, p => by
    obtain ⟨v, gr, rfl, h1, h2⟩ := p
    unfold flatFs at h
    split at h
    · rename_i u vs e1 e2
      cases h
      rw [flatFs_rp e2 h2, (flatOf_ok e1 h1).1]
    · cases h
theorem flatFs_look {f : Str} {d : D} : ∀ {fs : List (Str × D)} {us : List (Str × V)}, flatFs fs = some us → fs.lookup f = some d → ∃ v, us.lookup f = some v ∧ flatOf d = some v
  | [], us, h, e => by cases e
  | (g, x) :: fs, us, h, e => by
    unfold flatFs at h
    split at h
    · rename_i u vs e1 e2
      cases h
      rw [List.lookup_cons] at e ⊢
      cases hb : f == g with
      | true => rw [hb] at e; cases e; exact ⟨u, rfl, e1⟩
      | false => rw [hb] at e; exact flatFs_look e2 e
    · cases h
/-- the error's own dict, if it has one -/
def XfR (x : Exn) (od : Option Addr) (S : Hp) : Prop := match x.fs with
  | none => od = none
  | some fs => ∃ dd us, od = some dd ∧ S dd = some (.xd us) ∧ flatFs fs = some us
theorem XfR.mono {x : Exn} {od : Option Addr} {S S' : Hp} (e : Same S S') (h : XfR x od S) : XfR x od S' := by
  unfold XfR at *
  split at h
  · exact h
  · obtain ⟨dd, us, h1, h2, h3⟩ := h
    exact ⟨dd, us, h1, e _ _ h2, h3⟩
def okX (x : Exn) : Bool := match x.fs with
  | none => true
  | some fs => (flatFs fs).isSome
theorem xfR_of {K : PySem.W.Frag} {S : Hp} {r : Rg} {x : Exn} {d : Option Addr} (h : ExR K S r x d) (o : okX x = true) : XfR x d S := by
  obtain ⟨c, fs⟩ := x
  cases fs with
  | none => exact h
  | some fs =>
    obtain ⟨dd, gs, h1, h2, h3⟩ := h
    obtain ⟨us, hu⟩ := Option.isSome_iff_exists.mp (show (flatFs fs).isSome = true from o)
    rw [flatFs_rp hu h3] at h2
    exact ⟨dd, us, h1, h2, hu⟩
def Jf (i : Nat) (a : Addr) (x : Exn) (od : Option Addr) : JP := ⟨fun σ S => σ[i]? = some (some (.ref a)) ∧ XfR x od S, fun e h => ⟨h.1, h.2.mono e⟩⟩
def Jn (x : Exn) (od : Option Addr) : JP := ⟨fun _ S => XfR x od S, fun e h => h.mono e⟩
def sTryE (subc : Str → Option Bool) (oi : Option Nat) (b : SM) (suite : Exn → SM) : SM := fun L O => match b L O with
  | .next L1 O1 => .next L1 O1
  | .ret d O1 => .ret d O1
  | .brk L1 O1 => .brk L1 O1
  | .cnt L1 O1 => .cnt L1 O1
  | .exc x L1 O1 => match subc x.cls with
    | some true => if okX x = true then (match oi with
      | some i => if i < L1.length then (match suite x (L1.set i none) O1 with
        | .next L2 O2 => .next (L2.set i none) O2
        | .ret d O2 => .ret d O2
        | .brk L2 O2 => .brk (L2.set i none) O2
        | .cnt L2 O2 => .cnt (L2.set i none) O2
        | _ => .bad) else .bad
      | none => (match suite x L1 O1 with
        | .next L2 O2 => .next L2 O2
        | .ret d O2 => .ret d O2
        | .brk L2 O2 => .brk L2 O2
        | .cnt L2 O2 => .cnt L2 O2
        | _ => .bad)) else .bad
    | some false => .exc x L1 O1
    | none => .bad
  | .bad => .bad
section
variable {X : Cx} {ad : Str → Addr} {W : WX} {pos pos' p p2 np : Pos} {e : Expr} {es : List Expr} {mt : AM} {c : Str} {body suite : List Stmt} {b0 : Stmt} {sb : SM} {ss : Exn → SM}
theorem ds_tryE_as {x n : Str} {i : Nat} {cv : Value} {subc : Str → Option Bool} (hs : X.stack = X.env :: X.outer) (hf : X.env.frame = some X.env.locals) (hN : X.N.Nodup) (hi : X.N[i]? = some n) (hln : X.env.kindOf n = some .local) (hc : Names X x cv) (tk : Takes X W)
    (hsub : ∀ nm b, subc nm = some b → PySem.W.exmOne X.K (.ref (ad nm)) cv = some b)
    (hb : ∀ (W : WX) (pn : List (Addr × Obj)) (xe : Value → Shared → Prop), Takes (X.tr pn xe) W → PassesOwn (model X.prog X.w) X.A X.env xe → PSs (X.tr pn xe) body (tS X.K ad JT W sb))
    (hsu : ∀ (y : Exn) (a : Addr) (od : Option Addr) (oe : Obj) (pn : List (Addr × Obj)), subc y.cls = some true → Zc (.ref (ad y.cls)) od oe → (∃ vs, oe.data = .fields vs) → PSs (X.suite a ((a, oe) :: pn)) (b0 :: suite) (tS X.K ad (Jf i a y od) WF (ss y))) :
    PS X (.Try body [.ExceptHandler (some (.Name x np)) (some n) (b0 :: suite) pos'] [] [] pos) (tS X.K ad JT W (sTryE subc (some i) sb ss)) := by
  refine ps_imp (ps_try_as (i := i) (tb := fun W => tS X.K ad JT W sb) (ts := fun a cls d En σ H => ∃ y : Exn, (cls = .ref (ad y.cls) ∧ subc y.cls = some true) ∧ tS X.K ad (Jf i a y d) WF (ss y) En σ H) hs hf hN hi hln hc tk hb ?_) ?_
  · intro a oe cls d pn hz hfl
    exact pss_ex fun y hp => by
      obtain ⟨rfl, h3⟩ := hp
      exact hsu y a d oe pn h3 hz hfl
  rintro En σ H ⟨S, r, L, O, j, rl, rs, z⟩
  refine ⟨S, r, L, O, j, rl, rs, ?_⟩
  unfold sTryE at z
  generalize sb L O = q at z
  cases q with
  | next L O => exact z
  | ret L O => exact z
  | brk L O => exact z
  | cnt L O => exact z
  | bad => exact z.elim
  | exc y L1 O1 =>
    intro S1 r1 σ1 H1 d e1 j1 l1 s1 hd
    cases hsc : subc y.cls with
    | none => simp only [hsc] at z; exact z.elim
    | some b =>
      simp only [hsc] at z
      refine ⟨b, hsub _ b hsc, fun hbt a ha => ?_, fun hbf => ?_⟩
      · subst hbt
        simp only at z
        split at z
        · rename_i ho
          split at z
          · rename_i hil
            refine ⟨y, ⟨rfl, hsc⟩, S1, r1, L1.set i none, O1, ⟨List.getElem?_set_self (by rw [l1.len]; exact hil), xfR_of hd ho⟩, l1.wipe i _, s1, ?_⟩
            generalize ss y (L1.set i none) O1 = q at z
            cases q with
            | next L2 O2 => exact fun S2 r2 σ2 H2 e2 j2 l2 s2 => z S2 r2 _ H2 (e1.trans e2) trivial (l2.wipe i none) s2
            | ret d O2 => exact fun S2 r2 H2 v e2 s2 p2 => z S2 r2 H2 v (e1.trans e2) s2 p2
            | brk L2 O2 => exact fun S2 r2 σ2 H2 e2 j2 l2 s2 => z S2 r2 _ H2 (e1.trans e2) trivial (l2.wipe i none) s2
            | cnt L2 O2 => exact fun S2 r2 σ2 H2 e2 j2 l2 s2 => z S2 r2 _ H2 (e1.trans e2) trivial (l2.wipe i none) s2
            | exc x L2 O2 => exact z.elim
            | bad => exact z.elim
          · exact z.elim
        · exact z.elim
      · subst hbf
        exact z S1 r1 σ1 H1 d e1 j1 l1 s1 hd
/-- err.f -/
def mXf (y : Exn) (f : Str) : EM := fun _ O => match y.fs with
  | some fs => match fs.lookup f with
    | some d => .ok d O
    | none => .bad
  | none => .bad
theorem de_xf {y : Exn} {a : Addr} {od : Option Addr} {oe : Obj} {pn : List (Addr × Obj)} {ex f : Str} {i : Nat} (T : XfC X.K (ad y.cls)) (hno : PySem.W.findIn X.K (.ref (ad y.cls)) f = some none) (hz : Zc (.ref (ad y.cls)) od oe) (hf : ∃ vs, oe.data = .fields vs) (hv : PE (X.suite a ((a, oe) :: pn)) (.Name ex p) (tVar i))
    (hb : attributeBase (.Name ex p) f X.env (eval (.Name ex p) X.env) = eval (.Name ex p) X.env := by rfl) : PE (X.suite a ((a, oe) :: pn)) (.Attribute (.Name ex p) f pos) (tE X.K ad (Jf i a y od) WF (mXf y f)) := by
  refine pe_imp (pe_xf T hno hz hf hv hb) ?_
  rintro σ H Q ⟨S, r, L, O, ⟨j1, j2⟩, rl, rs, z⟩
  obtain ⟨c, fs⟩ := y
  cases fs with
  | none => exact z.elim
  | some fs =>
    obtain ⟨dd, us, h1, h2, h3⟩ := j2
    replace z : Post X.K ad (fun S r => Rp X.K S r) WF σ S r Q (match fs.lookup f with | some d => .ok d O | none => .bad) := z
    split at z
    · rename_i d hd
      obtain ⟨v, hv1, hv2⟩ := flatFs_look h3 hd
      exact ⟨.ref a, j1, rfl, rfl, dd, us, v, h1, rs.sub _ _ h2, hv1, z S r H v (Ext.refl _ _) rs (flat_rp hv2)⟩
    · exact z.elim
end
/-! ### isinstance of an error, whatever its own dict -/
/-! ### an __init__ by its parts -/
def mkOne (N : List Str) (ms : EM) (f1 : Str) (j1 : Nat) : XM := fun ds O => match ms (iniL N ds) O, (iniL N ds)[j1]? with
  | .ok _ O', some (some d1) => some ([(f1, d1)], O')
  | _, _ => none
section
variable {P : Program} {w : World} {K : PySem.W.Frag} {mg : Str → Option Value} {base : Heap} {main : Str} {d : IniD} {N ps : List Str} {self : Str} {ar : Arg} {e : Expr} {rest : List Stmt} {ms : EM} {p0 p1 apos pos pos2 : Pos} {k : Nat}
theorem hasX_tr {tr : TS} {mk : XM} {n : Nat} (I : IniK K main d) (hbody : d.body = .Expr (.Call (.Attribute (.Call (.Name "super" p0) [] [] p1) "__init__" apos) [e] [] pos) pos2 :: rest) (S : SupScope N ps d.scope) (h0 : N[0]? = some self) (hps : ps.length = n + 1) (hp : (d.params.posonlyargs ++ d.params.args).head? = some ar) (har : ar.arg = self) (hself : d.scope.names.lookup self = some .local)
    (hmain : ((P.main.file : Str) == main) = true) (htop : (P.main.scope.names.lookup ("super" : Str)).isSome = false) (hm : mg "super" = none)
    (hbind : ∀ (f : Addr) (fd : FuncData) (kV doc pm : Value) (an : Option Addr) (cda : Value) (ct : Value) (cc : Addr) (us : List Value), us.length = ps.length → bindArgs (PySem.W.ksFn "__init__" d.qual d.params d.body d.scope .none kV doc pm an cda ct cc) ⟨us, []⟩ = pure (ps.zip us))
    (he : ∀ (f cda cc : Addr) (A : Around) (outer : List Env) (s : Shared) (H : Hp) (E : XK), Room k (A.deeper (PySem.W.ksEnv d.qual d.scope s.heap.objs.size f (.ref cda) cc)) → PE (cxI P w K mg base N d.qual d.scope f (.ref cda) cc A outer s H E) e (tE K (He.ga K) JT WF ms))
    (hrest : ∀ (f cda cc : Addr) (A : Around) (outer : List Env) (s : Shared) (H : Hp) (E : XK), PSs (cxI P w K mg base N d.qual d.scope f (.ref cda) cc A outer s H E) rest tr)
    {pl : Sem Bool} (hev : ∀ f cda cc L : Addr, eval (.Call (.Attribute (.Call (.Name "super" p0) [] [] p1) "__init__" apos) [e] [] pos) (PySem.W.ksEnv d.qual d.scope L f (.ref cda) cc) = (do
      let ov ← attributeBase (.Call (.Name "super" p0) [] [] p1) "__init__" (PySem.W.ksEnv d.qual d.scope L f (.ref cda) cc) (eval (.Call (.Name "super" p0) [] [] p1) (PySem.W.ksEnv d.qual d.scope L f (.ref cda) cc))
      standAt apos.atName
      let (f1, first) ← holding [ov] (getMethod ov "__init__" pl)
      callWith pos f1 first (backTo pos (starEach [e] (PySem.W.ksEnv d.qual d.scope L f (.ref cda) cc))) []))
    (hst : ∀ f cda cc L : Addr, starEach [e] (PySem.W.ksEnv d.qual d.scope L f (.ref cda) cc) = [(false, eval e (PySem.W.ksEnv d.qual d.scope L f (.ref cda) cc))])
    (hsw : ∀ f cda cc L : Addr, swapsWith (.Call (.Attribute (.Call (.Name "super" p0) [] [] p1) "__init__" apos) [e] [] pos) none pos2.line (PySem.W.ksEnv d.qual d.scope L f (.ref cda) cc) = pure false)
    (hint : ∀ f cda cc L : Addr, interactive (PySem.W.ksEnv d.qual d.scope L f (.ref cda) cc) = false)
    (hsp : ∀ (S : Hp) (r : Rg) (O : Store) (H : Hp) (a : Addr) (ds : List D) (ws : List V) (fs : List (Str × D)) (O' : Store) (Qx : Option Addr → Hp → Prop) (E : XK), Rs K (He.ga K) S r O H → RpAll K S r ds ws → ds.length = n → H a = none → mk ds O = some (fs, O') → EndI K (He.ga K) S r O' fs Qx →
      spI N ps (He.ga K d.cls) (tE K (He.ga K) JT WF ms) tr (V.ref a :: ws) (upd H a (exo a (He.ga K d.cls) none)) (QI a (He.ga K d.cls) H Qx) E) :
    HasX P w K mg base (k + 1) d.cls n mk := by
  obtain ⟨oc, od, kV, doc, pm, an, cda, ct, cc, osl, lk, hcd, Z⟩ := I.lk
  refine ⟨I.T, I.iC, I.tI, _, ps, _, fnI_of (kV := kV) (doc := doc) (pm := pm) (ct := ct) (an := an) (main := main) (by rw [hbody] at lk; exact lk) hcd S Z I.T h0 (by omega) hp har hself hmain htop hm (fun A outer s H E hr => he _ cda cc A outer s H E hr) (fun A outer s H E hr => hrest _ cda cc A outer s H E) (fun L => hev _ cda cc L) (fun L => hst _ cda cc L) (fun L => hsw _ cda cc L) (fun L => hint _ cda cc L), ?_, hsp⟩
  exact .all fun us hl => by
    have := hbind (He.fAd K d.at_) (PySem.W.ksFn "__init__" d.qual d.params d.body d.scope .none kV doc pm an (.ref cda) ct cc) kV doc pm an (.ref cda) ct cc us hl
    rw [hbody] at this
    exact this
end
section
variable {K : PySem.W.Frag} {C : Addr} {N ps : List Str} {ms : EM} {n : Nat} {f1 f2 : Str} {j1 j2 : Nat}
theorem hsp_one (T : OexC K C) (hno : PySem.W.findIn K (.ref C) f1 = some none) (hps : ps.length = n + 1) (hN : ps.length ≤ N.length) : ∀ (S : Hp) (r : Rg) (O : Store) (H : Hp) (a : Addr) (ds : List D) (ws : List V) (fs : List (Str × D)) (O' : Store) (Qx : Option Addr → Hp → Prop) (E : XK), Rs K (He.ga K) S r O H → RpAll K S r ds ws → ds.length = n → H a = none → mkOne N ms f1 j1 ds O = some (fs, O') → EndI K (He.ga K) S r O' fs Qx →
    spI N ps C (tE K (He.ga K) JT WF ms) (tOst K f1 (tVar 0) (tVar j1)) (V.ref a :: ws) (upd H a (exo a C none)) (QI a C H Qx) E := fun S r O H a ds ws fs O' Qx E rs p hn ha hmk q => by
  unfold mkOne at hmk
  split at hmk
  · rename_i dm O2 d1 h1 h2
    cases hmk
    exact spI_one T hno rs p (by omega) hN ha h1 h2 q
  · cases hmk
end
theorem free_of {sc : Scope} (h : ∀ p ∈ sc.names, p.2 = .free → p.1 = ("__class__" : Str)) : ∀ y, sc.names.lookup y = some .free → y = "__class__" := fun y hy => h (y, .free) (PySem.mem_of_lookup hy) rfl
structure KnowsI (fa : List He.Fa) (fn : List He.DefD) (fx : List Fx) (main : Str) (ins : List IniD) (K : PySem.W.Frag) (mg : Str → Option Value) : Prop extends Knows fa fn fx K mg where
  i : ∀ d ∈ ins, IniK K main d
theorem xf_of {K : PySem.W.Frag} {C : Addr} (h : ExcC K C) : XfC K C := ⟨h.hg, h.hk, h.hs, h.hd⟩
end DK
end
section
set_option Elab.async false
set_option linter.all false
set_option autoImplicit false
set_option maxRecDepth 100000
set_option maxHeartbeats 4000000
/-! DKManyE: several except clauses, with and without a name, over errors with fields; by mirrors. -/
namespace DK
open PySem PySem.Spec PyProof.Rows L2
/-- a clause's class, its name's slot, its suite -/
structure Cls3 where
  c : Value
  oi : Option Nat
  ts : Addr → Value → Option Addr → TS
inductive HdAll (X : Cx) : List ExceptHandler → List Cls3 → Prop
  | nil : HdAll X [] []
  | cons {x : Str} {c : Value} {ts : Addr → Value → Option Addr → TS} {b₀ : Stmt} {suite : List Stmt} {np pos' : Pos} {hds : List ExceptHandler} {l : List Cls3} (hc : Names X x c)
      (hsu : ∀ (a : Addr) (oe : Obj) (cls : Value) (d : Option Addr) (pn : List (Addr × Obj)), Zc cls d oe → (∃ vs, oe.data = .fields vs) → PSs (X.suite a ((a, oe) :: pn)) (b₀ :: suite) (ts a cls d)) (r : HdAll X hds l) :
      HdAll X (.ExceptHandler (some (.Name x np)) none (b₀ :: suite) pos' :: hds) (⟨c, none, ts⟩ :: l)
  | named {x n : Str} {i : Nat} {c : Value} {ts : Addr → Value → Option Addr → TS} {b₀ : Stmt} {suite : List Stmt} {np pos' : Pos} {hds : List ExceptHandler} {l : List Cls3} (hc : Names X x c) (hN : X.N.Nodup) (hi : X.N[i]? = some n) (hln : X.env.kindOf n = some .local)
      (hsu : ∀ (a : Addr) (oe : Obj) (cls : Value) (d : Option Addr) (pn : List (Addr × Obj)), Zc cls d oe → (∃ vs, oe.data = .fields vs) → PSs (X.suite a ((a, oe) :: pn)) (b₀ :: suite) (ts a cls d)) (r : HdAll X hds l) :
      HdAll X (.ExceptHandler (some (.Name x np)) (some n) (b₀ :: suite) pos' :: hds) (⟨c, some i, ts⟩ :: l)
/-! ### mirrors -/
structure HdE where
  sub : Str → Option Bool
  oi : Option Nat
  ss : Exn → SM
section
variable {X : Cx} {ad : Str → Addr} {W : WX} {pos : Pos} {body : List Stmt} {sb : SM}
inductive HdsE (X : Cx) (ad : Str → Addr) : List ExceptHandler → List HdE → List Cls3 → Prop
  | nil : HdsE X ad [] [] []
  | cons {x : Str} {cv : Value} {sub : Str → Option Bool} {ss : Exn → SM} {b0 : Stmt} {suite : List Stmt} {np pos' : Pos} {hds : List ExceptHandler} {ms : List HdE} {l : List Cls3} (hc : Names X x cv)
      (hsub : ∀ nm b, sub nm = some b → PySem.W.exmOne X.K (.ref (ad nm)) cv = some b)
      (hsu : ∀ (y : Exn) (a : Addr) (od : Option Addr) (oe : Obj) (pn : List (Addr × Obj)), sub y.cls = some true → Zc (.ref (ad y.cls)) od oe → (∃ vs, oe.data = .fields vs) → PSs (X.suite a ((a, oe) :: pn)) (b0 :: suite) (tS X.K ad (Jn y od) WF (ss y)))
      (r : HdsE X ad hds ms l) : HdsE X ad (.ExceptHandler (some (.Name x np)) none (b0 :: suite) pos' :: hds) (⟨sub, none, ss⟩ :: ms)
        (⟨cv, none, fun a cls d En σ H => ∃ y : Exn, (cls = .ref (ad y.cls) ∧ sub y.cls = some true) ∧ tS X.K ad (Jn y d) WF (ss y) En σ H⟩ :: l)
  | named {x n : Str} {i : Nat} {cv : Value} {sub : Str → Option Bool} {ss : Exn → SM} {b0 : Stmt} {suite : List Stmt} {np pos' : Pos} {hds : List ExceptHandler} {ms : List HdE} {l : List Cls3} (hc : Names X x cv) (hN : X.N.Nodup) (hi : X.N[i]? = some n) (hln : X.env.kindOf n = some .local)
      (hsub : ∀ nm b, sub nm = some b → PySem.W.exmOne X.K (.ref (ad nm)) cv = some b)
      (hsu : ∀ (y : Exn) (a : Addr) (od : Option Addr) (oe : Obj) (pn : List (Addr × Obj)), sub y.cls = some true → Zc (.ref (ad y.cls)) od oe → (∃ vs, oe.data = .fields vs) → PSs (X.suite a ((a, oe) :: pn)) (b0 :: suite) (tS X.K ad (Jf i a y od) WF (ss y)))
      (r : HdsE X ad hds ms l) : HdsE X ad (.ExceptHandler (some (.Name x np)) (some n) (b0 :: suite) pos' :: hds) (⟨sub, some i, ss⟩ :: ms)
        (⟨cv, some i, fun a cls d En σ H => ∃ y : Exn, (cls = .ref (ad y.cls) ∧ sub y.cls = some true) ∧ tS X.K ad (Jf i a y d) WF (ss y) En σ H⟩ :: l)
theorem HdsE.ok {hds : List ExceptHandler} {ms : List HdE} {l : List Cls3} (k : HdsE X ad hds ms l) : HdAll X hds l := by
  induction k with
  | nil => exact .nil
  | cons hc hsub hsu r ih =>
    refine .cons hc (fun a oe cls d pn hz hfl => ?_) ih
    exact pss_ex fun y hp => by
      obtain ⟨rfl, h3⟩ := hp
      exact hsu y a d oe pn h3 hz hfl
  | named hc hN hi hln hsub hsu r ih =>
    refine .named hc hN hi hln (fun a oe cls d pn hz hfl => ?_) ih
    exact pss_ex fun y hp => by
      obtain ⟨rfl, h3⟩ := hp
      exact hsu y a d oe pn h3 hz hfl
end
end DK
end
section
set_option Elab.async false
set_option linter.all false
set_option autoImplicit false
set_option maxRecDepth 100000
set_option maxHeartbeats 1000000
/-! DKN: the rules of calls and defs, told with exceptions that have no context: printed by dkn.py. -/
namespace DK.N
open PySem L2 DK
section
variable {X : Cx} {ad : Str → Addr} {J : JP} {W : WX} {pos p apos : Pos} {o e : Expr} {es : List Expr} {mo : EM} {mt : AM} {c : Str}
theorem de_call {k n : Nat} {f : Addr} {fd : FuncData} {ps : List Str} {m : FM} {dvs : List V} {dds : List D} {ds : List Value} {x : Str} {p : Pos} (F : FnOk X.prog X.w X.K X.mg X.base (L2N.CX X.prog X.w) k f fd ps (spM X.K ad n m)) (hr : Room k X.A) (hg : Gl X x) (hm : X.mg x = some (.ref f)) (hk : PySem.W.keepIn X.K (.ref f) = true)
    (hb : Binds X.K fd ps ds) (hd : Vals dvs ds) (hdd : ∀ S r, RpAll X.K S r dds dvs) (tk : L2N.Takes X W) (ha : PA X (e :: es) (tA X.K ad J W mt)) (hdb : (x == ("__debug__" : Str)) = false := by decide)
    (he : starEach (e :: es) X.env = (false, eval e X.env) :: starEach es X.env := by rfl) (hpl : (backTo pos (starEach es X.env)).any (·.1) = false := by rfl) :
    PE X (.Call (.Name x p) (e :: es) [] pos) (tE X.K ad J W (mFn (arity n m) dds mt)) := by
  refine pe_imp (pe_callSD F hr hg hm hk hb hd (fun σ => L2N.passAt tk σ) ha hdb he hpl) ?_
  rintro σ H Q ⟨S, r, L, O, j, rl, rs, p⟩
  refine ⟨S, r, L, O, j, rl, rs, (Post.bind p).imp ?_⟩
  rintro xs H1 ⟨S1, r1, ds, O1, e1, s1, p1, q1⟩
  exact spM_ar s1 (p1.append (hdd S1 r1)) q1
end
section
variable {P : Program} {w : World} {K : PySem.W.Frag} {mg : Str → Option Value} {base : Heap} {ad : Str → Addr}
theorem fn_def {x qual : Str} {params : Arguments} {bd : List Stmt} {scope : Scope} {dvs : List V} {kws : List (Str × V)} {f : Addr} {fd : FuncData} {N ps : List Str} {k : Nat} {b : SM} (F : FunD K x qual params bd scope dvs kws f fd) (sc : FnScope N ps scope)
    (hb : ∀ (cdv : Value) (A : Around) (outer : List Env) (s : Shared) (H : Hp) (E : XK), Room k (A.deeper (PyProof.Rows.envOfC qual scope s.heap.objs.size f cdv)) →
      PSs (cxOf (L2N.CX P w) P w K mg base N qual scope f cdv A outer s H E) bd (tS K ad JT (fun c d _ H => E c d H) b)) :
    FnOk P w K mg base (L2N.CX P w) (k + 1) f fd ps (spM K ad ps.length (runF N.length b)) := by
  have hpl : ps.length ≤ N.length := by have := congrArg List.length sc.pre; rw [List.length_take] at this; omega
  refine F.ok sc (fun vs H Q E h => ?_) (fun cdv A outer s H vs Q E hr h => ?_)
  · obtain ⟨S, r, O, ds, hl, _, hp, _⟩ := h
    rw [hp.length, hl]
  · refine ⟨_, hb cdv A outer s H E hr, ?_⟩
    obtain ⟨S, r, O, ds, hl, rs, hp, p⟩ := h
    refine ⟨S, r, _, O, trivial, start_rl (by rw [hp.length, hl]; exact hpl) hp, rs, ?_⟩
    unfold runF at p
    generalize b (ds.map some ++ List.replicate (N.length - ds.length) none) O = z at p
    cases z with
    | next L O => exact fun S' r' σ H e _ _ q => p S' r' H .non e q rfl
    | ret d O => exact p
    | brk L O => exact p.elim
    | cnt L O => exact p.elim
    | exc x L O => exact fun S' r' σ H d e _ _ q g => p S' r' H d e q g
    | bad => exact p
end
section
variable {P : Program} {w : World} {K : PySem.W.Frag} {mg : Str → Option Value} {base : Heap} {d : He.DefD} {ps N : List Str} {fm : FM} {b : SM} {ad : Str → Addr}
def Has (P : Program) (w : World) (K : PySem.W.Frag) (mg : Str → Option Value) (base : Heap) (k : Nat) (d : He.DefD) (ps : List Str) (fm : FM) : Prop :=
  ∃ fd, FunD K d.name d.qual d.params d.body d.scope (d.dvs K) (d.kws K) (He.fAd K d.at_) fd ∧ FnOk P w K mg base (L2N.CX P w) k (He.fAd K d.at_) fd ps (spM K (He.ga K) ps.length fm)
theorem has_def {k : Nat} (c : ∃ fd, FunD K d.name d.qual d.params d.body d.scope (d.dvs K) (d.kws K) (He.fAd K d.at_) fd) (sc : FnScope N ps d.scope)
    (hb : ∀ (f : Addr) (cdv : Value) (A : Around) (outer : List Env) (s : Shared) (H : Hp) (E : XK), Room k (A.deeper (PyProof.Rows.envOfC d.qual d.scope s.heap.objs.size f cdv)) →
      PSs (cxOf (L2N.CX P w) P w K mg base N d.qual d.scope f cdv A outer s H E) d.body (tS K (He.ga K) JT (fun c d _ H => E c d H) b)) :
    Has P w K mg base (k + 1) d ps (runF N.length b) := by
  obtain ⟨fd, F⟩ := c
  exact ⟨fd, F, fn_def F sc fun cdv A outer s H E hr => hb _ cdv A outer s H E hr⟩
end
theorem tk_of {P : Program} {w : World} {K : PySem.W.Frag} {mg : Str → Option Value} {base : Heap} {N : List Str} {qual : Str} {scope : Scope} {f : Addr} {cdv : Value} {A : Around} {outer : List Env} {s : Shared} {H : Hp} {E : XK} : L2N.Takes (cxOf (L2N.CX P w) P w K mg base N qual scope f cdv A outer s H E) (fun c d _ H => E c d H) := L2N.takes_of rfl rfl rfl rfl
end DK.N
end
section
set_option Elab.async false
set_option linter.all false
set_option autoImplicit false
set_option maxRecDepth 100000
set_option maxHeartbeats 4000000
/-! DKHot: own errors made and raised (from None) in an except suite: printed by dkhot.py. -/
namespace DK
open PySem L2 L2H
section
variable {P : Program} {w : World} {K : PySem.W.Frag} {mg : Str → Option Value} {base : Heap}
def cxIH (P : Program) (w : World) (K : PySem.W.Frag) (mg : Str → Option Value) (base : Heap) (N : List Str) (qual : Str) (scope : Scope) (f : Addr) (cd : Value) (cc : Addr) (A : Around) (outer : List Env) (s : Shared) (H : Hp) (E : XK) (p : Addr × Obj) : Cx :=
  { cxI P w K mg base N qual scope f cd cc A outer s H E with calm := false, pn := [p] }
theorem inv_startIH {main : Str} {N ps : List Str} {qual : Str} {scope : Scope} {f C cc cda : Addr} {cd : Value} {A : Around} {outer : List Env} {s : Shared} {H : Hp} {E : XK} {us : List Value} {vs : List V} {h₀ : Heap} {tk : Nat}
    (S : SupScope N ps scope) (Z : SupK K main f C cc cda) {p : Addr × Obj} (hpin : PinOk outer H s p) (e0 : Env0 P w K mg base A outer s H) (hl : vs.length = ps.length) (r : Vals vs us)
    (hns : h₀.Ns s.heap.objs.size (fun x => (ps.zip us).reverse.lookup x)) (hk : ∀ b o, s.heap.get? b = some o → h₀.get? b = some o) :
    Inv (cxIH P w K mg base N qual scope f cd cc A outer s H E p) [] (L2.start N vs) H { s with heap := h₀, toks := tk } := by
  have hpl : ps.length ≤ N.length := by have := congrArg List.length S.pre; rw [List.length_take] at this; omega
  have noA : ∀ b : Addr, b ∉ (cxIH P w K mg base N qual scope f cd cc A outer s H E p).ex := fun b z => absurd (show b ∈ ([] : List Addr) from z) (by simp)
  have one : ∀ {x : Str} {c : Addr}, ([(("__class__" : Str), cc)] : List (Str × Addr)).lookup x = some c → x = "__class__" ∧ c = cc := fun {x c} h => by
    rw [List.lookup_cons] at h
    cases hb : x == ("__class__" : Str) with
    | true =>
      rw [hb] at h
      exact ⟨beq_iff_eq.mp hb, (Option.some.inj h).symm⟩
    | false =>
      rw [hb] at h
      cases h
  obtain ⟨cl, cld, csl, hcell⟩ := Z.cell
  have hcb := e0.mod.kin _ _ hcell
  refine ⟨⟨e0.mod, S.kind, rfl, rfl, Nat.le_refl _, fun y z c h1 h2 => (one h1).1.trans (one h2).1.symm, fun y hy => ?_, fun y c hf h => ?_, (fun z => Bool.noConfusion (show false = true from z)), Around.frames_deeper e0.frames, .inr ⟨rfl, rfl⟩, fun b z => absurd z (noA b), e0.bs, e0.bsz, fun b _ _ => noA b, fun b z => absurd z (noA b), e0.funs, e0.frf⟩,
    rfl, e0.bare, Un.kept hk, ⟨_, hns, fun i y v h1 h2 h3 => ?_⟩, fun y c h => ?_, e0.hok.fresh (Nat.le_refl _), fun y c h => ?_, fun q hq => ?_, e0.hok.kept hk, ?_⟩
  · rcases (show scope.names.lookup y = some .cell ∨ scope.names.lookup y = some .free from hy) with hy | hy
    · exact absurd rfl (S.nocell _ (PySem.mem_of_lookup hy))
    · rw [S.free y hy]
      exact ⟨cc, rfl⟩
  · rw [(one h).1] at hf
    cases hf
  · have hi : i < vs.length := by
      unfold L2.start at h2
      by_cases hi : i < vs.length
      · exact hi
      · rw [List.getElem?_append_right (by simpa using hi), List.getElem?_replicate] at h2
        split at h2 <;> cases h2
    have ha : vs[i]? = some v := by
      unfold L2.start at h2
      rw [List.getElem?_append_left (by simpa using hi), List.getElem?_map] at h2
      cases e : vs[i]? with
      | none => rw [e] at h2; cases h2
      | some a => rw [e] at h2; cases h2; rfl
    obtain ⟨u, hu, rv⟩ := r.get ha
    have hp : ps[i]? = some y := by
      rw [← S.pre, List.getElem?_take_of_lt (by omega)]; exact h1
    have ndP : ps.Nodup := by rw [← S.pre]; exact S.nd.sublist (List.take_sublist _ _)
    exact ⟨u, rv, .inl ⟨S.par y (List.mem_of_getElem? hp), lookup_rev ndP hp hu⟩⟩
  · obtain ⟨rfl, rfl⟩ := one h
    exact ⟨_, _, hk _ _ (e0.bs _ _ hcb).1, rfl⟩
  · obtain ⟨rfl, rfl⟩ := one h
    exact (e0.bs _ _ hcb).2
  · have eq : q = p := by simpa using (show q ∈ [p] ++ ([] : List (Addr × Obj)) from hq)
    rw [eq]
    exact ⟨hk p.1 p.2 hpin.get, hpin.free, Nat.ne_of_lt (Heap.lt_size hpin.get), hpin.nofs, hpin.nocell⟩
  · unfold L2.start
    show _ = N.length
    rw [List.length_append, List.length_map, List.length_replicate]
    omega
theorem fnIH_of {main : Str} {N ps : List Str} {name qual self : Str} {params : Arguments} {scope : Scope} {f C cc cda : Addr} {ar : Arg} {kV doc pm ct oc : Value} {an od : Option Addr} {osl : Array (Option Value)} {e : Expr} {rest : List Stmt} {te : TE} {tr : TS} {p0 p1 apos pos pos2 : Pos} {k : Nat}
    (lk : K.lookup f = some ⟨oc, od, .func (PySem.W.ksFn name qual params (.Expr (.Call (.Attribute (.Call (.Name "super" p0) [] [] p1) "__init__" apos) [e] [] pos) pos2 :: rest) scope .none kV doc pm an (.ref cda) ct cc), osl⟩) (hcd : PySem.W.codeIn K (.ref cda) qual = true)
    (S : SupScope N ps scope) (Z : SupK K main f C cc cda) (T : OexC K C) (h0 : N[0]? = some self) (hps : 0 < ps.length) (hp : (params.posonlyargs ++ params.args).head? = some ar) (har : ar.arg = self) (hself : scope.names.lookup self = some .local)
    (hmain : ((P.main.file : Str) == main) = true) (htop : (P.main.scope.names.lookup ("super" : Str)).isSome = false) (hm : mg "super" = none)
    (he : ∀ (A : Around) (outer : List Env) (s : Shared) (H : Hp) (E : XK) (p : Addr × Obj), RoomH k (A.deeper (PySem.W.ksEnv qual scope s.heap.objs.size f (.ref cda) cc)) → PE (cxIH P w K mg base N qual scope f (.ref cda) cc A outer s H E p) e te)
    (hrest : ∀ (A : Around) (outer : List Env) (s : Shared) (H : Hp) (E : XK) (p : Addr × Obj), RoomH k (A.deeper (PySem.W.ksEnv qual scope s.heap.objs.size f (.ref cda) cc)) → PSs (cxIH P w K mg base N qual scope f (.ref cda) cc A outer s H E p) rest tr)
    {pl : Sem Bool} (hev : ∀ L : Addr, eval (.Call (.Attribute (.Call (.Name "super" p0) [] [] p1) "__init__" apos) [e] [] pos) (PySem.W.ksEnv qual scope L f (.ref cda) cc) = (do
      let ov ← attributeBase (.Call (.Name "super" p0) [] [] p1) "__init__" (PySem.W.ksEnv qual scope L f (.ref cda) cc) (eval (.Call (.Name "super" p0) [] [] p1) (PySem.W.ksEnv qual scope L f (.ref cda) cc))
      standAt apos.atName
      let (f1, first) ← holding [ov] (getMethod ov "__init__" pl)
      callWith pos f1 first (backTo pos (starEach [e] (PySem.W.ksEnv qual scope L f (.ref cda) cc))) []))
    (hst : ∀ L : Addr, starEach [e] (PySem.W.ksEnv qual scope L f (.ref cda) cc) = [(false, eval e (PySem.W.ksEnv qual scope L f (.ref cda) cc))])
    (hsw : ∀ L : Addr, swapsWith (.Call (.Attribute (.Call (.Name "super" p0) [] [] p1) "__init__" apos) [e] [] pos) none pos2.line (PySem.W.ksEnv qual scope L f (.ref cda) cc) = pure false)
    (hint : ∀ L : Addr, interactive (PySem.W.ksEnv qual scope L f (.ref cda) cc) = false) :
    FnH P w K mg base (L2.CX P w) (k + 1) f (PySem.W.ksFn name qual params (.Expr (.Call (.Attribute (.Call (.Name "super" p0) [] [] p1) "__init__" apos) [e] [] pos) pos2 :: rest) scope .none kV doc pm an (.ref cda) ct cc) ps (spI N ps C te tr) := by
  refine ⟨fun vs H Q E h => h.1, fun A outer s H args us vs Q E p hr hot hpin e0 hb r hsp => ?_⟩
  obtain ⟨hl, a, ha0, ea, hq⟩ := hsp
  have KX : K.In s.heap := e0.mod.kin.keeps fun b o e => (e0.bs b o e).1
  have lim : s.heap.NoLimit := e0.mod.nolimit.keeps fun b o e => (e0.bs b o e).1
  have hrd := hr.deeper (PySem.W.ksEnv qual scope s.heap.objs.size f (.ref cda) cc)
  refine PySem.ks_codeAny_call_defAt hr.depth (KX _ _ lk) rfl lim (PySem.W.codeRec_of KX hcd) rfl hb S.nocell (fun y hy => S.par y.1 (List.of_mem_zip hy).1) (fun h₀ hns hk => ?_) S.co S.gen S.kind
  have I := inv_startIH (P := P) (w := w) (E := E) (qual := qual) (f := f) (cd := .ref cda) (tk := s.toks + (ps.zip us).length) S Z hpin e0 hl r hns hk
  have hs0 : (L2.start N vs)[0]? = some (some (.ref a)) := by
    unfold L2.start
    rw [List.getElem?_append_left (by rw [List.length_map, hl]; exact hps), List.getElem?_map, ha0]
    rfl
  have w1 := sup_stmt (X := cxIH P w K mg base N qual scope f (.ref cda) cc A outer s H E p) (p0 := p0) (p1 := p1) (apos := apos) (pos := pos) (pos2 := pos2) (body := .Expr (.Call (.Attribute (.Call (.Name "super" p0) [] [] p1) "__init__" apos) [e] [] pos) pos2 :: rest) rfl S Z T rfl h0 hself lk hp har hmain htop hm I hs0 ea (he A outer s H E p hrd) hq (hev _) (hst _) (hsw _) (hint _)
  refine PySem.ks_wpAt_execs_cons ?_
  refine PySem.ks_wpAt_mono w1 (fun fl s1 h1 => ?_) fun _ _ z => z
  obtain ⟨rfl, H2, I2, q2⟩ := h1
  refine wpAt_of_wpAny ?_
  refine wpAny_mono ((hrest A outer s H E p hrd).run [] s1 (L2.start N vs) H2 _ I2 q2) (fun fl s' hs => ?_) fun e s' hs => hs
  have fin : ∀ {σ' : L2.St} {H' : Hp} {v : V} {u : Value}, Inv (cxIH P w K mg base N qual scope f (.ref cda) cc A outer s H E p) [] σ' H' s' → RelV v u → Q v H' → CE outer P w H s Q u s' :=
    fun {σ' H' v u} J rv q => ⟨v, H', J.os, J.bare, J.base, J.hok, rv, q⟩
  cases fl with
  | ret u =>
    obtain ⟨v, σ', H', J, rv, q⟩ := hs
    exact fin J rv q
  | next =>
    obtain ⟨σ', H', J, q⟩ := hs
    exact fin (v := V.non) (u := Value.none) J rfl q
  | brk =>
    obtain ⟨_, _, _, q⟩ := hs
    exact q.elim
  | cont =>
    obtain ⟨_, _, _, q⟩ := hs
    exact q.elim
end
def HasXH (P : Program) (w : World) (K : PySem.W.Frag) (mg : Str → Option Value) (base : Heap) (k : Nat) (c : Str) (n : Nat) (mk : XM) : Prop :=
  OexC K (He.ga K c) ∧ PySem.W.findIn K (.ref (He.ga K c)) "__init__" = some (some (.ref (He.fAd K (c, some "__init__")))) ∧ PySem.W.typeIn K (.ref (He.fAd K (c, some "__init__"))) = some (.type "function") ∧
  ∃ fd ps sp, FnH P w K mg base (L2.CX P w) k (He.fAd K (c, some "__init__")) fd ps sp ∧ Binds K fd ps [] ∧ ∀ (S : Hp) (r : Rg) (O : Store) (H : Hp) (a : Addr) (ds : List D) (ws : List V) (fs : List (Str × D)) (O' : Store) (Qx : Option Addr → Hp → Prop) (E : XK), Rs K (He.ga K) S r O H → RpAll K S r ds ws → ds.length = n → H a = none → mk ds O = some (fs, O') →
    EndI K (He.ga K) S r O' fs Qx → sp (V.ref a :: ws) (upd H a (exo a (He.ga K c) none)) (QI a (He.ga K c) H Qx) E
section
variable {P : Program} {w : World} {K : PySem.W.Frag} {mg : Str → Option Value} {base : Heap} {main : Str} {d : IniD} {N ps : List Str} {self : Str} {ar : Arg} {e : Expr} {rest : List Stmt} {ms : EM} {p0 p1 apos pos pos2 : Pos} {k : Nat}
theorem hasXH_tr {tr : TS} {mk : XM} {n : Nat} (I : IniK K main d) (hbody : d.body = .Expr (.Call (.Attribute (.Call (.Name "super" p0) [] [] p1) "__init__" apos) [e] [] pos) pos2 :: rest) (S : SupScope N ps d.scope) (h0 : N[0]? = some self) (hps : ps.length = n + 1) (hp : (d.params.posonlyargs ++ d.params.args).head? = some ar) (har : ar.arg = self) (hself : d.scope.names.lookup self = some .local)
    (hmain : ((P.main.file : Str) == main) = true) (htop : (P.main.scope.names.lookup ("super" : Str)).isSome = false) (hm : mg "super" = none)
    (hbind : ∀ (f : Addr) (fd : FuncData) (kV doc pm : Value) (an : Option Addr) (cda : Value) (ct : Value) (cc : Addr) (us : List Value), us.length = ps.length → bindArgs (PySem.W.ksFn "__init__" d.qual d.params d.body d.scope .none kV doc pm an cda ct cc) ⟨us, []⟩ = pure (ps.zip us))
    (he : ∀ (f cda cc : Addr) (A : Around) (outer : List Env) (s : Shared) (H : Hp) (E : XK) (p : Addr × Obj), RoomH k (A.deeper (PySem.W.ksEnv d.qual d.scope s.heap.objs.size f (.ref cda) cc)) → PE (cxIH P w K mg base N d.qual d.scope f (.ref cda) cc A outer s H E p) e (tE K (He.ga K) JT WF ms))
    (hrest : ∀ (f cda cc : Addr) (A : Around) (outer : List Env) (s : Shared) (H : Hp) (E : XK) (p : Addr × Obj), PSs (cxIH P w K mg base N d.qual d.scope f (.ref cda) cc A outer s H E p) rest tr)
    {pl : Sem Bool} (hev : ∀ f cda cc L : Addr, eval (.Call (.Attribute (.Call (.Name "super" p0) [] [] p1) "__init__" apos) [e] [] pos) (PySem.W.ksEnv d.qual d.scope L f (.ref cda) cc) = (do
      let ov ← attributeBase (.Call (.Name "super" p0) [] [] p1) "__init__" (PySem.W.ksEnv d.qual d.scope L f (.ref cda) cc) (eval (.Call (.Name "super" p0) [] [] p1) (PySem.W.ksEnv d.qual d.scope L f (.ref cda) cc))
      standAt apos.atName
      let (f1, first) ← holding [ov] (getMethod ov "__init__" pl)
      callWith pos f1 first (backTo pos (starEach [e] (PySem.W.ksEnv d.qual d.scope L f (.ref cda) cc))) []))
    (hst : ∀ f cda cc L : Addr, starEach [e] (PySem.W.ksEnv d.qual d.scope L f (.ref cda) cc) = [(false, eval e (PySem.W.ksEnv d.qual d.scope L f (.ref cda) cc))])
    (hsw : ∀ f cda cc L : Addr, swapsWith (.Call (.Attribute (.Call (.Name "super" p0) [] [] p1) "__init__" apos) [e] [] pos) none pos2.line (PySem.W.ksEnv d.qual d.scope L f (.ref cda) cc) = pure false)
    (hint : ∀ f cda cc L : Addr, interactive (PySem.W.ksEnv d.qual d.scope L f (.ref cda) cc) = false)
    (hsp : ∀ (S : Hp) (r : Rg) (O : Store) (H : Hp) (a : Addr) (ds : List D) (ws : List V) (fs : List (Str × D)) (O' : Store) (Qx : Option Addr → Hp → Prop) (E : XK), Rs K (He.ga K) S r O H → RpAll K S r ds ws → ds.length = n → H a = none → mk ds O = some (fs, O') → EndI K (He.ga K) S r O' fs Qx →
      spI N ps (He.ga K d.cls) (tE K (He.ga K) JT WF ms) tr (V.ref a :: ws) (upd H a (exo a (He.ga K d.cls) none)) (QI a (He.ga K d.cls) H Qx) E) :
    HasXH P w K mg base (k + 1) d.cls n mk := by
  obtain ⟨oc, od, kV, doc, pm, an, cda, ct, cc, osl, lk, hcd, Z⟩ := I.lk
  refine ⟨I.T, I.iC, I.tI, _, ps, _, fnIH_of (kV := kV) (doc := doc) (pm := pm) (ct := ct) (an := an) (main := main) (by rw [hbody] at lk; exact lk) hcd S Z I.T h0 (by omega) hp har hself hmain htop hm (fun A outer s H E p hr => he _ cda cc A outer s H E p hr) (fun A outer s H E p hr => hrest _ cda cc A outer s H E p) (fun L => hev _ cda cc L) (fun L => hst _ cda cc L) (fun L => hsw _ cda cc L) (fun L => hint _ cda cc L), ?_, hsp⟩
  exact .all fun us hl => by
    have := hbind (He.fAd K d.at_) (PySem.W.ksFn "__init__" d.qual d.params d.body d.scope .none kV doc pm an (.ref cda) ct cc) kV doc pm an (.ref cda) ct cc us hl
    rw [hbody] at this
    exact this
end
theorem ds_raiseXH {X : Cx} {J : JP} {W : WX} {k n : Nat} {c x : Str} {mk : XM} {p p2 pos : Pos} {e : Expr} {es : List Expr} {mt : AM} {jn : Nat} {cpos : Pos} (hc : HotC X) (tk : L2.Takes X W) (F : HasXH X.prog X.w X.K X.mg X.base k c n mk) (hr : RoomH (k + 1) X.A) (hg : Gl X x) (hm : X.mg x = some (.ref (He.ga X.K c))) (ha : PA X (e :: es) (tA X.K (He.ga X.K) J W mt))
    (hdb : (x == ("__debug__" : Str)) = false := by decide) (he : starEach (e :: es) X.env = (false, eval e X.env) :: starEach es X.env := by rfl) (hpl : (backTo p2 (starEach es X.env)).any (·.1) = false := by rfl) :
    PS X (.Raise (some (.Call (.Name x p) (e :: es) [] p2)) (some (.Constant .none jn cpos)) pos) (tS X.K (He.ga X.K) J W (sRaiseX c n mk mt)) := by
  obtain ⟨T, iC, tI, fd, ps, sp, F1, hb, hsp⟩ := F
  have hx : Passes (L2.CX X.prog X.w) X (fun _ _ _ => False) := fun pins σ H s e s' I c => by
    obtain ⟨_, _, _, _, _, _, _, _, _, _, _, _, z⟩ := c
    exact z.elim
  refine ps_imp (ps_raiseHN hc tk (pmk5_oexH T iC tI F1 hr hc hb hx hg hm ha hdb he hpl)) ?_
  rintro En σ H ⟨S, r, L, O, j, rl, rs, z⟩
  refine ⟨S, r, L, O, j, rl, rs, (bindS j rl z).imp ?_⟩
  rintro vs H1 ⟨S1, r1, ds, O1, e1, q1, p1, k1⟩
  split at k1
  · rename_i hn
    split at k1
    · rename_i fp hmk
      refine ⟨by rw [p1.length, hn.1]; exact hn.2, fun a ha => ?_⟩
      rw [List.append_nil]
      refine hsp S1 r1 O1 H1 a ds vs fp.1 fp.2 (fun d H' => W (.ref (He.ga X.K c)) d σ H') _ q1 p1 hn.1 ha hmk ⟨fun S2 r2 H4 dd gs e2 q2 hdd pg => ?_⟩
      exact k1 S2 r2 σ H4 (some dd) e2 (J.mono (e1.trans e2).s j) (rl.mono (e1.trans e2)) q2 ⟨dd, gs, rfl, hdd, pg⟩
    · exact k1.elim
  · exact k1.elim
end DK
end
section
set_option Elab.async false
set_option linter.all false
set_option autoImplicit false
set_option maxRecDepth 100000
set_option maxHeartbeats 4000000
/-! DKHotA: `except x as n:` whose suite raises out of the try. -/
namespace DK
open PySem PySem.Spec PyProof.Rows L2 L2H HotX
end DK
end
section
set_option Elab.async false
set_option linter.all false
set_option autoImplicit false
set_option maxRecDepth 100000
set_option maxHeartbeats 4000000
/-! DKHotB: the rule for `except x as n:` with a suite that may raise out of the try. -/
namespace DK
open PySem PySem.Spec PyProof.Rows L2 L2H HotX
end DK
end
section
set_option Elab.async false
set_option linter.all false
set_option autoImplicit false
set_option maxRecDepth 100000
set_option maxHeartbeats 4000000
/-! DKHotC: `except x as n:` with a suite that may raise, by mirrors. -/
namespace DK
open PySem L2
end DK
end
section
set_option Elab.async false
set_option linter.all false
set_option autoImplicit false
set_option maxRecDepth 100000
set_option maxHeartbeats 4000000
/-! DKNw: what is told of a def whose exceptions have no context holds of it as well where that is not asked. -/
namespace DK
open PySem L2
theorem cx_weak {P : Program} {w : World} {outer : List Env} {H : Hp} {s s' : Shared} {E : XK} {u : Value} (h : L2N.CX P w outer H s E u s') : L2.CX P w outer H s E u s' := by
  obtain ⟨a, B, H', cls, d, e, fl, r⟩ := h
  exact ⟨a, B, H', cls, d, e, L2H.flyingZ_imp (fun o z => z.zc) fl, r⟩
theorem fnOk_weak {P : Program} {w : World} {K : PySem.W.Frag} {mg : Str → Option Value} {base : Heap} {k : Nat} {f : Addr} {fd : FuncData} {ps : List Str} {sp : Sp} (F : FnOk P w K mg base (L2N.CX P w) k f fd ps sp) : FnOk P w K mg base (L2.CX P w) k f fd ps sp :=
  ⟨F.len, fun A outer s H args us vs Q E hr e0 hb r h => codeAny_mono (F.run A outer s H args us vs Q E hr e0 hb r h) fun q s' hq => by
    cases q with
    | error e => exact cx_weak hq
    | ok fl =>
      cases fl with
      | ret u => exact hq
      | next => exact hq.elim
      | brk => exact hq.elim
      | cont => exact hq.elim⟩
theorem has_weak {P : Program} {w : World} {K : PySem.W.Frag} {mg : Str → Option Value} {base : Heap} {k : Nat} {d : He.DefD} {ps : List Str} {fm : FM} (h : N.Has P w K mg base k d ps fm) : Has P w K mg base k d ps fm := by
  obtain ⟨fd, F, O⟩ := h
  exact ⟨fd, F, fnOk_weak O⟩
end DK
end
section
set_option Elab.async false
set_option linter.all false
set_option autoImplicit false
set_option maxRecDepth 100000
set_option maxHeartbeats 4000000
/-! DKNx: raise and try, told with exceptions that have no context: printed by dknx.py. -/
namespace DK.N
open PySem PySem.Spec PyProof.Rows L2 DK HotX
section
variable {X : Cx}
/-- an own error without own __init__, made where nothing is handled -/
theorem mk_ownA {C : Addr} {bmB : List Value} {B newId initId : String} {x : Str} {p pos : Pos} {e : Expr} {es : List Expr} {t : TA} (F : ExcBaseFacts B newId initId bmB) (q : PySem.W.excIn X.K C bmB newId = true) (gC : X.mg x = some (.ref C))
    (kC : PySem.W.keepIn X.K (.ref C) = true) (r : Raises X (.ref C)) (hg : Gl X x) (ha : PA X (e :: es) t) (hdb : (x == ("__debug__" : Str)) = false := by decide)
    (he : starEach (e :: es) X.env = (false, eval e X.env) :: starEach es X.env := by rfl) (hpl : (backTo pos (starEach es X.env)).any (·.1) = false := by rfl) :
    L2N.PMk X (.Call (.Name x p) (e :: es) [] pos) (fun σ H Q => t σ H fun vs H1 => vs.length ≤ sizeLine ∧ Q (.ref C) none H1) := fun pins s σ H Q I h => by
  refine wpAny_Call_Name_kw (ld_glob I hg gC (PySem.W.callWith_K (h₀ := X.base) I.ok.mod.kin kC (thn (ha.run pos pins s σ H _ I h) fun us s1 ⟨vs, H1, I1, r1, hz, q1⟩ => ⟨I1.kIn, ?_⟩) he hpl) hdb)
  show wpAny _ _ (call (.ref C) us) _ _ _
  obtain ⟨bm, N, nm, qn, bs, hdct, sn, sub, ab, col, dd, k0, k1, k2, k3, k5, mN, hC, hN, hni, T⟩ := exc_obj I1.kIn q
  exact wpAny_call_exc_subT F T hC hN hni (fun h' e hm => L2N.mk_of I1 hm r q1 (I1.hok.gone hm.new)) (by rw [← Paired.length r1]; exact hz)
end
section
variable {X : Cx} {ad : Str → Addr} {J : JP} {W : WX} {pos pos' p p2 np : Pos} {e : Expr} {es : List Expr} {mt : AM} {c : Str} {body suite : List Stmt} {b0 : Stmt} {sb : SM} {ss : Str → SM}
theorem ds_raise {x : Str} {bmB : List Value} {B newId initId : String} (hc : X.calm = true) (tk : L2N.Takes X W) (F : ExcBaseFacts B newId initId bmB) (q : PySem.W.excIn X.K (ad c) bmB newId = true) (gC : X.mg x = some (.ref (ad c))) (kC : PySem.W.keepIn X.K (.ref (ad c)) = true) (r : Raises X (.ref (ad c))) (hg : Gl X x)
    (ha : PA X (e :: es) (tA X.K ad J W mt)) (hdb : (x == ("__debug__" : Str)) = false := by decide) (he : starEach (e :: es) X.env = (false, eval e X.env) :: starEach es X.env := by rfl) (hpl : (backTo p2 (starEach es X.env)).any (·.1) = false := by rfl) :
    PS X (.Raise (some (.Call (.Name x p) (e :: es) [] p2)) none pos) (tS X.K ad J W (sRaise c mt)) := by
  refine ps_imp (L2N.ps_raise hc tk (mk_ownA F q gC kC r hg ha hdb he hpl)) ?_
  rintro En σ H ⟨S, r, L, O, j, rl, rs, z⟩
  refine ⟨S, r, L, O, j, rl, rs, (bindS j rl z).imp ?_⟩
  rintro vs H1 ⟨S1, r1, ds, O1, e1, s1, p1, q1⟩
  replace q1 : PostS X.K ad J W S1 r1 En (if ds.length ≤ 1000 then .exc ⟨c, none⟩ L O1 else .bad) := q1
  split at q1
  · rename_i hl
    exact ⟨by rw [p1.length]; exact million (by omega), q1 S1 r1 σ H1 none (Ext.refl _ _) (J.mono e1.s j) (rl.mono e1) s1 rfl⟩
  · exact q1.elim
end
end DK.N
end
section
set_option Elab.async false
set_option linter.all false
set_option autoImplicit false
set_option maxRecDepth 100000
set_option maxHeartbeats 4000000
/-! DKHotD: printed by dkhotd.py. -/
namespace DK
open PySem L2
end DK
end
section
set_option Elab.async false
set_option linter.all false
set_option autoImplicit false
set_option maxRecDepth 100000
set_option maxHeartbeats 4000000
/-! DKHotE: `except x:` with a suite that may raise, by mirrors. -/
namespace DK
open PySem L2
def sTryEN (subc : Str → Option Bool) (b : SM) (suite : Exn → SM) : SM := fun L O => match b L O with
  | .next L1 O1 => .next L1 O1
  | .ret d O1 => .ret d O1
  | .brk L1 O1 => .brk L1 O1
  | .cnt L1 O1 => .cnt L1 O1
  | .exc x L1 O1 => match subc x.cls with
    | some true => if okX x = true then suite x L1 O1 else .bad
    | some false => .exc x L1 O1
    | none => .bad
  | .bad => .bad
section
variable {X : Cx} {ad : Str → Addr} {W : WX} {pos pos' p p2 np : Pos} {e : Expr} {es : List Expr} {mt : AM} {c : Str} {body suite : List Stmt} {b0 : Stmt} {sb : SM} {ss : Exn → SM}
theorem ds_tryEN {x : Str} {cv : Value} {subc : Str → Option Bool} (hs : X.stack = X.env :: X.outer) (hf : X.env.frame = some X.env.locals) (hc : Names X x cv)
    (hpa : ∀ hd : Option Value, PassesOwnAt (model X.prog X.w) (X.A.mark hd) X.A X.env X.xe) (tk : L2.Takes X W)
    (hsub : ∀ nm b, subc nm = some b → PySem.W.exmOne X.K (.ref (ad nm)) cv = some b)
    (hb : ∀ (W : WX) (pn : List (Addr × Obj)) (xe : Value → Shared → Prop), L2N.Takes (X.tr pn xe) W → PassesOwn (model X.prog X.w) X.A X.env xe → PSs (X.tr pn xe) body (tS X.K ad JT W sb))
    (hsu : ∀ (y : Exn) (a : Addr) (od : Option Addr) (oe : Obj) (pn : List (Addr × Obj)), subc y.cls = some true → Zc (.ref (ad y.cls)) od oe → (∃ vs, oe.data = .fields vs) → L2.Takes (L2H.suiteX X a ((a, oe) :: pn)) W → L2H.HotC (L2H.suiteX X a ((a, oe) :: pn)) →
      PSs (L2H.suiteX X a ((a, oe) :: pn)) (b0 :: suite) (tS X.K ad (Jn y od) W (ss y))) :
    PS X (.Try body [.ExceptHandler (some (.Name x np)) none (b0 :: suite) pos'] [] [] pos) (tS X.K ad JT W (sTryEN subc sb ss)) := by
  refine ps_imp (L2H.ps_try_onlyX (tb := fun W => tS X.K ad JT W sb) (ts := fun a cls d En σ H => ∃ y : Exn, (cls = .ref (ad y.cls) ∧ subc y.cls = some true) ∧ tS X.K ad (Jn y d) W (ss y) En σ H) hs hf hc hpa tk (fun W pn xe t1 _ t3 => hb W pn xe t1 t3) ?_) ?_
  · intro a oe cls d pn hz hfl t h
    exact pss_ex fun y hp => by
      obtain ⟨rfl, h3⟩ := hp
      exact hsu y a d oe pn h3 hz.zc hfl t h
  rintro En σ H ⟨S, r, L, O, j, rl, rs, z⟩
  refine ⟨S, r, L, O, j, rl, rs, ?_⟩
  unfold sTryEN at z
  generalize sb L O = q at z
  cases q with
  | next L O => exact z
  | ret L O => exact z
  | brk L O => exact z
  | cnt L O => exact z
  | bad => exact z.elim
  | exc y L1 O1 =>
    intro S1 r1 σ1 H1 d e1 j1 l1 s1 hd
    cases hsc : subc y.cls with
    | none => simp only [hsc] at z; exact z.elim
    | some b =>
      simp only [hsc] at z
      refine ⟨b, hsub _ b hsc, fun hbt a ha => ?_, fun hbf => ?_⟩
      · subst hbt
        simp only at z
        split at z
        · rename_i ho
          refine ⟨y, ⟨rfl, hsc⟩, S1, r1, L1, O1, xfR_of hd ho, l1, s1, ?_⟩
          generalize ss y L1 O1 = q at z
          cases q with
          | next L2 O2 => exact fun S2 r2 σ2 H2 e2 j2 l2 s2 => z S2 r2 _ H2 (e1.trans e2) trivial l2 s2
          | ret d O2 => exact fun S2 r2 H2 v e2 s2 p2 => z S2 r2 H2 v (e1.trans e2) s2 p2
          | brk L2 O2 => exact fun S2 r2 σ2 H2 e2 j2 l2 s2 => z S2 r2 _ H2 (e1.trans e2) trivial l2 s2
          | cnt L2 O2 => exact fun S2 r2 σ2 H2 e2 j2 l2 s2 => z S2 r2 _ H2 (e1.trans e2) trivial l2 s2
          | exc x L2 O2 => exact fun S2 r2 σ2 H2 d2 e2 j2 l2 s2 x2 => z S2 r2 _ H2 d2 (e1.trans e2) trivial l2 s2 x2
          | bad => exact z.elim
        · exact z.elim
      · subst hbf
        exact z S1 r1 σ1 H1 d e1 j1 l1 s1 hd
end
end DK
end
section
set_option Elab.async false
set_option linter.all false
set_option autoImplicit false
set_option maxRecDepth 100000
set_option maxHeartbeats 4000000
/-! DKRepl: text.replace(y, z) of two written texts, where a token is out already; by mirrors. -/
namespace DK
open PySem PySem.Spec PyProof.Rows L2
theorem pet_imp {X : Cx} {e : Expr} {t t' : TE} (h : PET X e t) (k : ∀ σ H Q, t' σ H Q → t σ H Q) : PET X e t' := fun pins s σ H Q h0 I q => h pins s σ H Q h0 I (k σ H Q q)
theorem psst_imp {X : Cx} {e : List Stmt} {t t' : TS} (h : PSsT X e t) (k : ∀ En σ H, t' En σ H → t En σ H) : PSsT X e t' := fun pins s σ H En h0 I q => h pins s σ H En h0 I (k En σ H q)
theorem pst_imp {X : Cx} {e : Stmt} {t t' : TS} (h : PST X e t) (k : ∀ En σ H, t' En σ H → t En σ H) : PST X e t' := fun pins s σ H En h0 I q => h pins s σ H En h0 I (k En σ H q)
/-! ### by mirrors -/
def mRepl (y z : Str) (m : EM) : EM := fun L O => (m L O).bind fun d O1 => match d with
  | .str x => if x.length + (x.length + 1) * z.length ≤ 16777216 then .ok (.str (Txt.replace x y z)) O1 else .bad
  | _ => .bad
section
variable {X : Cx} {ad : Str → Addr} {J : JP} {W : WX} {pos apos cpos p p' : Pos} {a c e o : Expr} {es : List Expr} {ma mo : EM} {mt : AM} {ta tm : TM} {s1 s2 s3 : SM} {body els rest : List Stmt} {st : Stmt} {y z : Str} {j k : Nat} {c0 c1 : Pos}
theorem det_repl (ho : PE X o (tE X.K ad J W mo)) (hyz : (y == z) = false := by decide)
    (hst : starEach [.Constant (.str y) j c0, .Constant (.str z) k c1] X.env = [(false, eval (.Constant (.str y) j c0) X.env), (false, eval (.Constant (.str z) k c1) X.env)] := by rfl)
    (hbase : attributeBase o "replace" X.env (eval o X.env) = eval o X.env := by rfl) (hline : (apos.endLine == pos.line) = true := by rfl) :
    PET X (.Call (.Attribute o "replace" apos) [.Constant (.str y) j c0, .Constant (.str z) k c1] [] pos) (tE X.K ad J W (mRepl y z mo)) := by
  refine pet_imp (CwR.pet_replC ho hyz hst hbase hline) ?_
  rintro σ H Q ⟨S, r, L, O, jj, rl, rs, q⟩
  refine ⟨S, r, L, O, jj, rl, rs, (Post.bind q).imp ?_⟩
  rintro v H1 ⟨S1, r1, d, O1, e1, s1, p1, q1⟩
  cases d with
  | str x =>
    by_cases hl : x.length + (x.length + 1) * z.length ≤ 16777216
    · simp only [if_pos hl] at q1
      exact ⟨x, p1, hl, q1 S1 r1 H1 _ (Ext.refl _ _) s1 rfl⟩
    · simp only [if_neg hl] at q1
      exact q1.elim
  | hdl n => exact q1.elim
  | lst n => exact q1.elim
  | rol n => exact q1.elim
  | tup n => exact q1.elim
  | non => exact q1.elim
  | bl b => exact q1.elim
  | int i => exact q1.elim
theorem if_imp {σ : L2.St} {H : Hp} {En : Ends} (h : tS X.K ad J W (sIf tm s1 s2) En σ H) : tIfS (tT X.K ad J W tm) (tS X.K ad J W s1) (tS X.K ad J W s2) En σ H := by
  obtain ⟨S, r, L, O, j, rl, rs, p⟩ := h
  refine ⟨S, r, L, O, j, rl, rs, (bindS j rl p).imp ?_⟩
  rintro k H1 ⟨S1, r1, d, O1, e1, q1, rfl, k1⟩
  cases k with
  | true =>
    rw [if_pos rfl] at k1 ⊢
    exact ⟨S1, r1, L, O1, J.mono e1.s j, rl.mono e1, q1, k1⟩
  | false =>
    rw [if_neg Bool.false_ne_true] at k1 ⊢
    exact ⟨S1, r1, L, O1, J.mono e1.s j, rl.mono e1, q1, k1⟩
theorem dsst_one (h : PST X st (tS X.K ad J W s1)) : PSsT X [st] (tS X.K ad J W s1) := CwR.psst_one h
end
/-! ### behind a written text that a test hands over, a token is out -/
end DK
end
section
set_option Elab.async false
set_option linter.all false
set_option autoImplicit false
set_option maxRecDepth 100000
set_option maxHeartbeats 4000000
/-! DKReplL: behind a written list of texts a token is out; statements where a token is out. -/
namespace DK
open PySem PySem.Spec PyProof.Rows L2 CwR
section
variable {X : Cx} {ad : Str → Addr} {J : JP} {W : WX} {pos pos' p2 c0 : Pos} {c e : Expr} {es : List Expr} {m : EM} {mt : AM} {tm : TM} {s1 s2 s3 : SM} {body els rest : List Stmt} {st : Stmt} {y : Str} {j : Nat} {ta : TA}
theorem lst_toks (hr : PA X es ta) (hs : starEach (.Constant (.str y) j c0 :: es) X.env = (false, eval (.Constant (.str y) j c0) X.env) :: starEach es X.env)
    (pins : List (Addr × Obj)) (s : Shared) (σ : L2.St) (H : Hp) (Q : VK) (I : Inv X pins σ H s) (h : tLst (tCons (tC (.str y)) ta) σ H Q) :
    wpAny (model X.prog X.w) X.A (eval (.List (.Constant (.str y) j c0 :: es) pos) X.env) (fun v s' => 1 ≤ s'.toks ∧ EP X pins σ Q v s') X.xe s := by
  refine wpAny_List_spliced ?_
  rw [hs]
  show wpAny _ _ (spliced ((false, eval (.Constant (.str y) j c0) X.env) :: backTo pos (starEach es X.env))) _ _ s
  refine Calls.spliced_cons (Calls.Constant_str ?_)
  refine wpAny_mono (PySem.wpAny_toks (hr.run pos pins { s with toks := s.toks + 1 } σ H _ (I.tok _) h)) (fun us s2 q => ?_) fun _ _ z => z.2
  obtain ⟨hk, xs, H1, I1, r, z, q⟩ := q
  have hk : s.toks + 1 ≤ s2.toks := hk
  have r' : Vals (V.str y :: xs) (Value.str y s.toks :: us) := Paired.cons ⟨_, rfl⟩ r
  refine ⟨by rw [← r'.length]; exact z, by show 1 ≤ s2.toks; omega, ?_⟩
  have hf : H1 s2.heap.objs.size = none := I1.hok.fresh (Nat.le_refl _)
  refine ⟨.ref s2.heap.objs.size, upd H1 s2.heap.objs.size (.lst (V.str y :: xs)), I1.laid (t' := s2.toks) (fun b u e => Heap.get?_push_of_some _ e) (Nat.le_refl _) ?_, rfl, q _ hf⟩
  exact ⟨z, Value.str y s.toks :: us, 0, r', Heap.get?_push_size _ rfl⟩
/-- x = ['..', ..]: behind it, what wants a token -/
theorem dss_lstT {i : Nat} {x : Str} {hm : Bool} (hN : X.N.Nodup) (hi : X.N[i]? = some x) (hx : L2.Loc X.env.scope x) (he : PA X es (tA X.K ad J W mt)) (hr : PSsT X rest (tS X.K ad J W s3)) (hJ : ∀ (σ : L2.St) (v : Option V) (S : Hp), J.p σ S → J.p (σ.set i v) S := by intro _ _ _ _; trivial)
    (hs : starEach (.Constant (.str y) j c0 :: es) X.env = (false, eval (.Constant (.str y) j c0) X.env) :: starEach es X.env := by rfl)
    (hsw : swapsWith (.List (.Constant (.str y) j c0 :: es) p2) (some (.Name x pos')) pos.line X.env = pure false := by rfl) (hf : X.fn x = true ∨ X.env.scope.names.lookup x = some .local := by first | exact .inl rfl | exact .inr rfl | assumption) :
    PSs X (.Assign [.Name x pos'] (.List (.Constant (.str y) j c0 :: es) p2) pos :: rest) (tS X.K ad J W (sSeq (sAsg (mLst hm (mCons (mC (.str y)) mt)) (bName i)) s3)) := by
  have raw : PSs X (.Assign [.Name x pos'] (.List (.Constant (.str y) j c0 :: es) p2) pos :: rest) (tSeq (tAsg (tLst (tCons (tC (.str y)) (tA X.K ad J W mt))) (gName i)) (tS X.K ad J W s3)) := by
    refine ⟨fun pins s σ H D I h => ?_⟩
    refine wpAny_execs_cons (wpAny_Assign_Name (wpAny_mono (lst_toks he hs pins s σ H (fun v H1 => tS X.K ad J W s3 D (σ.set i (some v)) H1) I h) (fun v s1 q => ?_) fun _ _ z => z) hsw)
    obtain ⟨hk, z, H1, I1, r1, q1⟩ := q
    refine wpAny_mono (PySem.wpAny_toks (store_ok (Q := fun _ s2 => Inv X pins (σ.set i (some z)) H1 s2) I1 hN hi hx r1 (fun _ I2 => I2) hf)) (fun _ s2 q => ?_) fun _ _ z => z.2
    exact hr pins s2 _ H1 D (Nat.le_trans hk q.1) q.2 q1
  refine pss_imp raw ?_
  rintro En σ H ⟨S, r, L, O, jj, rl, rs, p⟩
  have key : tS X.K ad J W (sAsg (mLst hm (mCons (mC (.str y)) mt)) (bName i)) { En with nx := tS X.K ad J W s3 En } σ H := by
    refine ⟨S, r, L, O, jj, rl, rs, ?_⟩
    unfold sSeq at p
    generalize (sAsg (mLst hm (mCons (mC (.str y)) mt)) (bName i)) L O = z at p
    cases z with
    | next L1 O1 => exact fun S1 r1 σ1 H1 e1 j1 l1 q1 => ⟨S1, r1, L1, O1, j1, l1, q1, PostS.mono e1 p⟩
    | ret d O1 => exact p
    | exc x L1 O1 => exact p
    | brk L1 O1 => exact p
    | cnt L1 O1 => exact p
    | bad => exact p
  have k2 := asg_imp (t := gName i) (fun v σ H Q ⟨S, r, L, O, d, jj, rl, rs, rp, p⟩ => p S r _ H (Ext.refl _ _) (hJ _ _ _ jj) (rl.set i rp) rs) _ _ _ key
  obtain ⟨S, r, L, O, jj, rl, rs, p⟩ := (show tE X.K ad J W (mLst hm (mCons (mC (.str y)) mt)) σ H _ from k2)
  have q : Post X.K ad (fun S r => RpAll X.K S r) W σ S r _ ((mt L O).bind fun ds O2 => Res.ok (D.str y :: ds) O2) := Post.bind (f := fun xs O1 => newL hm xs O1) p
  refine ⟨S, r, L, O, jj, rl, rs, (Post.bind q).imp ?_⟩
  rintro vs H1 ⟨S1, r1, ds, O1, e1, q1, p1, k1⟩
  obtain ⟨S2, r2, ds2, O2, e2, q2, p2, k2⟩ := k1 S1 r1 H1 (.str y :: vs) (Ext.refl _ _) q1 ⟨.str y, vs, rfl, rfl, p1⟩
  exact newL_post q2 p2 k2
theorem dst_of (h : PS X st (tS X.K ad J W s1)) : PST X st (tS X.K ad J W s1) := PST.of h
theorem dsst_of (h : PSs X body (tS X.K ad J W s1)) : PSsT X body (tS X.K ad J W s1) := PSsT.of h
theorem dsst_cons (h1 : PST X st (tS X.K ad J W s1)) (h2 : PSsT X rest (tS X.K ad J W s2)) : PSsT X (st :: rest) (tS X.K ad J W (sSeq s1 s2)) := by
  refine psst_imp (psst_cons h1 h2) ?_
  rintro En σ H ⟨S, r, L, O, j, rl, rs, p⟩
  refine ⟨S, r, L, O, j, rl, rs, ?_⟩
  unfold sSeq at p
  generalize s1 L O = z at p
  cases z with
  | next L1 O1 => exact fun S1 r1 σ1 H1 e1 j1 l1 q1 => ⟨S1, r1, L1, O1, j1, l1, q1, PostS.mono e1 p⟩
  | ret d O1 => exact p
  | brk L1 O1 => exact p
  | cnt L1 O1 => exact p
  | exc x L1 O1 => exact p
  | bad => exact p
theorem dst_ifP (hc : PT X c (tT X.K ad J W tm)) (ha : PSsT X body (tS X.K ad J W s1)) (hb : PSsT X els (tS X.K ad J W s2)) : PST X (.If c body els pos) (tS X.K ad J W (sIf tm s1 s2)) :=
  pst_imp (pst_if hc ha hb) fun _ _ _ h => if_imp h
theorem dst_set {i : Nat} {x : Str} (hN : X.N.Nodup) (hi : X.N[i]? = some x) (hx : L2.Loc X.env.scope x) (he : PET X e (tE X.K ad J W m)) (hJ : ∀ (σ : L2.St) (v : Option V) (S : Hp), J.p σ S → J.p (σ.set i v) S := by intro _ _ _ _; trivial) (hs : swapsWith e (some (.Name x pos')) pos.line X.env = pure false := by rfl)
    (hf : X.fn x = true ∨ X.env.scope.names.lookup x = some .local := by first | exact .inl rfl | exact .inr rfl | assumption) : PST X (.Assign [.Name x pos'] e pos) (tS X.K ad J W (sAsg m (bName i))) := by
  have raw : PST X (.Assign [.Name x pos'] e pos) (tAsg (tE X.K ad J W m) (gName i)) := fun pins s σ H D h0 I h => by
    refine wpAny_Assign_Name (thn (he pins s σ H _ h0 I h) fun v s1 ⟨y, H1, I1, r1, q1⟩ => ?_) hs
    exact store_ok I1 hN hi hx r1 (fun s2 I2 => ⟨_, H1, I2, q1⟩) hf
  refine pst_imp raw (asg_imp ?_)
  rintro v σ H Q ⟨S, r, L, O, d, j, rl, rs, rp, p⟩
  exact p S r _ H (Ext.refl _ _) (hJ _ _ _ j) (rl.set i rp) rs
end
end DK
end
section
set_option Elab.async false
set_option linter.all false
set_option autoImplicit false
set_option maxRecDepth 100000
set_option maxHeartbeats 4000000
/-! The walk of darkrise_k39_sheet_texts_there_and_back: printed by gen.py. -/
namespace DK.k39
open PySem L2 DK
def top (i : Nat) : Stmt := PySem.Challenge.pw_darkrise_k39_sheet_texts_there_and_back.main.body.getD i (.Pass ⟨0, 0, 0, 0⟩)
abbrev s_law_cell : Stmt := top 23
abbrev s_law_take : Stmt := top 24
abbrev s_law_rows : Stmt := top 25
abbrev s_law_lines : Stmt := top 26
abbrev s_line_of : Stmt := top 18
abbrev s_format_sheet : Stmt := top 19
abbrev s_law_is_name : Stmt := top 27
abbrev s_law_is_number : Stmt := top 28
abbrev s_law_row : Stmt := top 29
abbrev s_law_key : Stmt := top 30
abbrev s_law_due : Stmt := top 31
abbrev s_lines_of : Stmt := top 16
abbrev s_words : Stmt := top 15
abbrev s_is_name : Stmt := top 10
abbrev s_checked_name : Stmt := top 11
abbrev s_is_number : Stmt := top 12
abbrev s_checked_number : Stmt := top 13
abbrev s_read_number : Stmt := top 14
abbrev s_read_row : Stmt := top 20
abbrev s_parse_sheet : Stmt := top 21
abbrev s_law_read : Stmt := top 33
abbrev s_law_spoilt : Stmt := top 32
abbrev s_law : Stmt := top 34
def d_law_cell : He.DefD := ⟨("_law_cell", none), "_law_cell", "_law_cell", defArgs s_law_cell, defBody s_law_cell, defScope s_law_cell, [], []⟩
theorem sc_law_cell : FnScope ["script", "k"] ["script", "k"] (defScope s_law_cell) := ⟨rfl, rfl, rfl, by decide +kernel, rfl, by decide +kernel, by decide +kernel⟩
def d_law_take : He.DefD := ⟨("_law_take", none), "_law_take", "_law_take", defArgs s_law_take, defBody s_law_take, defScope s_law_take, [], []⟩
theorem sc_law_take : FnScope ["state", "limit", "found", "cell"] ["state", "limit"] (defScope s_law_take) := ⟨rfl, rfl, rfl, by decide +kernel, rfl, by decide +kernel, by decide +kernel⟩
def d_law_rows : He.DefD := ⟨("_law_rows", none), "_law_rows", "_law_rows", defArgs s_law_rows, defBody s_law_rows, defScope s_law_rows, [], []⟩
theorem sc_law_rows : FnScope ["draw", "found", "minute", "k", "name", "pick"] ["draw"] (defScope s_law_rows) := ⟨rfl, rfl, rfl, by decide +kernel, rfl, by decide +kernel, by decide +kernel⟩
def d_law_lines : He.DefD := ⟨("_law_lines", none), "_law_lines", "_law_lines", defArgs s_law_lines, defBody s_law_lines, defScope s_law_lines, [], []⟩
theorem sc_law_lines : FnScope ["station", "rows", "found", "minute", "word", "name", "far"] ["station", "rows"] (defScope s_law_lines) := ⟨rfl, rfl, rfl, by decide +kernel, rfl, by decide +kernel, by decide +kernel⟩
def d_line_of : He.DefD := ⟨("_line_of", none), "_line_of", "_line_of", defArgs s_line_of, defBody s_line_of, defScope s_line_of, [], []⟩
theorem sc_line_of : FnScope ["row", "minute", "word", "name", "far", "line"] ["row"] (defScope s_line_of) := ⟨rfl, rfl, rfl, by decide +kernel, rfl, by decide +kernel, by decide +kernel⟩
def d_format_sheet : He.DefD := ⟨("format_sheet", none), "format_sheet", "format_sheet", defArgs s_format_sheet, defBody s_format_sheet, defScope s_format_sheet, [], []⟩
theorem sc_format_sheet : FnScope ["station", "rows", "row", "line"] ["station", "rows"] (defScope s_format_sheet) := ⟨rfl, rfl, rfl, by decide +kernel, rfl, by decide +kernel, by decide +kernel⟩
def d_law_is_name : He.DefD := ⟨("_law_is_name", none), "_law_is_name", "_law_is_name", defArgs s_law_is_name, defBody s_law_is_name, defScope s_law_is_name, [], []⟩
theorem sc_law_is_name : FnScope ["word", "sign"] ["word"] (defScope s_law_is_name) := ⟨rfl, rfl, rfl, by decide +kernel, rfl, by decide +kernel, by decide +kernel⟩
def d_law_is_number : He.DefD := ⟨("_law_is_number", none), "_law_is_number", "_law_is_number", defArgs s_law_is_number, defBody s_law_is_number, defScope s_law_is_number, [], []⟩
theorem sc_law_is_number : FnScope ["word", "sign"] ["word"] (defScope s_law_is_number) := ⟨rfl, rfl, rfl, by decide +kernel, rfl, by decide +kernel, by decide +kernel⟩
def d_law_row : He.DefD := ⟨("_law_row", none), "_law_row", "_law_row", defArgs s_law_row, defBody s_law_row, defScope s_law_row, [], []⟩
theorem sc_law_row : FnScope ["line", "row"] ["line"] (defScope s_law_row) := ⟨rfl, rfl, rfl, by decide +kernel, rfl, by decide +kernel, by decide +kernel⟩
def d_law_key : He.DefD := ⟨("_law_key", none), "_law_key", "_law_key", defArgs s_law_key, defBody s_law_key, defScope s_law_key, [], []⟩
theorem sc_law_key : FnScope ["line", "row"] ["line"] (defScope s_law_key) := ⟨rfl, rfl, rfl, by decide +kernel, rfl, by decide +kernel, by decide +kernel⟩
def d_law_due : He.DefD := ⟨("_law_due", none), "_law_due", "_law_due", defArgs s_law_due, defBody s_law_due, defScope s_law_due, [], []⟩
theorem sc_law_due : FnScope ["lines", "head", "k"] ["lines"] (defScope s_law_due) := ⟨rfl, rfl, rfl, by decide +kernel, rfl, by decide +kernel, by decide +kernel⟩
def d_lines_of : He.DefD := ⟨("lines_of", none), "lines_of", "lines_of", defArgs s_lines_of, defBody s_lines_of, defScope s_lines_of, [], []⟩
theorem sc_lines_of : FnScope ["text", "rows"] ["text"] (defScope s_lines_of) := ⟨rfl, rfl, rfl, by decide +kernel, rfl, by decide +kernel, by decide +kernel⟩
def d_words : He.DefD := ⟨("words", none), "words", "words", defArgs s_words, defBody s_words, defScope s_words, [], []⟩
theorem sc_words : FnScope ["line"] ["line"] (defScope s_words) := ⟨rfl, rfl, rfl, by decide +kernel, rfl, by decide +kernel, by decide +kernel⟩
def d_is_name : He.DefD := ⟨("is_name", none), "is_name", "is_name", defArgs s_is_name, defBody s_is_name, defScope s_is_name, [], []⟩
theorem sc_is_name : FnScope ["word", "sign"] ["word"] (defScope s_is_name) := ⟨rfl, rfl, rfl, by decide +kernel, rfl, by decide +kernel, by decide +kernel⟩
def d_checked_name : He.DefD := ⟨("checked_name", none), "checked_name", "checked_name", defArgs s_checked_name, defBody s_checked_name, defScope s_checked_name, [], []⟩
theorem sc_checked_name : FnScope ["word"] ["word"] (defScope s_checked_name) := ⟨rfl, rfl, rfl, by decide +kernel, rfl, by decide +kernel, by decide +kernel⟩
def d_is_number : He.DefD := ⟨("is_number", none), "is_number", "is_number", defArgs s_is_number, defBody s_is_number, defScope s_is_number, [.int 0, .int 1000000], []⟩
theorem sc_is_number : FnScope ["value", "least", "most"] ["value", "least", "most"] (defScope s_is_number) := ⟨rfl, rfl, rfl, by decide +kernel, rfl, by decide +kernel, by decide +kernel⟩
def d_checked_number : He.DefD := ⟨("checked_number", none), "checked_number", "checked_number", defArgs s_checked_number, defBody s_checked_number, defScope s_checked_number, [.int 0, .int 1000000], []⟩
theorem sc_checked_number : FnScope ["value", "least", "most"] ["value", "least", "most"] (defScope s_checked_number) := ⟨rfl, rfl, rfl, by decide +kernel, rfl, by decide +kernel, by decide +kernel⟩
def d_read_number : He.DefD := ⟨("read_number", none), "read_number", "read_number", defArgs s_read_number, defBody s_read_number, defScope s_read_number, [.int 0, .int 1000000], []⟩
theorem sc_read_number : FnScope ["word", "least", "most", "sign"] ["word", "least", "most"] (defScope s_read_number) := ⟨rfl, rfl, rfl, by decide +kernel, rfl, by decide +kernel, by decide +kernel⟩
def d_read_row : He.DefD := ⟨("_read_row", none), "_read_row", "_read_row", defArgs s_read_row, defBody s_read_row, defScope s_read_row, [], []⟩
theorem sc_read_row : FnScope ["row"] ["row"] (defScope s_read_row) := ⟨rfl, rfl, rfl, by decide +kernel, rfl, by decide +kernel, by decide +kernel⟩
def d_parse_sheet : He.DefD := ⟨("parse_sheet", none), "parse_sheet", "parse_sheet", defArgs s_parse_sheet, defBody s_parse_sheet, defScope s_parse_sheet, [], []⟩
theorem sc_parse_sheet : FnScope ["text", "lines", "found", "station", "at", "row", "read"] ["text"] (defScope s_parse_sheet) := ⟨rfl, rfl, rfl, by decide +kernel, rfl, by decide +kernel, by decide +kernel⟩
def d_law_read : He.DefD := ⟨("_law_read", none), "_law_read", "_law_read", defArgs s_law_read, defBody s_law_read, defScope s_law_read, [], []⟩
theorem sc_law_read : FnScope ["text", "e"] ["text"] (defScope s_law_read) := ⟨rfl, rfl, rfl, by decide +kernel, rfl, by decide +kernel, by decide +kernel⟩
def d_law_spoilt : He.DefD := ⟨("_law_spoilt", none), "_law_spoilt", "_law_spoilt", defArgs s_law_spoilt, defBody s_law_spoilt, defScope s_law_spoilt, [], []⟩
theorem sc_law_spoilt : FnScope ["draw", "lines", "at", "line", "fixed", "pick"] ["draw", "lines"] (defScope s_law_spoilt) := ⟨rfl, rfl, rfl, by decide +kernel, rfl, by decide +kernel, by decide +kernel⟩
def d_law : He.DefD := ⟨("law", none), "law", "law", defArgs s_law, defBody s_law, defScope s_law, [], []⟩
theorem sc_law : FnScope ["script", "draw", "station", "rows", "lines", "text", "k", "spoilt", "due", "found", "line"] ["script"] (defScope s_law) := ⟨rfl, rfl, rfl, by decide +kernel, rfl, by decide +kernel, by decide +kernel⟩
abbrev PP : Program := PySem.Challenge.pw_darkrise_k39_sheet_texts_there_and_back
abbrev s_invalidline_init : Stmt := inC (top 4) 0
def ini_InvalidLine : IniD := ⟨"InvalidLine", "InvalidLine.__init__", defArgs s_invalidline_init, defBody s_invalidline_init, defScope s_invalidline_init⟩
theorem sup_InvalidLine : SupScope ["self", "line"] ["self", "line"] (defScope s_invalidline_init) := ⟨rfl, rfl, rfl, by decide +kernel, rfl, by decide +kernel, by decide +kernel, free_of (by decide +kernel), rfl, rfl⟩
def fn : List He.DefD := [d_law_cell, d_law_take, d_law_rows, d_law_lines, d_line_of, d_format_sheet, d_law_is_name, d_law_is_number, d_law_row, d_law_key, d_law_due, d_lines_of, d_words, d_is_name, d_checked_name, d_is_number, d_checked_number, d_read_number, d_read_row, d_parse_sheet, d_law_read, d_law_spoilt, d_law]
def fa : List He.Fa := [.glo "law", .free "str", .free "super", .noat "InvalidLine" "line", .free "len", .free "int", .free "abs", .glo "_law_cell", .glo "_law_take", .free "range", .glo "_line_of", .glo "_law_is_number", .glo "_law_is_name", .glo "_law_row", .glo "_law_key", .glo "InvalidLine", .free "isinstance", .int "LONGEST" 12, .str "LETTERS" "abcdefghijklmnopqrstuvwxyz", .glo "is_name", .exc "InvalidName", .glo "InvalidName", .free "bool", .glo "is_number", .exc "InvalidNumber", .glo "InvalidNumber", .str "FIGURES" "0123456789", .glo "checked_number", .glo "checked_name", .glo "read_number", .glo "lines_of", .glo "words", .exm "InvalidName" "RiseError" true, .exm "InvalidNumber" "RiseError" true, .exm "InvalidLine" "RiseError" true, .glo "RiseError", .glo "_read_row", .exm "InvalidName" "InvalidLine" false, .exm "InvalidNumber" "InvalidLine" false, .exm "InvalidLine" "InvalidLine" true, .glo "parse_sheet", .glo "_law_rows", .glo "_law_lines", .glo "format_sheet", .free "list", .glo "_law_read", .glo "_law_spoilt", .glo "_law_due"]
def fx : List Fx := [.exc "InvalidLine"]
def ins : List IniD := [ini_InvalidLine]
abbrev Kn (K : PySem.W.Frag) (mg : Str → Option Value) : Prop := KnowsI fa fn fx "/claim/cut.py" ins K mg
def m_invalidline_init : EM := (mOp (gAdd false) (mC (.str "line ")) (mCall (g1 gStr) (mCons (mVar 1) mNil)))
def x_InvalidLine : XM := mkOne ["self", "line"] m_invalidline_init "line" 1
theorem has_InvalidLine {w : World} {K : PySem.W.Frag} {mg : Str → Option Value} {base : Heap} (kn : Kn K mg) : HasX PP w K mg base 1 "InvalidLine" 1 x_InvalidLine := by
  have I : IniK K "/claim/cut.py" ini_InvalidLine := kn.i _ (by simp [ins])
  refine hasX_tr (k := 0) (d := ini_InvalidLine) (N := ["self", "line"]) (ps := ["self", "line"]) (self := "self") (ms := m_invalidline_init) I rfl sup_InvalidLine rfl rfl rfl rfl rfl (by decide +kernel) (by decide +kernel) (kn.free 2) (fun f fd kV doc pm an cda ct cc us hl => match us, hl with | [_, _], _ => rfl) (fun f cda cc A outer s H E hr => ?_) (fun f cda cc A outer s H E => (pss_one (ps_ost (pv 0) (pv 1)))) (fun _ _ _ _ => rfl) (fun _ _ _ _ => rfl) (fun _ _ _ _ => rfl) (fun _ _ _ _ => rfl) (hsp_one I.T (kn.noat 3) rfl (by decide))
  delta m_invalidline_init
  exact (de_op (od_add false) de_str (de_callTy cd_str rfl (kn.free 1) (by decide +kernel) (da_cons (de_var (pv 1)) da_nil)))
theorem hasH_InvalidLine {w : World} {K : PySem.W.Frag} {mg : Str → Option Value} {base : Heap} (kn : Kn K mg) : HasXH PP w K mg base 1 "InvalidLine" 1 x_InvalidLine := by
  have I : IniK K "/claim/cut.py" ini_InvalidLine := kn.i _ (by simp [ins])
  refine hasXH_tr (k := 0) (d := ini_InvalidLine) (N := ["self", "line"]) (ps := ["self", "line"]) (self := "self") (ms := m_invalidline_init) I rfl sup_InvalidLine rfl rfl rfl rfl rfl (by decide +kernel) (by decide +kernel) (kn.free 2) (fun f fd kV doc pm an cda ct cc us hl => match us, hl with | [_, _], _ => rfl) (fun f cda cc A outer s H E p hr => ?_) (fun f cda cc A outer s H E p => (pss_one (ps_ost (pv 0) (pv 1)))) (fun _ _ _ _ => rfl) (fun _ _ _ _ => rfl) (fun _ _ _ _ => rfl) (fun _ _ _ _ => rfl) (hsp_one I.T (kn.noat 3) rfl (by decide))
  delta m_invalidline_init
  exact (de_op (od_add false) de_str (de_callTy cd_str rfl (kn.free 1) (by decide +kernel) (da_cons (de_var (pv 1)) da_nil)))
def b_law_cell : SM := (sSeq (sIf (mTest (mOp gLt (mVar 1) (mCall (g1 gLen) (mCons (mVar 0) mNil)))) (sRet (mCall (g1 gAbs) (mCons (mCall (g1 gInt) (mCons (mOp gIx (mVar 0) (mVar 1)) mNil)) mNil))) sNext)
    (sRet (mOp (gAdd false) (mOp gMul (mC (.int 37)) (mVar 1)) (mC (.int 11)))))
def f_law_cell : FM := runF 2 b_law_cell
theorem ok_law_cell {w : World} {K : PySem.W.Frag} {mg : Str → Option Value} {base : Heap} (kn : Kn K mg) : Has PP w K mg base 1 d_law_cell ["script", "k"] f_law_cell := by
  refine has_def (k := 0) (N := ["script", "k"]) (d := d_law_cell) (kn.c.def_ 0 (d := d_law_cell) rfl) sc_law_cell fun f cdv A outer s H E hr => ?_
  delta b_law_cell
  exact (dss_cons (ds_if (dt_cmp od_lt (de_var (pv 1)) (de_callB cd_len rfl (kn.free 4) (by decide +kernel) (da_cons (de_var (pv 0)) da_nil)) (nomark _)) (dss_one (ds_ret (de_callB cd_abs rfl (kn.free 6) (by decide +kernel) (da_cons (de_callTy cd_int rfl (kn.free 5) (by decide +kernel) (da_cons (de_ix (de_var (pv 0)) (de_var (pv 1)) (fun _ _ => rfl)) da_nil)) da_nil)))) dss_nil)
    (dss_one (ds_ret (de_op (od_add false) (de_op od_mul de_int (de_var (pv 1))) de_int))))
def b_law_take : SM := (sSeq (sIf (mTest (mOp gGt (mOp gIx (mVar 0) (mC (.int 2))) (mC (.int 0)))) (sSeq (sAsg (mOp gMod (mCall (g1 gInt) (mCons (mOp gIx (mVar 0) (mC (.int 2))) mNil)) (mVar 1)) (bName 2))
    (sSeq (sAsg (mOp gFdiv (mCall (g1 gInt) (mCons (mOp gIx (mVar 0) (mC (.int 2))) mNil)) (mVar 1)) (bSubL (mVar 0) (mC (.int 2))))
    (sRet (mVar 2)))) sNext)
    (sSeq (sAsg (mFn (arity 2 f_law_cell) [] (mCons (mOp gIx (mVar 0) (mC (.int 0))) (mCons (mOp gIx (mVar 0) (mC (.int 1))) mNil))) (bName 3))
    (sSeq (sAsg (mOp (gAdd false) (mOp gIx (mVar 0) (mC (.int 1))) (mC (.int 1))) (bSubL (mVar 0) (mC (.int 1))))
    (sSeq (sIf (mTest (mOp gGe (mVar 3) (mOp gPow (mC (.int 10)) (mC (.int 9))))) (sAsg (mOp gFdiv (mCall (g1 gInt) (mCons (mVar 3) mNil)) (mVar 1)) (bSubL (mVar 0) (mC (.int 2)))) sNext)
    (sRet (mOp gMod (mCall (g1 gInt) (mCons (mVar 3) mNil)) (mVar 1)))))))
def f_law_take : FM := runF 4 b_law_take
theorem ok_law_take {w : World} {K : PySem.W.Frag} {mg : Str → Option Value} {base : Heap} (kn : Kn K mg) : Has PP w K mg base 2 d_law_take ["state", "limit"] f_law_take := by
  obtain ⟨fd0, F0, O0⟩ := ok_law_cell (w := w) (base := base) kn
  have B1 := FunD.bindsN (ps := ["script", "k"]) F0 (fun _ _ _ _ _ _ us hl => match us, hl with | [_, _], _ => rfl)
  refine has_def (k := 1) (N := ["state", "limit", "found", "cell"]) (d := d_law_take) (kn.c.def_ 1 (d := d_law_take) rfl) sc_law_take fun f cdv A outer s H E hr => ?_
  delta b_law_take
  exact (dss_cons (ds_if (dt_cmp od_gt (de_ix (de_var (pv 0)) de_int (fun _ _ => rfl)) de_int (nomark _)) (dss_cons (ds_set (i := 2) sc_law_take.nd rfl (by first | exact .inl rfl | exact .inr rfl) (de_op od_mod (de_callTy cd_int rfl (kn.free 5) (by decide +kernel) (da_cons (de_ix (de_var (pv 0)) de_int (fun _ _ => rfl)) da_nil)) (de_var (pv 1))))
    (dss_cons (ds_asg (de_op od_fdiv (de_callTy cd_int rfl (kn.free 5) (by decide +kernel) (da_cons (de_ix (de_var (pv 0)) de_int (fun _ _ => rfl)) da_nil)) (de_var (pv 1))) (dg_subL (W := WF) (de_var (pv 0)) de_int))
    (dss_one (ds_ret (de_var (pv 2)))))) dss_nil)
    (dss_cons (ds_set (i := 3) sc_law_take.nd rfl (by first | exact .inl rfl | exact .inr rfl) (de_call (dds := []) O0 (hr.mono (by omega)) rfl (kn.glo 7) F0.kp B1 .nil (fun _ _ => rfl) tk_of (da_cons (de_ix (de_var (pv 0)) de_int (fun _ _ => rfl)) (da_cons (de_ix (de_var (pv 0)) de_int (fun _ _ => rfl)) da_nil))))
    (dss_cons (ds_asg (de_op (od_add false) (de_ix (de_var (pv 0)) de_int (fun _ _ => rfl)) de_int) (dg_subL (W := WF) (de_var (pv 0)) de_int))
    (dss_cons (ds_if (dt_cmp od_ge (de_var (pv 3)) (de_op od_pow de_int de_int) (nomark _)) (dss_one (ds_asg (de_op od_fdiv (de_callTy cd_int rfl (kn.free 5) (by decide +kernel) (da_cons (de_var (pv 3)) da_nil)) (de_var (pv 1))) (dg_subL (W := WF) (de_var (pv 0)) de_int))) dss_nil)
    (dss_one (ds_ret (de_op od_mod (de_callTy cd_int rfl (kn.free 5) (by decide +kernel) (da_cons (de_var (pv 3)) da_nil)) (de_var (pv 1)))))))))
def b_law_rows : SM := (sSeq (sAsg (mLst true mNil) (bName 1))
    (sSeq (sAsg (mC (.int 0)) (bName 2))
    (sSeq (sForR1 (mCons (mFn (arity 2 f_law_take) [] (mCons (mVar 0) (mCons (mC (.int 9)) mNil))) mNil) (bName 3) (sSeq (sAsg (mOp (gAdd false) (mOp (gAdd false) (mVar 2) (mC (.int 1))) (mFn (arity 2 f_law_take) [] (mCons (mVar 0) (mCons (mC (.int 20)) mNil)))) (bName 2))
    (sSeq (sAsg (mOp gIx (mLst false (mCons (mC (.str "la")) (mCons (mC (.str "lb")) (mCons (mC (.str "pa")) (mCons (mC (.str "abcdefghijkl")) (mCons (mC (.str "q")) mNil)))))) (mFn (arity 2 f_law_take) [] (mCons (mVar 0) (mCons (mC (.int 5)) mNil)))) (bName 4))
    (sSeq (sAsg (mFn (arity 2 f_law_take) [] (mCons (mVar 0) (mCons (mC (.int 3)) mNil))) (bName 5))
    (sIf (mTest (mOp gEq (mVar 5) (mC (.int 0)))) (sDrop (mApp (mVar 1) (mTup (mCons (mVar 2) (mCons (mC (.str "close")) (mCons (mVar 4) (mCons (mOp gIx (mLst false (mCons (mC (.str "ash")) (mCons (mC (.str "bay")) (mCons (mC (.str "z")) mNil)))) (mFn (arity 2 f_law_take) [] (mCons (mVar 0) (mCons (mC (.int 3)) mNil)))) mNil))))))) (sDrop (mApp (mVar 1) (mTup (mCons (mVar 2) (mCons (mOp gIx (mLst false (mCons (mC (.str "")) (mCons (mC (.str "crank")) (mCons (mC (.str "start")) mNil)))) (mVar 5)) (mCons (mVar 4) (mCons (mC .non) mNil))))))))))))
    (sRet (mVar 1)))))
def f_law_rows : FM := runF 6 b_law_rows
theorem ok_law_rows {w : World} {K : PySem.W.Frag} {mg : Str → Option Value} {base : Heap} (kn : Kn K mg) : Has PP w K mg base 3 d_law_rows ["draw"] f_law_rows := by
  obtain ⟨fd0, F0, O0⟩ := ok_law_take (w := w) (base := base) kn
  have B1 := FunD.bindsN (ps := ["state", "limit"]) F0 (fun _ _ _ _ _ _ us hl => match us, hl with | [_, _], _ => rfl)
  refine has_def (k := 2) (N := ["draw", "found", "minute", "k", "name", "pick"]) (d := d_law_rows) (kn.c.def_ 2 (d := d_law_rows) rfl) sc_law_rows fun f cdv A outer s H E hr => ?_
  delta b_law_rows
  exact (dss_cons (ds_set (i := 1) sc_law_rows.nd rfl (by first | exact .inl rfl | exact .inr rfl) (de_lst (hm := true) da_nil))
    (dss_cons (ds_set (i := 2) sc_law_rows.nd rfl (by first | exact .inl rfl | exact .inr rfl) de_int)
    (dss_cons (ds_forR1 own_of rfl rfl (kn.free 9) (da_cons (de_call (dds := []) O0 (hr.mono (by omega)) rfl (kn.glo 8) F0.kp B1 .nil (fun _ _ => rfl) tk_of (da_cons (de_var (pv 0)) (da_cons de_int da_nil))) da_nil) (dg_name (i := 3) sc_law_rows.nd rfl (by first | exact .inl rfl | exact .inr rfl)) (dss_cons (ds_set (i := 2) sc_law_rows.nd rfl (by first | exact .inl rfl | exact .inr rfl) (de_op (od_add false) (de_op (od_add false) (de_var (pv 2)) de_int) (de_call (dds := []) O0 (hr.mono (by omega)) rfl (kn.glo 8) F0.kp B1 .nil (fun _ _ => rfl) tk_of (da_cons (de_var (pv 0)) (da_cons de_int da_nil)))))
    (dss_cons (ds_set (i := 4) sc_law_rows.nd rfl (by first | exact .inl rfl | exact .inr rfl) (de_ix (de_lst (hm := false) (da_cons de_str (da_cons de_str (da_cons de_str (da_cons de_str (da_cons de_str da_nil)))))) (de_call (dds := []) O0 (hr.mono (by omega)) rfl (kn.glo 8) F0.kp B1 .nil (fun _ _ => rfl) tk_of (da_cons (de_var (pv 0)) (da_cons de_int da_nil))) (fun _ _ => rfl)))
    (dss_cons (ds_set (i := 5) sc_law_rows.nd rfl (by first | exact .inl rfl | exact .inr rfl) (de_call (dds := []) O0 (hr.mono (by omega)) rfl (kn.glo 8) F0.kp B1 .nil (fun _ _ => rfl) tk_of (da_cons (de_var (pv 0)) (da_cons de_int da_nil))))
    (dss_one (ds_if (dt_cmp (od_eq hr.units) (de_var (pv 5)) de_int (nomark _)) (dss_one (ds_expr (de_app (de_var (pv 1)) (de_tup (da_cons (de_var (pv 2)) (da_cons de_str (da_cons (de_var (pv 4)) (da_cons (de_ix (de_lst (hm := false) (da_cons de_str (da_cons de_str (da_cons de_str da_nil)))) (de_call (dds := []) O0 (hr.mono (by omega)) rfl (kn.glo 8) F0.kp B1 .nil (fun _ _ => rfl) tk_of (da_cons (de_var (pv 0)) (da_cons de_int da_nil))) (fun _ _ => rfl)) da_nil)))))))) (dss_one (ds_expr (de_app (de_var (pv 1)) (de_tup (da_cons (de_var (pv 2)) (da_cons (de_ix (de_lst (hm := false) (da_cons de_str (da_cons de_str (da_cons de_str da_nil)))) (de_var (pv 5)) (fun _ _ => rfl)) (da_cons (de_var (pv 4)) (da_cons de_non da_nil))))))))))))))
    (dss_one (ds_ret (de_var (pv 1)))))))
def b_law_lines : SM := (sSeq (sAsg (mLst true (mCons (mOp (gAdd false) (mC (.str "at ")) (mVar 0)) mNil)) (bName 2))
    (sSeq (sForL (mVar 1) (bTup 4 (bCons (bName 3) (bCons (bName 4) (bCons (bName 5) (bCons (bName 6) bNil))))) (sDrop (mApp (mVar 2) (mOp (gAdd false) (mOp (gAdd false) (mOp (gAdd false) (mOp (gAdd false) (mOp (gAdd false) (mCall (g1 gStr) (mCons (mVar 3) mNil)) (mC (.str " "))) (mVar 4)) (mC (.str " "))) (mVar 5)) (mIf (mTest (mOp gIs (mVar 6) (mC .non))) (mC (.str "")) (mOp (gAdd false) (mC (.str " to ")) (mVar 6)))))))
    (sRet (mVar 2))))
def f_law_lines : FM := runF 7 b_law_lines
theorem ok_law_lines {w : World} {K : PySem.W.Frag} {mg : Str → Option Value} {base : Heap} (kn : Kn K mg) : Has PP w K mg base 1 d_law_lines ["station", "rows"] f_law_lines := by
  refine has_def (k := 0) (N := ["station", "rows", "found", "minute", "word", "name", "far"]) (d := d_law_lines) (kn.c.def_ 3 (d := d_law_lines) rfl) sc_law_lines fun f cdv A outer s H E hr => ?_
  delta b_law_lines
  exact (dss_cons (ds_set (i := 2) sc_law_lines.nd rfl (by first | exact .inl rfl | exact .inr rfl) (de_lst (hm := true) (da_cons (de_op (od_add false) de_str (de_var (pv 0))) da_nil)))
    (dss_cons (ds_forL own_of rfl (de_var (pv 1)) (dg_tup rfl (dgs_cons (dg_name (i := 3) sc_law_lines.nd rfl (by first | exact .inl rfl | exact .inr rfl)) (dgs_cons (dg_name (i := 4) sc_law_lines.nd rfl (by first | exact .inl rfl | exact .inr rfl)) (dgs_cons (dg_name (i := 5) sc_law_lines.nd rfl (by first | exact .inl rfl | exact .inr rfl)) (dgs_cons (dg_name (i := 6) sc_law_lines.nd rfl (by first | exact .inl rfl | exact .inr rfl)) dgs_nil))))) (dss_one (ds_expr (de_app (de_var (pv 2)) (de_op (od_add false) (de_op (od_add false) (de_op (od_add false) (de_op (od_add false) (de_op (od_add false) (de_callTy cd_str rfl (kn.free 1) (by decide +kernel) (da_cons (de_var (pv 3)) da_nil)) de_str) (de_var (pv 4))) de_str) (de_var (pv 5))) (de_if (dt_cmp od_is (de_var (pv 6)) de_non (nomark _)) de_str (de_op (od_add false) de_str (de_var (pv 6)))))))))
    (dss_one (ds_ret (de_var (pv 2))))))
def b_line_of : SM := (sSeq (sAsg (mVar 0) (bTup 4 (bCons (bName 1) (bCons (bName 2) (bCons (bName 3) (bCons (bName 4) bNil))))))
    (sSeq (sAsg (mOp (gAdd false) (mOp (gAdd false) (mOp (gAdd false) (mOp (gAdd false) (mCall (g1 gStr) (mCons (mVar 1) mNil)) (mC (.str " "))) (mVar 2)) (mC (.str " "))) (mVar 3)) (bName 5))
    (sRet (mIf (mTest (mOp gIs (mVar 4) (mC .non))) (mVar 5) (mOp (gAdd false) (mOp (gAdd false) (mVar 5) (mC (.str " to "))) (mVar 4))))))
def f_line_of : FM := runF 6 b_line_of
theorem ok_line_of {w : World} {K : PySem.W.Frag} {mg : Str → Option Value} {base : Heap} (kn : Kn K mg) : Has PP w K mg base 1 d_line_of ["row"] f_line_of := by
  refine has_def (k := 0) (N := ["row", "minute", "word", "name", "far", "line"]) (d := d_line_of) (kn.c.def_ 4 (d := d_line_of) rfl) sc_line_of fun f cdv A outer s H E hr => ?_
  delta b_line_of
  exact (dss_cons (ds_asg (de_var (pv 0)) (dg_tup rfl (dgs_cons (dg_name (i := 1) sc_line_of.nd rfl (by first | exact .inl rfl | exact .inr rfl)) (dgs_cons (dg_name (i := 2) sc_line_of.nd rfl (by first | exact .inl rfl | exact .inr rfl)) (dgs_cons (dg_name (i := 3) sc_line_of.nd rfl (by first | exact .inl rfl | exact .inr rfl)) (dgs_cons (dg_name (i := 4) sc_line_of.nd rfl (by first | exact .inl rfl | exact .inr rfl)) dgs_nil))))))
    (dss_cons (ds_set (i := 5) sc_line_of.nd rfl (by first | exact .inl rfl | exact .inr rfl) (de_op (od_add false) (de_op (od_add false) (de_op (od_add false) (de_op (od_add false) (de_callTy cd_str rfl (kn.free 1) (by decide +kernel) (da_cons (de_var (pv 1)) da_nil)) de_str) (de_var (pv 2))) de_str) (de_var (pv 3))))
    (dss_one (ds_ret (de_if (dt_cmp od_is (de_var (pv 4)) de_non (nomark _)) (de_var (pv 5)) (de_op (od_add false) (de_op (od_add false) (de_var (pv 5)) de_str) (de_var (pv 4))))))))
theorem blk_format_sheet_61_19 : BlkOk ["station", "rows", "row", "line"] (defScope s_format_sheet) { kind := .function, names := [(".0", .local), ("line", .local)], isGenerator := false, isCoroutine := false, more := [] } [("line", 3)] := ⟨rfl, by decide +kernel, by decide +kernel, by decide +kernel, by decide +kernel⟩
theorem blk_format_sheet_61_64 : BlkOk ["station", "rows", "row", "line"] (defScope s_format_sheet) { kind := .function, names := [(".0", .local), ("row", .local), ("_line_of", .globalImplicit)], isGenerator := false, isCoroutine := false, more := [] } [("row", 2)] := ⟨rfl, by decide +kernel, by decide +kernel, by decide +kernel, by decide +kernel⟩
def b_format_sheet : SM := (sRet (mBS (gJoin) (mC (.str "")) (mCons (mLcL false (mOp (gAdd false) (mLst false (mCons (mOp (gAdd false) (mC (.str "at ")) (mVar 0)) mNil)) (mLcL false (mVar 1) [2] (bName 2) mYes (mFn (arity 1 f_line_of) [] (mCons (mVar 2) mNil)))) [3] (bName 3) mYes (mOp (gAdd false) (mVar 3) (mC (.str "\n")))) mNil)))
def f_format_sheet : FM := runF 4 b_format_sheet
theorem ok_format_sheet {w : World} {K : PySem.W.Frag} {mg : Str → Option Value} {base : Heap} (kn : Kn K mg) : Has PP w K mg base 2 d_format_sheet ["station", "rows"] f_format_sheet := by
  obtain ⟨fd0, F0, O0⟩ := ok_line_of (w := w) (base := base) kn
  have B1 := FunD.bindsN (ps := ["row"]) F0 (fun _ _ _ _ _ _ us hl => match us, hl with | [_], _ => rfl)
  refine has_def (k := 1) (N := ["station", "rows", "row", "line"]) (d := d_format_sheet) (kn.c.def_ 5 (d := d_format_sheet) rfl) sc_format_sheet fun f cdv A outer s H E hr => ?_
  delta b_format_sheet
  exact (dss_one (ds_ret (de_bS PySem.F.plainAttrs_str PySem.F.slot_str_join PySem.F.type_str_join ms_join de_str (da_cons (de_lcL (own := [("line", 3)]) (hm := false) rfl sc_format_sheet.nd (de_op (od_add false) (de_lst (hm := false) (da_cons (de_op (od_add false) de_str (de_var (pv 0))) da_nil)) (de_lcL (own := [("row", 2)]) (hm := false) rfl sc_format_sheet.nd (de_var (pv 1)) blk_format_sheet_61_64 (fun s2 H2 C2 cl2 fp2 J2 hJ2 => (dg_name (i := 2) sc_format_sheet.nd rfl (by first | exact .inl rfl | exact .inr rfl) (hJ := fun σ v S h => hJ2 σ v S 2 (by simp) h))) (fun s2 H2 C2 cl2 fp2 J2 hJ2 => dts_nil) (fun s2 H2 C2 cl2 fp2 J2 hJ2 => (de_call (dds := []) O0 (hr.mono (by omega)) rfl (kn.glo 10) F0.kp B1 .nil (fun _ _ => rfl) takesF (da_cons (de_var (pv 2)) da_nil))))) blk_format_sheet_61_19 (fun s1 H1 C1 cl1 fp1 J1 hJ1 => (dg_name (i := 3) sc_format_sheet.nd rfl (by first | exact .inl rfl | exact .inr rfl) (hJ := fun σ v S h => hJ1 σ v S 3 (by simp) h))) (fun s1 H1 C1 cl1 fp1 J1 hJ1 => dts_nil) (fun s1 H1 C1 cl1 fp1 J1 hJ1 => (de_op (od_add false) (de_var (pv 3)) de_str))) da_nil))))
theorem blk_law_is_name_124_40 : BlkOk ["word", "sign"] (defScope s_law_is_name) { kind := .function, names := [(".0", .local), ("sign", .local)], isGenerator := false, isCoroutine := false, more := [] } [("sign", 1)] := ⟨rfl, by decide +kernel, by decide +kernel, by decide +kernel, by decide +kernel⟩
def b_law_is_name : SM := (sRet (mAndV (mChain gLe gLe (mC (.int 1)) (mCall (g1 gLen) (mCons (mVar 0) mNil)) (mC (.int 12))) (mOp gEq (mCall (g1 gLen) (mCons (mLcS false (mVar 0) [1] (bName 1) (mTest (mOp gNotIn (mVar 1) (mC (.str "abcdefghijklmnopqrstuvwxyz")))) (mVar 1)) mNil)) (mC (.int 0)))))
def f_law_is_name : FM := runF 2 b_law_is_name
theorem ok_law_is_name {w : World} {K : PySem.W.Frag} {mg : Str → Option Value} {base : Heap} (kn : Kn K mg) : Has PP w K mg base 1 d_law_is_name ["word"] f_law_is_name := by
  refine has_def (k := 0) (N := ["word", "sign"]) (d := d_law_is_name) (kn.c.def_ 6 (d := d_law_is_name) rfl) sc_law_is_name fun f cdv A outer s H E hr => ?_
  delta b_law_is_name
  exact (dss_one (ds_ret (de_and (de_chain od_le od_le de_int (de_callB cd_len rfl (kn.free 4) (by decide +kernel) (da_cons (de_var (pv 0)) da_nil)) de_int) (de_and1 (by exact (de_cmp (od_eq hr.units) (de_callB cd_len rfl (kn.free 4) (by decide +kernel) (da_cons (de_lcS (own := [("sign", 1)]) (hm := false) rfl sc_law_is_name.nd (de_var (pv 0)) blk_law_is_name_124_40 (fun s1 H1 C1 cl1 fp1 J1 hJ1 => (dg_name (i := 1) sc_law_is_name.nd rfl (by first | exact .inl rfl | exact .inr rfl) (hJ := fun σ v S h => hJ1 σ v S 1 (by simp) h))) (fun s1 H1 C1 cl1 fp1 J1 hJ1 => (dts_one (dt_cmp od_notin (de_var (pv 1)) de_str (by with_unfolding_all rfl)))) (fun s1 H1 C1 cl1 fp1 J1 hJ1 => (de_var (pv 1)))) da_nil)) de_int (nomark _)))))))
theorem blk_law_is_number_126_38 : BlkOk ["word", "sign"] (defScope s_law_is_number) { kind := .function, names := [(".0", .local), ("sign", .local)], isGenerator := false, isCoroutine := false, more := [] } [("sign", 1)] := ⟨rfl, by decide +kernel, by decide +kernel, by decide +kernel, by decide +kernel⟩
def b_law_is_number : SM := (sSeq (sIf (mOr (mNot (mTest (mChain gLe gLe (mC (.int 1)) (mCall (g1 gLen) (mCons (mVar 0) mNil)) (mC (.int 7))))) (mTest (mOp gGt (mCall (g1 gLen) (mCons (mLcS false (mVar 0) [1] (bName 1) (mTest (mOp gNotIn (mVar 1) (mC (.str "0123456789")))) (mVar 1)) mNil)) (mC (.int 0))))) (sRet (mC (.bl false))) sNext)
    (sRet (mAndV (mOrV (mOp gEq (mCall (g1 gLen) (mCons (mVar 0) mNil)) (mC (.int 1))) (mOp gNe (mOp gIx (mVar 0) (mC (.int 0))) (mC (.str "0")))) (mOp gLe (mCall (g1 gInt) (mCons (mVar 0) mNil)) (mC (.int 1000000))))))
def f_law_is_number : FM := runF 2 b_law_is_number
theorem ok_law_is_number {w : World} {K : PySem.W.Frag} {mg : Str → Option Value} {base : Heap} (kn : Kn K mg) : Has PP w K mg base 1 d_law_is_number ["word"] f_law_is_number := by
  refine has_def (k := 0) (N := ["word", "sign"]) (d := d_law_is_number) (kn.c.def_ 7 (d := d_law_is_number) rfl) sc_law_is_number fun f cdv A outer s H E hr => ?_
  delta b_law_is_number
  exact (dss_cons (ds_if (PW.pt (dw_or (dt_not (dt_chain od_le od_le de_int (de_callB cd_len rfl (kn.free 4) (by decide +kernel) (da_cons (de_var (pv 0)) da_nil)) de_int)) (dw_or1 (dt_cmp od_gt (de_callB cd_len rfl (kn.free 4) (by decide +kernel) (da_cons (de_lcS (own := [("sign", 1)]) (hm := false) rfl sc_law_is_number.nd (de_var (pv 0)) blk_law_is_number_126_38 (fun s1 H1 C1 cl1 fp1 J1 hJ1 => (dg_name (i := 1) sc_law_is_number.nd rfl (by first | exact .inl rfl | exact .inr rfl) (hJ := fun σ v S h => hJ1 σ v S 1 (by simp) h))) (fun s1 H1 C1 cl1 fp1 J1 hJ1 => (dts_one (dt_cmp od_notin (de_var (pv 1)) de_str (by with_unfolding_all rfl)))) (fun s1 H1 C1 cl1 fp1 J1 hJ1 => (de_var (pv 1)))) da_nil)) de_int (nomark _))))) (dss_one (ds_ret de_bl)) dss_nil)
    (dss_one (ds_ret (de_and (de_or (de_cmp (od_eq hr.units) (de_callB cd_len rfl (kn.free 4) (by decide +kernel) (da_cons (de_var (pv 0)) da_nil)) de_int (nomark _)) (de_and1 (by exact (de_cmp (od_ne hr.units) (de_ix (de_var (pv 0)) de_int (fun _ _ => rfl)) de_str (nomark _))))) (de_and1 (by exact (de_cmp od_le (de_callTy cd_int rfl (kn.free 5) (by decide +kernel) (da_cons (de_var (pv 0)) da_nil)) de_int (nomark _))))))))
def b_law_row : SM := (sSeq (sAsg (mBS (gSplit false) (mVar 0) (mCons (mC (.str " ")) mNil)) (bName 1))
    (sSeq (sIf (mAnd (mTest (mOp gEq (mCall (g1 gLen) (mCons (mVar 1) mNil)) (mC (.int 5)))) (mAnd (mTest (mOp gEq (mOp gIx (mVar 1) (mC (.int 1))) (mC (.str "close")))) (mTest (mOp gEq (mOp gIx (mVar 1) (mC (.int 3))) (mC (.str "to")))))) (sRet (mAndV (mFn (arity 1 f_law_is_number) [] (mCons (mOp gIx (mVar 1) (mC (.int 0))) mNil)) (mAndV (mFn (arity 1 f_law_is_name) [] (mCons (mOp gIx (mVar 1) (mC (.int 2))) mNil)) (mFn (arity 1 f_law_is_name) [] (mCons (mOp gIx (mVar 1) (mC (.int 4))) mNil))))) sNext)
    (sRet (mAndV (mOp gEq (mCall (g1 gLen) (mCons (mVar 1) mNil)) (mC (.int 3))) (mAndV (mOp gIn (mOp gIx (mVar 1) (mC (.int 1))) (mTup (mCons (mC (.str "crank")) (mCons (mC (.str "start")) mNil)))) (mAndV (mFn (arity 1 f_law_is_number) [] (mCons (mOp gIx (mVar 1) (mC (.int 0))) mNil)) (mFn (arity 1 f_law_is_name) [] (mCons (mOp gIx (mVar 1) (mC (.int 2))) mNil))))))))
def f_law_row : FM := runF 2 b_law_row
theorem ok_law_row {w : World} {K : PySem.W.Frag} {mg : Str → Option Value} {base : Heap} (kn : Kn K mg) : Has PP w K mg base 2 d_law_row ["line"] f_law_row := by
  obtain ⟨fd0, F0, O0⟩ := ok_law_is_number (w := w) (base := base) kn
  have B1 := FunD.bindsN (ps := ["word"]) F0 (fun _ _ _ _ _ _ us hl => match us, hl with | [_], _ => rfl)
  obtain ⟨fd2, F2, O2⟩ := ok_law_is_name (w := w) (base := base) kn
  have B3 := FunD.bindsN (ps := ["word"]) F2 (fun _ _ _ _ _ _ us hl => match us, hl with | [_], _ => rfl)
  refine has_def (k := 1) (N := ["line", "row"]) (d := d_law_row) (kn.c.def_ 8 (d := d_law_row) rfl) sc_law_row fun f cdv A outer s H E hr => ?_
  delta b_law_row
  exact (dss_cons (ds_set (i := 1) sc_law_row.nd rfl (by first | exact .inl rfl | exact .inr rfl) (de_bS PySem.F.plainAttrs_str PySem.F.slot_str_split PySem.F.type_str_split (ms_split false) (de_var (pv 0)) (da_cons de_str da_nil)))
    (dss_cons (ds_if (PW.pt (dw_and (dt_cmp (od_eq hr.units) (de_callB cd_len rfl (kn.free 4) (by decide +kernel) (da_cons (de_var (pv 1)) da_nil)) de_int (nomark _)) (dw_and (dt_cmp (od_eq hr.units) (de_ix (de_var (pv 1)) de_int (fun _ _ => rfl)) de_str (nomark _)) (dw_and1 (dt_cmp (od_eq hr.units) (de_ix (de_var (pv 1)) de_int (fun _ _ => rfl)) de_str (nomark _)))))) (dss_one (ds_ret (de_and (de_call (dds := []) O0 (hr.mono (by omega)) rfl (kn.glo 11) F0.kp B1 .nil (fun _ _ => rfl) tk_of (da_cons (de_ix (de_var (pv 1)) de_int (fun _ _ => rfl)) da_nil)) (de_and (de_call (dds := []) O2 (hr.mono (by omega)) rfl (kn.glo 12) F2.kp B3 .nil (fun _ _ => rfl) tk_of (da_cons (de_ix (de_var (pv 1)) de_int (fun _ _ => rfl)) da_nil)) (de_and1 (by exact (de_call (dds := []) O2 (hr.mono (by omega)) rfl (kn.glo 12) F2.kp B3 .nil (fun _ _ => rfl) tk_of (da_cons (de_ix (de_var (pv 1)) de_int (fun _ _ => rfl)) da_nil)))))))) dss_nil)
    (dss_one (ds_ret (de_and (de_cmp (od_eq hr.units) (de_callB cd_len rfl (kn.free 4) (by decide +kernel) (da_cons (de_var (pv 1)) da_nil)) de_int (nomark _)) (de_and (de_cmp od_in (de_ix (de_var (pv 1)) de_int (fun _ _ => rfl)) (de_tup (da_cons de_str (da_cons de_str da_nil))) (by with_unfolding_all rfl)) (de_and (de_call (dds := []) O0 (hr.mono (by omega)) rfl (kn.glo 11) F0.kp B1 .nil (fun _ _ => rfl) tk_of (da_cons (de_ix (de_var (pv 1)) de_int (fun _ _ => rfl)) da_nil)) (de_and1 (by exact (de_call (dds := []) O2 (hr.mono (by omega)) rfl (kn.glo 12) F2.kp B3 .nil (fun _ _ => rfl) tk_of (da_cons (de_ix (de_var (pv 1)) de_int (fun _ _ => rfl)) da_nil)))))))))))
def b_law_key : SM := (sSeq (sAsg (mBS (gSplit false) (mVar 0) (mCons (mC (.str " ")) mNil)) (bName 1))
    (sRet (mTup (mCons (mCall (g1 gInt) (mCons (mOp gIx (mVar 1) (mC (.int 0))) mNil)) (mCons (mOp gIx (mVar 1) (mC (.int 1))) (mCons (mOp gIx (mVar 1) (mC (.int 2))) mNil))))))
def f_law_key : FM := runF 2 b_law_key
theorem ok_law_key {w : World} {K : PySem.W.Frag} {mg : Str → Option Value} {base : Heap} (kn : Kn K mg) : Has PP w K mg base 1 d_law_key ["line"] f_law_key := by
  refine has_def (k := 0) (N := ["line", "row"]) (d := d_law_key) (kn.c.def_ 9 (d := d_law_key) rfl) sc_law_key fun f cdv A outer s H E hr => ?_
  delta b_law_key
  exact (dss_cons (ds_set (i := 1) sc_law_key.nd rfl (by first | exact .inl rfl | exact .inr rfl) (de_bS PySem.F.plainAttrs_str PySem.F.slot_str_split PySem.F.type_str_split (ms_split false) (de_var (pv 0)) (da_cons de_str da_nil)))
    (dss_one (ds_ret (de_tup (da_cons (de_callTy cd_int rfl (kn.free 5) (by decide +kernel) (da_cons (de_ix (de_var (pv 1)) de_int (fun _ _ => rfl)) da_nil)) (da_cons (de_ix (de_var (pv 1)) de_int (fun _ _ => rfl)) (da_cons (de_ix (de_var (pv 1)) de_int (fun _ _ => rfl)) da_nil)))))))
def b_law_due : SM := (sSeq (sIf (mTest (mOp gEq (mVar 0) (mLst false mNil))) (sRet (mC (.int 1))) sNext)
    (sSeq (sAsg (mBS (gSplit false) (mOp gIx (mVar 0) (mC (.int 0))) (mCons (mC (.str " ")) mNil)) (bName 1))
    (sSeq (sIf (mOr (mTest (mOp gNe (mCall (g1 gLen) (mCons (mVar 1) mNil)) (mC (.int 2)))) (mOr (mTest (mOp gNe (mOp gIx (mVar 1) (mC (.int 0))) (mC (.str "at")))) (mNot (mTest (mFn (arity 1 f_law_is_name) [] (mCons (mOp gIx (mVar 1) (mC (.int 1))) mNil)))))) (sRet (mC (.int 1))) sNext)
    (sSeq (sForR2 (mCons (mC (.int 1)) (mCons (mCall (g1 gLen) (mCons (mVar 0) mNil)) mNil)) (bName 2) (sIf (mOr (mNot (mTest (mFn (arity 1 f_law_row) [] (mCons (mOp gIx (mVar 0) (mVar 2)) mNil)))) (mAnd (mTest (mOp gGt (mVar 2) (mC (.int 1)))) (mTest (mOp gGeD (mFn (arity 1 f_law_key) [] (mCons (mOp gIx (mVar 0) (mOp gSub (mVar 2) (mC (.int 1)))) mNil)) (mFn (arity 1 f_law_key) [] (mCons (mOp gIx (mVar 0) (mVar 2)) mNil)))))) (sRet (mOp (gAdd false) (mVar 2) (mC (.int 1)))) sNext))
    (sRet (mC (.int 0)))))))
def f_law_due : FM := runF 3 b_law_due
theorem ok_law_due {w : World} {K : PySem.W.Frag} {mg : Str → Option Value} {base : Heap} (kn : Kn K mg) : Has PP w K mg base 3 d_law_due ["lines"] f_law_due := by
  obtain ⟨fd0, F0, O0⟩ := ok_law_is_name (w := w) (base := base) kn
  have B1 := FunD.bindsN (ps := ["word"]) F0 (fun _ _ _ _ _ _ us hl => match us, hl with | [_], _ => rfl)
  obtain ⟨fd2, F2, O2⟩ := ok_law_row (w := w) (base := base) kn
  have B3 := FunD.bindsN (ps := ["line"]) F2 (fun _ _ _ _ _ _ us hl => match us, hl with | [_], _ => rfl)
  obtain ⟨fd4, F4, O4⟩ := ok_law_key (w := w) (base := base) kn
  have B5 := FunD.bindsN (ps := ["line"]) F4 (fun _ _ _ _ _ _ us hl => match us, hl with | [_], _ => rfl)
  refine has_def (k := 2) (N := ["lines", "head", "k"]) (d := d_law_due) (kn.c.def_ 10 (d := d_law_due) rfl) sc_law_due fun f cdv A outer s H E hr => ?_
  delta b_law_due
  exact (dss_cons (ds_if (dt_cmp (od_eq hr.units) (de_var (pv 0)) (de_lst (hm := false) da_nil) (nomark _)) (dss_one (ds_ret de_int)) dss_nil)
    (dss_cons (ds_set (i := 1) sc_law_due.nd rfl (by first | exact .inl rfl | exact .inr rfl) (de_bS PySem.F.plainAttrs_str PySem.F.slot_str_split PySem.F.type_str_split (ms_split false) (de_ix (de_var (pv 0)) de_int (fun _ _ => rfl)) (da_cons de_str da_nil)))
    (dss_cons (ds_if (PW.pt (dw_or (dt_cmp (od_ne hr.units) (de_callB cd_len rfl (kn.free 4) (by decide +kernel) (da_cons (de_var (pv 1)) da_nil)) de_int (nomark _)) (dw_or (dt_cmp (od_ne hr.units) (de_ix (de_var (pv 1)) de_int (fun _ _ => rfl)) de_str (nomark _)) (dw_or1 (dt_not (dt_val (de_call (dds := []) O0 (hr.mono (by omega)) rfl (kn.glo 12) F0.kp B1 .nil (fun _ _ => rfl) tk_of (da_cons (de_ix (de_var (pv 1)) de_int (fun _ _ => rfl)) da_nil)))))))) (dss_one (ds_ret de_int)) dss_nil)
    (dss_cons (ds_forR2 own_of rfl rfl (kn.free 9) (da_cons de_int (da_cons (de_callB cd_len rfl (kn.free 4) (by decide +kernel) (da_cons (de_var (pv 0)) da_nil)) da_nil)) (dg_name (i := 2) sc_law_due.nd rfl (by first | exact .inl rfl | exact .inr rfl)) (dss_one (ds_if (PW.pt (dw_or (dt_not (dt_val (de_call (dds := []) O2 (hr.mono (by omega)) rfl (kn.glo 13) F2.kp B3 .nil (fun _ _ => rfl) tk_of (da_cons (de_ix (de_var (pv 0)) (de_var (pv 2)) (fun _ _ => rfl)) da_nil)))) (dw_or1 (PW.pt (dw_and (dt_cmp od_gt (de_var (pv 2)) de_int (nomark _)) (dw_and1 (dt_cmp (od_geD hr.units) (de_call (dds := []) O4 (hr.mono (by omega)) rfl (kn.glo 14) F4.kp B5 .nil (fun _ _ => rfl) tk_of (da_cons (de_ix (de_var (pv 0)) (de_op od_sub (de_var (pv 2)) de_int) (fun _ _ => rfl)) da_nil)) (de_call (dds := []) O4 (hr.mono (by omega)) rfl (kn.glo 14) F4.kp B5 .nil (fun _ _ => rfl) tk_of (da_cons (de_ix (de_var (pv 0)) (de_var (pv 2)) (fun _ _ => rfl)) da_nil)) (nomark _)))))))) (dss_one (ds_ret (de_op (od_add false) (de_var (pv 2)) de_int))) dss_nil)))
    (dss_one (ds_ret de_int))))))
def b_lines_of : SM := (sSeq (sIf (mTest (mOp gEq (mVar 0) (mC (.str "")))) (sRet (mLst false mNil)) sNext)
    (sSeq (sAsg (mBS (gSplit false) (mVar 0) (mCons (mC (.str "\n")) mNil)) (bName 1))
    (sSeq (sIf (mTest (mOp gNe (mOp gIx (mVar 1) (mNeg (mC (.int 1)))) (mC (.str "")))) (sRaiseX "InvalidLine" 1 x_InvalidLine (mCons (mCall (g1 gLen) (mCons (mVar 1) mNil)) mNil)) sNext)
    (sRet (mSl false (mVar 1) oNone (oSome (mNeg (mC (.int 1)))))))))
def f_lines_of : FM := runF 2 b_lines_of
theorem ok_lines_of {w : World} {K : PySem.W.Frag} {mg : Str → Option Value} {base : Heap} (kn : Kn K mg) : Has PP w K mg base 3 d_lines_of ["text"] f_lines_of := by
  have X0 := has_InvalidLine (w := w) (base := base) kn
  refine has_def (k := 2) (N := ["text", "rows"]) (d := d_lines_of) (kn.c.def_ 11 (d := d_lines_of) rfl) sc_lines_of fun f cdv A outer s H E hr => ?_
  delta b_lines_of
  exact (dss_cons (ds_if (dt_cmp (od_eq hr.units) (de_var (pv 0)) de_str (nomark _)) (dss_one (ds_ret (de_lst (hm := false) da_nil))) dss_nil)
    (dss_cons (ds_set (i := 1) sc_lines_of.nd rfl (by first | exact .inl rfl | exact .inr rfl) (de_bS PySem.F.plainAttrs_str PySem.F.slot_str_split PySem.F.type_str_split (ms_split false) (de_var (pv 0)) (da_cons de_str da_nil)))
    (dss_cons (ds_if (dt_cmp (od_ne hr.units) (de_ix (de_var (pv 1)) (de_neg de_int) (fun _ _ => rfl)) de_str (nomark _)) (dss_one (ds_raiseX rfl tk_of X0 (hr.mono (by omega)) rfl (kn.glo 15) (da_cons (de_callB cd_len rfl (kn.free 4) (by decide +kernel) (da_cons (de_var (pv 1)) da_nil)) da_nil))) dss_nil)
    (dss_one (ds_ret (de_sl (hm := false) (de_var (pv 1)) do_none (do_some (de_neg de_int))))))))
def b_words : SM := (sRet (mBS (gSplit false) (mVar 0) (mCons (mC (.str " ")) mNil)))
def f_words : FM := runF 1 b_words
theorem ok_words {w : World} {K : PySem.W.Frag} {mg : Str → Option Value} {base : Heap} (kn : Kn K mg) : N.Has PP w K mg base 1 d_words ["line"] f_words := by
  refine N.has_def (k := 0) (N := ["line"]) (d := d_words) (kn.c.def_ 12 (d := d_words) rfl) sc_words fun f cdv A outer s H E hr => ?_
  delta b_words
  exact (dss_one (ds_ret (de_bS PySem.F.plainAttrs_str PySem.F.slot_str_split PySem.F.type_str_split (ms_split false) (de_var (pv 0)) (da_cons de_str da_nil))))
def b_is_name : SM := (sSeq (sIf (mOr (mNot (mTest (mIsi "str" (mVar 0)))) (mNot (mTest (mChain gLe gLe (mC (.int 1)) (mCall (g1 gLen) (mCons (mVar 0) mNil)) (mC (.int 12)))))) (sRet (mC (.bl false))) sNext)
    (sSeq (sForS (mVar 0) (bName 1) (sIf (mTest (mOp gNotIn (mVar 1) (mC (.str "abcdefghijklmnopqrstuvwxyz")))) (sRet (mC (.bl false))) sNext))
    (sRet (mC (.bl true)))))
def f_is_name : FM := runF 2 b_is_name
theorem ok_is_name {w : World} {K : PySem.W.Frag} {mg : Str → Option Value} {base : Heap} (kn : Kn K mg) : N.Has PP w K mg base 1 d_is_name ["word"] f_is_name := by
  obtain ⟨t0, G0⟩ := kn.int 17 (z := 12)
  obtain ⟨t1, G1⟩ := kn.str 18 (z := "abcdefghijklmnopqrstuvwxyz")
  refine N.has_def (k := 0) (N := ["word", "sign"]) (d := d_is_name) (kn.c.def_ 13 (d := d_is_name) rfl) sc_is_name fun f cdv A outer s H E hr => ?_
  delta b_is_name
  exact (dss_cons (ds_if (PW.pt (dw_or (dt_not (dt_val (de_isi (T := "str") rfl (kn.free 16) (by decide +kernel) rfl (kn.free 1) (by decide +kernel) (de_var (pv 0))))) (dw_or1 (dt_not (dt_chain od_le od_le de_int (de_callB cd_len rfl (kn.free 4) (by decide +kernel) (da_cons (de_var (pv 0)) da_nil)) (de_c (pe_glob (v := .int 12) rfl G0 ⟨t0, rfl⟩) fun _ _ => rfl)))))) (dss_one (ds_ret de_bl)) dss_nil)
    (dss_cons (ds_forS own_of rfl (de_var (pv 0)) (dg_name (i := 1) sc_is_name.nd rfl (by first | exact .inl rfl | exact .inr rfl)) (dss_one (ds_if (dt_cmp od_notin (de_var (pv 1)) (de_c (pe_glob (v := .str "abcdefghijklmnopqrstuvwxyz") rfl G1 ⟨t1, rfl⟩) fun _ _ => rfl) (by with_unfolding_all rfl)) (dss_one (ds_ret de_bl)) dss_nil)))
    (dss_one (ds_ret de_bl))))
def b_checked_name : SM := (sSeq (sIf (mNot (mTest (mFn (arity 1 f_is_name) [] (mCons (mVar 0) mNil)))) (sRaise "InvalidName" (mCons (mC (.str "no name")) mNil)) sNext)
    (sRet (mVar 0)))
def f_checked_name : FM := runF 1 b_checked_name
theorem ok_checked_name {w : World} {K : PySem.W.Frag} {mg : Str → Option Value} {base : Heap} (kn : Kn K mg) : N.Has PP w K mg base 2 d_checked_name ["word"] f_checked_name := by
  obtain ⟨fd0, F0, O0⟩ := ok_is_name (w := w) (base := base) kn
  have B1 := FunD.bindsN (ps := ["word"]) F0 (fun _ _ _ _ _ _ us hl => match us, hl with | [_], _ => rfl)
  refine N.has_def (k := 1) (N := ["word"]) (d := d_checked_name) (kn.c.def_ 14 (d := d_checked_name) rfl) sc_checked_name fun f cdv A outer s H E hr => ?_
  delta b_checked_name
  exact (dss_cons (ds_if (dt_not (dt_val (N.de_call (dds := []) O0 (hr.mono (by omega)) rfl (kn.glo 19) F0.kp B1 .nil (fun _ _ => rfl) N.tk_of (da_cons (de_var (pv 0)) da_nil)))) (dss_one (N.ds_raise (c := "InvalidName") rfl N.tk_of PySem.F.excBase_ValueError (kn.exc 20).1 (kn.glo 21) (kn.exc 20).2.1 (raises_own (kn.exc 20).2.2.1 (kn.exc 20).2.2.2) rfl (da_cons de_str da_nil))) dss_nil)
    (dss_one (ds_ret (de_var (pv 0)))))
def b_is_number : SM := (sSeq (sIf (mOr (mTest (mIsi "bool" (mVar 0))) (mNot (mTest (mIsi "int" (mVar 0))))) (sRet (mC (.bl false))) sNext)
    (sRet (mChain gLe gLe (mVar 1) (mVar 0) (mVar 2))))
def f_is_number : FM := runF 3 b_is_number
theorem ok_is_number {w : World} {K : PySem.W.Frag} {mg : Str → Option Value} {base : Heap} (kn : Kn K mg) : N.Has PP w K mg base 1 d_is_number ["value", "least", "most"] f_is_number := by
  refine N.has_def (k := 0) (N := ["value", "least", "most"]) (d := d_is_number) (kn.c.def_ 15 (d := d_is_number) rfl) sc_is_number fun f cdv A outer s H E hr => ?_
  delta b_is_number
  exact (dss_cons (ds_if (PW.pt (dw_or (dt_val (de_isi (T := "bool") rfl (kn.free 16) (by decide +kernel) rfl (kn.free 22) (by decide +kernel) (de_var (pv 0)))) (dw_or1 (dt_not (dt_val (de_isi (T := "int") rfl (kn.free 16) (by decide +kernel) rfl (kn.free 5) (by decide +kernel) (de_var (pv 0)))))))) (dss_one (ds_ret de_bl)) dss_nil)
    (dss_one (ds_ret (de_chain od_le od_le (de_var (pv 1)) (de_var (pv 0)) (de_var (pv 2))))))
def b_checked_number : SM := (sSeq (sIf (mNot (mTest (mFn (arity 3 f_is_number) [] (mCons (mVar 0) (mCons (mVar 1) (mCons (mVar 2) mNil)))))) (sRaise "InvalidNumber" (mCons (mOp (gAdd false) (mOp (gAdd false) (mOp (gAdd false) (mC (.str "no number from ")) (mCall (g1 gStr) (mCons (mVar 1) mNil))) (mC (.str " to "))) (mCall (g1 gStr) (mCons (mVar 2) mNil))) mNil)) sNext)
    (sRet (mVar 0)))
def f_checked_number : FM := runF 3 b_checked_number
theorem ok_checked_number {w : World} {K : PySem.W.Frag} {mg : Str → Option Value} {base : Heap} (kn : Kn K mg) : N.Has PP w K mg base 2 d_checked_number ["value", "least", "most"] f_checked_number := by
  obtain ⟨fd0, F0, O0⟩ := ok_is_number (w := w) (base := base) kn
  obtain ⟨ds1, V1, B1⟩ := FunD.binds1 (ps := ["value", "least", "most"]) F0 3 2 (by intro z; cases z) rfl (fun T kV doc pm an cdv ct us its h1 h2 => match us, its, h1, h2 with | [_, _, _], [_, _], _, _ => ⟨_, rfl, rfl⟩)
  refine N.has_def (k := 1) (N := ["value", "least", "most"]) (d := d_checked_number) (kn.c.def_ 16 (d := d_checked_number) rfl) sc_checked_number fun f cdv A outer s H E hr => ?_
  delta b_checked_number
  exact (dss_cons (ds_if (dt_not (dt_val (N.de_call (dds := []) O0 (hr.mono (by omega)) rfl (kn.glo 23) F0.kp B1 V1 (fun _ _ => rfl) N.tk_of (da_cons (de_var (pv 0)) (da_cons (de_var (pv 1)) (da_cons (de_var (pv 2)) da_nil)))))) (dss_one (N.ds_raise (c := "InvalidNumber") rfl N.tk_of PySem.F.excBase_ValueError (kn.exc 24).1 (kn.glo 25) (kn.exc 24).2.1 (raises_own (kn.exc 24).2.2.1 (kn.exc 24).2.2.2) rfl (da_cons (de_op (od_add false) (de_op (od_add false) (de_op (od_add false) de_str (de_callTy cd_str rfl (kn.free 1) (by decide +kernel) (da_cons (de_var (pv 1)) da_nil))) de_str) (de_callTy cd_str rfl (kn.free 1) (by decide +kernel) (da_cons (de_var (pv 2)) da_nil))) da_nil))) dss_nil)
    (dss_one (ds_ret (de_var (pv 0)))))
def b_read_number : SM := (sSeq (sIf (mOr (mNot (mTest (mIsi "str" (mVar 0)))) (mNot (mTest (mChain gLe gLe (mC (.int 1)) (mCall (g1 gLen) (mCons (mVar 0) mNil)) (mC (.int 7)))))) (sRaise "InvalidNumber" (mCons (mC (.str "no number")) mNil)) sNext)
    (sSeq (sForS (mVar 0) (bName 3) (sIf (mTest (mOp gNotIn (mVar 3) (mC (.str "0123456789")))) (sRaise "InvalidNumber" (mCons (mC (.str "no number")) mNil)) sNext))
    (sSeq (sIf (mAnd (mTest (mOp gGt (mCall (g1 gLen) (mCons (mVar 0) mNil)) (mC (.int 1)))) (mTest (mOp gEq (mOp gIx (mVar 0) (mC (.int 0))) (mC (.str "0"))))) (sRaise "InvalidNumber" (mCons (mC (.str "a nought ahead")) mNil)) sNext)
    (sRet (mFn (arity 3 f_checked_number) [] (mCons (mCall (g1 gInt) (mCons (mVar 0) mNil)) (mCons (mVar 1) (mCons (mVar 2) mNil))))))))
def f_read_number : FM := runF 4 b_read_number
theorem ok_read_number {w : World} {K : PySem.W.Frag} {mg : Str → Option Value} {base : Heap} (kn : Kn K mg) : N.Has PP w K mg base 3 d_read_number ["word", "least", "most"] f_read_number := by
  obtain ⟨t0, G0⟩ := kn.str 26 (z := "0123456789")
  obtain ⟨fd1, F1, O1⟩ := ok_checked_number (w := w) (base := base) kn
  obtain ⟨ds2, V2, B2⟩ := FunD.binds1 (ps := ["value", "least", "most"]) F1 3 2 (by intro z; cases z) rfl (fun T kV doc pm an cdv ct us its h1 h2 => match us, its, h1, h2 with | [_, _, _], [_, _], _, _ => ⟨_, rfl, rfl⟩)
  refine N.has_def (k := 2) (N := ["word", "least", "most", "sign"]) (d := d_read_number) (kn.c.def_ 17 (d := d_read_number) rfl) sc_read_number fun f cdv A outer s H E hr => ?_
  delta b_read_number
  exact (dss_cons (ds_if (PW.pt (dw_or (dt_not (dt_val (de_isi (T := "str") rfl (kn.free 16) (by decide +kernel) rfl (kn.free 1) (by decide +kernel) (de_var (pv 0))))) (dw_or1 (dt_not (dt_chain od_le od_le de_int (de_callB cd_len rfl (kn.free 4) (by decide +kernel) (da_cons (de_var (pv 0)) da_nil)) de_int))))) (dss_one (N.ds_raise (c := "InvalidNumber") rfl N.tk_of PySem.F.excBase_ValueError (kn.exc 24).1 (kn.glo 25) (kn.exc 24).2.1 (raises_own (kn.exc 24).2.2.1 (kn.exc 24).2.2.2) rfl (da_cons de_str da_nil))) dss_nil)
    (dss_cons (ds_forS own_of rfl (de_var (pv 0)) (dg_name (i := 3) sc_read_number.nd rfl (by first | exact .inl rfl | exact .inr rfl)) (dss_one (ds_if (dt_cmp od_notin (de_var (pv 3)) (de_c (pe_glob (v := .str "0123456789") rfl G0 ⟨t0, rfl⟩) fun _ _ => rfl) (by with_unfolding_all rfl)) (dss_one (N.ds_raise (c := "InvalidNumber") rfl N.tk_of PySem.F.excBase_ValueError (kn.exc 24).1 (kn.glo 25) (kn.exc 24).2.1 (raises_own (kn.exc 24).2.2.1 (kn.exc 24).2.2.2) rfl (da_cons de_str da_nil))) dss_nil)))
    (dss_cons (ds_if (PW.pt (dw_and (dt_cmp od_gt (de_callB cd_len rfl (kn.free 4) (by decide +kernel) (da_cons (de_var (pv 0)) da_nil)) de_int (nomark _)) (dw_and1 (dt_cmp (od_eq hr.units) (de_ix (de_var (pv 0)) de_int (fun _ _ => rfl)) de_str (nomark _))))) (dss_one (N.ds_raise (c := "InvalidNumber") rfl N.tk_of PySem.F.excBase_ValueError (kn.exc 24).1 (kn.glo 25) (kn.exc 24).2.1 (raises_own (kn.exc 24).2.2.1 (kn.exc 24).2.2.2) rfl (da_cons de_str da_nil))) dss_nil)
    (dss_one (ds_ret (N.de_call (dds := []) O1 (hr.mono (by omega)) rfl (kn.glo 27) F1.kp B2 V2 (fun _ _ => rfl) N.tk_of (da_cons (de_callTy cd_int rfl (kn.free 5) (by decide +kernel) (da_cons (de_var (pv 0)) da_nil)) (da_cons (de_var (pv 1)) (da_cons (de_var (pv 2)) da_nil)))))))))
def b_read_row : SM := (sSeq (sIf (mAnd (mTest (mOp gEq (mCall (g1 gLen) (mCons (mVar 0) mNil)) (mC (.int 5)))) (mAnd (mTest (mOp gEq (mOp gIx (mVar 0) (mC (.int 1))) (mC (.str "close")))) (mTest (mOp gEq (mOp gIx (mVar 0) (mC (.int 3))) (mC (.str "to")))))) (sRet (mTup (mCons (mFn (arity 3 f_read_number) [.int 0, .int 1000000] (mCons (mOp gIx (mVar 0) (mC (.int 0))) mNil)) (mCons (mC (.str "close")) (mCons (mFn (arity 1 f_checked_name) [] (mCons (mOp gIx (mVar 0) (mC (.int 2))) mNil)) (mCons (mFn (arity 1 f_checked_name) [] (mCons (mOp gIx (mVar 0) (mC (.int 4))) mNil)) mNil)))))) sNext)
    (sSeq (sIf (mAnd (mTest (mOp gEq (mCall (g1 gLen) (mCons (mVar 0) mNil)) (mC (.int 3)))) (mTest (mOp gIn (mOp gIx (mVar 0) (mC (.int 1))) (mTup (mCons (mC (.str "crank")) (mCons (mC (.str "start")) mNil)))))) (sRet (mTup (mCons (mFn (arity 3 f_read_number) [.int 0, .int 1000000] (mCons (mOp gIx (mVar 0) (mC (.int 0))) mNil)) (mCons (mOp gIx (mVar 0) (mC (.int 1))) (mCons (mFn (arity 1 f_checked_name) [] (mCons (mOp gIx (mVar 0) (mC (.int 2))) mNil)) (mCons (mC .non) mNil)))))) sNext)
    (sRet (mC .non))))
def f_read_row : FM := runF 1 b_read_row
theorem ok_read_row {w : World} {K : PySem.W.Frag} {mg : Str → Option Value} {base : Heap} (kn : Kn K mg) : N.Has PP w K mg base 4 d_read_row ["row"] f_read_row := by
  obtain ⟨fd0, F0, O0⟩ := ok_checked_name (w := w) (base := base) kn
  have B1 := FunD.bindsN (ps := ["word"]) F0 (fun _ _ _ _ _ _ us hl => match us, hl with | [_], _ => rfl)
  obtain ⟨fd2, F2, O2⟩ := ok_read_number (w := w) (base := base) kn
  obtain ⟨ds3, V3, B3⟩ := FunD.binds1 (ps := ["word", "least", "most"]) F2 1 0 (by intro z; cases z) rfl (fun T kV doc pm an cdv ct us its h1 h2 => match us, its, h1, h2 with | [_], [_, _], _, _ => ⟨_, rfl, rfl⟩)
  refine N.has_def (k := 3) (N := ["row"]) (d := d_read_row) (kn.c.def_ 18 (d := d_read_row) rfl) sc_read_row fun f cdv A outer s H E hr => ?_
  delta b_read_row
  exact (dss_cons (ds_if (PW.pt (dw_and (dt_cmp (od_eq hr.units) (de_callB cd_len rfl (kn.free 4) (by decide +kernel) (da_cons (de_var (pv 0)) da_nil)) de_int (nomark _)) (dw_and (dt_cmp (od_eq hr.units) (de_ix (de_var (pv 0)) de_int (fun _ _ => rfl)) de_str (nomark _)) (dw_and1 (dt_cmp (od_eq hr.units) (de_ix (de_var (pv 0)) de_int (fun _ _ => rfl)) de_str (nomark _)))))) (dss_one (ds_ret (de_tup (da_cons (N.de_call (dds := [.int 0, .int 1000000]) O2 (hr.mono (by omega)) rfl (kn.glo 29) F2.kp B3 V3 (fun _ _ => ⟨_, _, rfl, rfl, ⟨_, _, rfl, rfl, rfl⟩⟩) N.tk_of (da_cons (de_ix (de_var (pv 0)) de_int (fun _ _ => rfl)) da_nil)) (da_cons de_str (da_cons (N.de_call (dds := []) O0 (hr.mono (by omega)) rfl (kn.glo 28) F0.kp B1 .nil (fun _ _ => rfl) N.tk_of (da_cons (de_ix (de_var (pv 0)) de_int (fun _ _ => rfl)) da_nil)) (da_cons (N.de_call (dds := []) O0 (hr.mono (by omega)) rfl (kn.glo 28) F0.kp B1 .nil (fun _ _ => rfl) N.tk_of (da_cons (de_ix (de_var (pv 0)) de_int (fun _ _ => rfl)) da_nil)) da_nil))))))) dss_nil)
    (dss_cons (ds_if (PW.pt (dw_and (dt_cmp (od_eq hr.units) (de_callB cd_len rfl (kn.free 4) (by decide +kernel) (da_cons (de_var (pv 0)) da_nil)) de_int (nomark _)) (dw_and1 (dt_cmp od_in (de_ix (de_var (pv 0)) de_int (fun _ _ => rfl)) (de_tup (da_cons de_str (da_cons de_str da_nil))) (by with_unfolding_all rfl))))) (dss_one (ds_ret (de_tup (da_cons (N.de_call (dds := [.int 0, .int 1000000]) O2 (hr.mono (by omega)) rfl (kn.glo 29) F2.kp B3 V3 (fun _ _ => ⟨_, _, rfl, rfl, ⟨_, _, rfl, rfl, rfl⟩⟩) N.tk_of (da_cons (de_ix (de_var (pv 0)) de_int (fun _ _ => rfl)) da_nil)) (da_cons (de_ix (de_var (pv 0)) de_int (fun _ _ => rfl)) (da_cons (N.de_call (dds := []) O0 (hr.mono (by omega)) rfl (kn.glo 28) F0.kp B1 .nil (fun _ _ => rfl) N.tk_of (da_cons (de_ix (de_var (pv 0)) de_int (fun _ _ => rfl)) da_nil)) (da_cons de_non da_nil))))))) dss_nil)
    (dss_one (ds_ret de_non))))
def sub_parse_sheet_75 (nm : Str) : Option Bool := if nm = "InvalidName" then some true else if nm = "InvalidNumber" then some true else if nm = "InvalidLine" then some true else none
theorem subok_parse_sheet_75 {K : PySem.W.Frag} {mg : Str → Option Value} (kn : Kn K mg) (nm : Str) (b : Bool) (z : sub_parse_sheet_75 nm = some b) : PySem.W.exmOne K (.ref (He.ga K nm)) (.ref (He.ga K "RiseError")) = some b := by
  unfold sub_parse_sheet_75 at z
  split at z
  · rename_i e; cases z; rw [e]; exact kn.exm 32
  split at z
  · rename_i e; cases z; rw [e]; exact kn.exm 33
  split at z
  · rename_i e; cases z; rw [e]; exact kn.exm 34
  cases z
def b_parse_sheet : SM := (sSeq (sAsg (mFn (arity 1 f_lines_of) [] (mCons (mVar 0) mNil)) (bName 1))
    (sSeq (sAsg (mLst true mNil) (bName 2))
    (sSeq (sAsg (mC .non) (bName 3))
    (sSeq (sForR1 (mCons (mCall (g1 gLen) (mCons (mVar 1) mNil)) mNil) (bName 4) (sSeq (sAsg (mFn (arity 1 f_words) [] (mCons (mOp gIx (mVar 1) (mVar 4)) mNil)) (bName 5))
    (sSeq (sAsg (mC .non) (bName 6))
    (sSeq (sTryEN sub_parse_sheet_75 (sIf (mAnd (mTest (mOp gEq (mVar 4) (mC (.int 0)))) (mAnd (mTest (mOp gEq (mCall (g1 gLen) (mCons (mVar 5) mNil)) (mC (.int 2)))) (mTest (mOp gEq (mOp gIx (mVar 5) (mC (.int 0))) (mC (.str "at")))))) (sAsg (mFn (arity 1 f_checked_name) [] (mCons (mOp gIx (mVar 5) (mC (.int 1))) mNil)) (bName 3)) (sIf (mTest (mOp gGt (mVar 4) (mC (.int 0)))) (sAsg (mFn (arity 1 f_read_row) [] (mCons (mVar 5) mNil)) (bName 6)) sNext)) (fun y => if y.cls = "InvalidName" then (sRaiseX "InvalidLine" 1 x_InvalidLine (mCons (mOp (gAdd false) (mVar 4) (mC (.int 1))) mNil)) else if y.cls = "InvalidNumber" then (sRaiseX "InvalidLine" 1 x_InvalidLine (mCons (mOp (gAdd false) (mVar 4) (mC (.int 1))) mNil)) else if y.cls = "InvalidLine" then (sRaiseX "InvalidLine" 1 x_InvalidLine (mCons (mOp (gAdd false) (mVar 4) (mC (.int 1))) mNil)) else fun _ _ => .bad))
    (sSeq (sIf (mOr (mAnd (mTest (mOp gEq (mVar 4) (mC (.int 0)))) (mTest (mOp gIs (mVar 3) (mC .non)))) (mAnd (mTest (mOp gGt (mVar 4) (mC (.int 0)))) (mTest (mOp gIs (mVar 6) (mC .non))))) (sRaiseX "InvalidLine" 1 x_InvalidLine (mCons (mOp (gAdd false) (mVar 4) (mC (.int 1))) mNil)) sNext)
    (sIf (mTest (mOp gGt (mVar 4) (mC (.int 0)))) (sSeq (sIf (mAnd (mTru (mVar 2)) (mTest (mOp gGeD (mSl false (mOp gIx (mVar 2) (mNeg (mC (.int 1)))) oNone (oSome (mC (.int 3)))) (mSl false (mVar 6) oNone (oSome (mC (.int 3))))))) (sRaiseX "InvalidLine" 1 x_InvalidLine (mCons (mOp (gAdd false) (mVar 4) (mC (.int 1))) mNil)) sNext)
    (sDrop (mApp (mVar 2) (mVar 6)))) sNext))))))
    (sSeq (sIf (mTest (mOp gIs (mVar 3) (mC .non))) (sRaiseX "InvalidLine" 1 x_InvalidLine (mCons (mC (.int 1)) mNil)) sNext)
    (sRet (mTup (mCons (mVar 3) (mCons (mVar 2) mNil)))))))))
def f_parse_sheet : FM := runF 7 b_parse_sheet
theorem ok_parse_sheet {w : World} {K : PySem.W.Frag} {mg : Str → Option Value} {base : Heap} (kn : Kn K mg) : Has PP w K mg base 5 d_parse_sheet ["text"] f_parse_sheet := by
  obtain ⟨fd0, F0, O0⟩ := ok_lines_of (w := w) (base := base) kn
  have B1 := FunD.bindsN (ps := ["text"]) F0 (fun _ _ _ _ _ _ us hl => match us, hl with | [_], _ => rfl)
  obtain ⟨fd2, F2, O2⟩ := has_weak (ok_words (w := w) (base := base) kn)
  have B3 := FunD.bindsN (ps := ["line"]) F2 (fun _ _ _ _ _ _ us hl => match us, hl with | [_], _ => rfl)
  obtain ⟨fd4, F4, O4⟩ := ok_checked_name (w := w) (base := base) kn
  have B5 := FunD.bindsN (ps := ["word"]) F4 (fun _ _ _ _ _ _ us hl => match us, hl with | [_], _ => rfl)
  obtain ⟨fd6, F6, O6⟩ := ok_read_row (w := w) (base := base) kn
  have B7 := FunD.bindsN (ps := ["row"]) F6 (fun _ _ _ _ _ _ us hl => match us, hl with | [_], _ => rfl)
  have X8 := hasH_InvalidLine (w := w) (base := base) kn
  have X9 := has_InvalidLine (w := w) (base := base) kn
  refine has_def (k := 4) (N := ["text", "lines", "found", "station", "at", "row", "read"]) (d := d_parse_sheet) (kn.c.def_ 19 (d := d_parse_sheet) rfl) sc_parse_sheet fun f cdv A outer s H E hr => ?_
  delta b_parse_sheet
  exact (dss_cons (ds_set (i := 1) sc_parse_sheet.nd rfl (by first | exact .inl rfl | exact .inr rfl) (de_call (dds := []) O0 (hr.mono (by omega)) rfl (kn.glo 30) F0.kp B1 .nil (fun _ _ => rfl) tk_of (da_cons (de_var (pv 0)) da_nil)))
    (dss_cons (ds_set (i := 2) sc_parse_sheet.nd rfl (by first | exact .inl rfl | exact .inr rfl) (de_lst (hm := true) da_nil))
    (dss_cons (ds_set (i := 3) sc_parse_sheet.nd rfl (by first | exact .inl rfl | exact .inr rfl) de_non)
    (dss_cons (ds_forR1 own_of rfl rfl (kn.free 9) (da_cons (de_callB cd_len rfl (kn.free 4) (by decide +kernel) (da_cons (de_var (pv 1)) da_nil)) da_nil) (dg_name (i := 4) sc_parse_sheet.nd rfl (by first | exact .inl rfl | exact .inr rfl)) (dss_cons (ds_set (i := 5) sc_parse_sheet.nd rfl (by first | exact .inl rfl | exact .inr rfl) (de_call (dds := []) O2 (hr.mono (by omega)) rfl (kn.glo 31) F2.kp B3 .nil (fun _ _ => rfl) tk_of (da_cons (de_ix (de_var (pv 1)) (de_var (pv 4)) (fun _ _ => rfl)) da_nil)))
    (dss_cons (ds_set (i := 6) sc_parse_sheet.nd rfl (by first | exact .inl rfl | exact .inr rfl) de_non)
    (dss_cons (ds_tryEN (cv := (.ref (He.ga K "RiseError"))) rfl rfl (⟨rfl, by decide, .inl (kn.glo 35)⟩) (fun hd => L2H.passesAt_of rfl hd) tk_of (subok_parse_sheet_75 kn) (fun W1 pn1 xe1 tk1 own1 => (dss_one (ds_if (PW.pt (dw_and (dt_cmp (od_eq hr.units) (de_var (pv 4)) de_int (nomark _)) (dw_and (dt_cmp (od_eq hr.units) (de_callB cd_len rfl (kn.free 4) (by decide +kernel) (da_cons (de_var (pv 5)) da_nil)) de_int (nomark _)) (dw_and1 (dt_cmp (od_eq hr.units) (de_ix (de_var (pv 5)) de_int (fun _ _ => rfl)) de_str (nomark _)))))) (dss_one (ds_set (i := 3) sc_parse_sheet.nd rfl (by first | exact .inl rfl | exact .inr rfl) (N.de_call (dds := []) O4 (hr.mono (by omega)) rfl (kn.glo 28) F4.kp B5 .nil (fun _ _ => rfl) tk1 (da_cons (de_ix (de_var (pv 5)) de_int (fun _ _ => rfl)) da_nil)))) (dss_one (ds_if (dt_cmp od_gt (de_var (pv 4)) de_int (nomark _)) (dss_one (ds_set (i := 6) sc_parse_sheet.nd rfl (by first | exact .inl rfl | exact .inr rfl) (N.de_call (dds := []) O6 (hr.mono (by omega)) rfl (kn.glo 36) F6.kp B7 .nil (fun _ _ => rfl) tk1 (da_cons (de_var (pv 5)) da_nil)))) dss_nil))))) (fun ⟨yc, yf⟩ a od oe pn hc hz hf tkS hotS => by
      replace hc : sub_parse_sheet_75 yc = some true := hc
      unfold sub_parse_sheet_75 at hc
      split at hc
      · rename_i e; subst e; show PSs _ _ (tS _ _ _ _ (sRaiseX "InvalidLine" 1 x_InvalidLine (mCons (mOp (gAdd false) (mVar 4) (mC (.int 1))) mNil))); exact (dss_one (ds_raiseXH hotS tkS X8 (L2H.roomH_mark (hr.mono (by omega)) _) rfl (kn.glo 15) (da_cons (de_op (od_add false) (de_var (pv 4)) de_int) da_nil)))
      split at hc
      · rename_i e; subst e; show PSs _ _ (tS _ _ _ _ (sRaiseX "InvalidLine" 1 x_InvalidLine (mCons (mOp (gAdd false) (mVar 4) (mC (.int 1))) mNil))); exact (dss_one (ds_raiseXH hotS tkS X8 (L2H.roomH_mark (hr.mono (by omega)) _) rfl (kn.glo 15) (da_cons (de_op (od_add false) (de_var (pv 4)) de_int) da_nil)))
      split at hc
      · rename_i e; subst e; show PSs _ _ (tS _ _ _ _ (sRaiseX "InvalidLine" 1 x_InvalidLine (mCons (mOp (gAdd false) (mVar 4) (mC (.int 1))) mNil))); exact (dss_one (ds_raiseXH hotS tkS X8 (L2H.roomH_mark (hr.mono (by omega)) _) rfl (kn.glo 15) (da_cons (de_op (od_add false) (de_var (pv 4)) de_int) da_nil)))
      cases hc))
    (dss_cons (ds_if (PW.pt (dw_or (PW.pt (dw_and (dt_cmp (od_eq hr.units) (de_var (pv 4)) de_int (nomark _)) (dw_and1 (dt_cmp od_is (de_var (pv 3)) de_non (nomark _))))) (dw_or1 (PW.pt (dw_and (dt_cmp od_gt (de_var (pv 4)) de_int (nomark _)) (dw_and1 (dt_cmp od_is (de_var (pv 6)) de_non (nomark _)))))))) (dss_one (ds_raiseX rfl tk_of X9 (hr.mono (by omega)) rfl (kn.glo 15) (da_cons (de_op (od_add false) (de_var (pv 4)) de_int) da_nil))) dss_nil)
    (dss_one (ds_if (dt_cmp od_gt (de_var (pv 4)) de_int (nomark _)) (dss_cons (ds_if (PW.pt (dw_and (dt_truth (de_var (pv 2))) (dw_and1 (dt_cmp (od_geD hr.units) (de_sl (hm := false) (de_ix (de_var (pv 2)) (de_neg de_int) (fun _ _ => rfl)) do_none (do_some de_int)) (de_sl (hm := false) (de_var (pv 6)) do_none (do_some de_int)) (nomark _))))) (dss_one (ds_raiseX rfl tk_of X9 (hr.mono (by omega)) rfl (kn.glo 15) (da_cons (de_op (od_add false) (de_var (pv 4)) de_int) da_nil))) dss_nil)
    (dss_one (ds_expr (de_app (de_var (pv 2)) (de_var (pv 6)))))) dss_nil)))))))
    (dss_cons (ds_if (dt_cmp od_is (de_var (pv 3)) de_non (nomark _)) (dss_one (ds_raiseX rfl tk_of X9 (hr.mono (by omega)) rfl (kn.glo 15) (da_cons de_int da_nil))) dss_nil)
    (dss_one (ds_ret (de_tup (da_cons (de_var (pv 3)) (da_cons (de_var (pv 2)) da_nil))))))))))
def sub_law_read_166 (nm : Str) : Option Bool := if nm = "InvalidName" then some false else if nm = "InvalidNumber" then some false else if nm = "InvalidLine" then some true else none
theorem subok_law_read_166 {K : PySem.W.Frag} {mg : Str → Option Value} (kn : Kn K mg) (nm : Str) (b : Bool) (z : sub_law_read_166 nm = some b) : PySem.W.exmOne K (.ref (He.ga K nm)) (.ref (He.ga K "InvalidLine")) = some b := by
  unfold sub_law_read_166 at z
  split at z
  · rename_i e; cases z; rw [e]; exact kn.exm 37
  split at z
  · rename_i e; cases z; rw [e]; exact kn.exm 38
  split at z
  · rename_i e; cases z; rw [e]; exact kn.exm 39
  cases z
def b_law_read : SM := (sTryE sub_law_read_166 (some 1) (sRet (mFn (arity 1 f_parse_sheet) [] (mCons (mVar 0) mNil))) (fun y => if y.cls = "InvalidLine" then (sRet (mLst false (mCons (mXf y "line") mNil))) else fun _ _ => .bad))
def f_law_read : FM := runF 2 b_law_read
theorem ok_law_read {w : World} {K : PySem.W.Frag} {mg : Str → Option Value} {base : Heap} (kn : Kn K mg) : Has PP w K mg base 6 d_law_read ["text"] f_law_read := by
  obtain ⟨fd0, F0, O0⟩ := ok_parse_sheet (w := w) (base := base) kn
  have B1 := FunD.bindsN (ps := ["text"]) F0 (fun _ _ _ _ _ _ us hl => match us, hl with | [_], _ => rfl)
  refine has_def (k := 5) (N := ["text", "e"]) (d := d_law_read) (kn.c.def_ 20 (d := d_law_read) rfl) sc_law_read fun f cdv A outer s H E hr => ?_
  delta b_law_read
  exact (dss_one (ds_tryE_as (i := 1) (cv := (.ref (He.ga K "InvalidLine"))) rfl rfl sc_law_read.nd rfl rfl (⟨rfl, by decide, .inl (kn.glo 15)⟩) tk_of (subok_law_read_166 kn) (fun W1 pn1 xe1 tk1 own1 => (dss_one (ds_ret (de_call (dds := []) O0 (hr.mono (by omega)) rfl (kn.glo 40) F0.kp B1 .nil (fun _ _ => rfl) tk1 (da_cons (de_var (pv 0)) da_nil))))) (fun ⟨yc, yf⟩ a od oe pn hc hz hf => by
      replace hc : sub_law_read_166 yc = some true := hc
      unfold sub_law_read_166 at hc
      split at hc
      · cases hc
      split at hc
      · cases hc
      split at hc
      · rename_i e; subst e; show PSs _ _ (tS _ _ _ _ (sRet (mLst false (mCons (mXf (⟨"InvalidLine", yf⟩ : Exn) "line") mNil)))); exact (dss_one (ds_ret (de_lst (hm := false) (da_cons (de_xf (xf_of (fx_exc (fx_at kn.x 0))) (kn.noat 3) hz hf (pv 1)) da_nil))))
      cases hc)))
def b_law_spoilt : SM := (sSeq (sAsg (mFn (arity 2 f_law_take) [] (mCons (mVar 0) (mCons (mCall (g1 gLen) (mCons (mVar 1) mNil)) mNil))) (bName 2))
    (sSeq (sAsg (mOp gIx (mVar 1) (mVar 2)) (bName 3))
    (sSeq (sAsg (mLst false (mCons (mC (.str "")) (mCons (mC (.str "at Ash")) (mCons (mC (.str "at")) (mCons (mC (.str "5 close la to")) (mCons (mC (.str "5 close la at ash")) (mCons (mC (.str "05 crank pa")) (mCons (mC (.str "5 crank p-a")) (mCons (mC (.str "5 stop pa")) (mCons (mC (.str "1000001 start pa")) mNil)))))))))) (bName 4))
    (sSeq (sAsg (mFn (arity 2 f_law_take) [] (mCons (mVar 0) (mCons (mC (.int 14)) mNil))) (bName 5))
    (sSeq (sIf (mTest (mOp gLt (mVar 5) (mC (.int 9)))) (sAsg (mOp gIx (mVar 4) (mVar 5)) (bName 3)) (sIf (mTest (mOp gEq (mVar 5) (mC (.int 9)))) (sAsg (mOp (gAdd false) (mVar 3) (mC (.str " x"))) (bName 3)) (sIf (mTest (mOp gEq (mVar 5) (mC (.int 10)))) (sAsg (mRepl " " "  " (mVar 3)) (bName 3)) (sIf (mTest (mOp gEq (mVar 5) (mC (.int 11)))) (sRet (mOp (gAdd false) (mOp (gAdd false) (mSl false (mVar 1) oNone (oSome (mVar 2))) (mLst false (mCons (mVar 3) mNil))) (mSl false (mVar 1) (oSome (mVar 2)) oNone))) (sIf (mTest (mOp gEq (mVar 5) (mC (.int 12)))) (sRet (mOp (gAdd false) (mSl false (mVar 1) oNone (oSome (mVar 2))) (mSl false (mVar 1) (oSome (mOp (gAdd false) (mVar 2) (mC (.int 1)))) oNone))) (sAsg (mC (.str "0 crank a")) (bName 3)))))))
    (sRet (mOp (gAdd false) (mOp (gAdd false) (mSl false (mVar 1) oNone (oSome (mVar 2))) (mLst false (mCons (mVar 3) mNil))) (mSl false (mVar 1) (oSome (mOp (gAdd false) (mVar 2) (mC (.int 1)))) oNone))))))))
def f_law_spoilt : FM := runF 6 b_law_spoilt
theorem ok_law_spoilt {w : World} {K : PySem.W.Frag} {mg : Str → Option Value} {base : Heap} (kn : Kn K mg) : Has PP w K mg base 3 d_law_spoilt ["draw", "lines"] f_law_spoilt := by
  obtain ⟨fd0, F0, O0⟩ := ok_law_take (w := w) (base := base) kn
  have B1 := FunD.bindsN (ps := ["state", "limit"]) F0 (fun _ _ _ _ _ _ us hl => match us, hl with | [_, _], _ => rfl)
  refine has_def (k := 2) (N := ["draw", "lines", "at", "line", "fixed", "pick"]) (d := d_law_spoilt) (kn.c.def_ 21 (d := d_law_spoilt) rfl) sc_law_spoilt fun f cdv A outer s H E hr => ?_
  delta b_law_spoilt
  exact (dss_cons (ds_set (i := 2) sc_law_spoilt.nd rfl (by first | exact .inl rfl | exact .inr rfl) (de_call (dds := []) O0 (hr.mono (by omega)) rfl (kn.glo 8) F0.kp B1 .nil (fun _ _ => rfl) tk_of (da_cons (de_var (pv 0)) (da_cons (de_callB cd_len rfl (kn.free 4) (by decide +kernel) (da_cons (de_var (pv 1)) da_nil)) da_nil))))
    (dss_cons (ds_set (i := 3) sc_law_spoilt.nd rfl (by first | exact .inl rfl | exact .inr rfl) (de_ix (de_var (pv 1)) (de_var (pv 2)) (fun _ _ => rfl)))
    (dss_lstT (hm := false) (i := 4) sc_law_spoilt.nd rfl (by first | exact .inl rfl | exact .inr rfl) (da_cons de_str (da_cons de_str (da_cons de_str (da_cons de_str (da_cons de_str (da_cons de_str (da_cons de_str (da_cons de_str da_nil))))))))
    (dsst_cons (dst_of (ds_set (i := 5) sc_law_spoilt.nd rfl (by first | exact .inl rfl | exact .inr rfl) (de_call (dds := []) O0 (hr.mono (by omega)) rfl (kn.glo 8) F0.kp B1 .nil (fun _ _ => rfl) tk_of (da_cons (de_var (pv 0)) (da_cons de_int da_nil)))))
    (dsst_cons (dst_ifP (dt_cmp od_lt (de_var (pv 5)) de_int (nomark _)) (dsst_of (dss_one (ds_set (i := 3) sc_law_spoilt.nd rfl (by first | exact .inl rfl | exact .inr rfl) (de_ix (de_var (pv 4)) (de_var (pv 5)) (fun _ _ => rfl))))) (dsst_one (dst_ifP (dt_cmp (od_eq hr.units) (de_var (pv 5)) de_int (nomark _)) (dsst_of (dss_one (ds_set (i := 3) sc_law_spoilt.nd rfl (by first | exact .inl rfl | exact .inr rfl) (de_op (od_add false) (de_var (pv 3)) de_str)))) (dsst_one (dst_ifP (dt_cmp (od_eq hr.units) (de_var (pv 5)) de_int (nomark _)) (dsst_one (dst_set (i := 3) sc_law_spoilt.nd rfl (by first | exact .inl rfl | exact .inr rfl) (det_repl (de_var (pv 3)) (y := " ") (z := "  ")))) (dsst_of (dss_one (ds_if (dt_cmp (od_eq hr.units) (de_var (pv 5)) de_int (nomark _)) (dss_one (ds_ret (de_op (od_add false) (de_op (od_add false) (de_sl (hm := false) (de_var (pv 1)) do_none (do_some (de_var (pv 2)))) (de_lst (hm := false) (da_cons (de_var (pv 3)) da_nil))) (de_sl (hm := false) (de_var (pv 1)) (do_some (de_var (pv 2))) do_none)))) (dss_one (ds_if (dt_cmp (od_eq hr.units) (de_var (pv 5)) de_int (nomark _)) (dss_one (ds_ret (de_op (od_add false) (de_sl (hm := false) (de_var (pv 1)) do_none (do_some (de_var (pv 2)))) (de_sl (hm := false) (de_var (pv 1)) (do_some (de_op (od_add false) (de_var (pv 2)) de_int)) do_none)))) (dss_one (ds_set (i := 3) sc_law_spoilt.nd rfl (by first | exact .inl rfl | exact .inr rfl) de_str))))))))))))
    (dsst_one (dst_of (ds_ret (de_op (od_add false) (de_op (od_add false) (de_sl (hm := false) (de_var (pv 1)) do_none (do_some (de_var (pv 2)))) (de_lst (hm := false) (da_cons (de_var (pv 3)) da_nil))) (de_sl (hm := false) (de_var (pv 1)) (do_some (de_op (od_add false) (de_var (pv 2)) de_int)) do_none))))))))))
theorem blk_law_176_23 : BlkOk ["script", "draw", "station", "rows", "lines", "text", "k", "spoilt", "due", "found", "line"] (defScope s_law) { kind := .function, names := [(".0", .local), ("line", .local)], isGenerator := false, isCoroutine := false, more := [] } [("line", 10)] := ⟨rfl, by decide +kernel, by decide +kernel, by decide +kernel, by decide +kernel⟩
theorem blk_law_181_25 : BlkOk ["script", "draw", "station", "rows", "lines", "text", "k", "spoilt", "due", "found", "line"] (defScope s_law) { kind := .function, names := [(".0", .local), ("line", .local)], isGenerator := false, isCoroutine := false, more := [] } [("line", 10)] := ⟨rfl, by decide +kernel, by decide +kernel, by decide +kernel, by decide +kernel⟩
def b_law : SM := (sSeq (sAsg (mLst true (mCons (mVar 0) (mCons (mC (.int 0)) (mCons (mC (.int 0)) mNil)))) (bName 1))
    (sSeq (sAsg (mOp gIx (mLst false (mCons (mC (.str "ash")) (mCons (mC (.str "bay")) (mCons (mC (.str "abcdefghijkl")) mNil)))) (mFn (arity 2 f_law_take) [] (mCons (mVar 1) (mCons (mC (.int 3)) mNil)))) (bName 2))
    (sSeq (sAsg (mFn (arity 1 f_law_rows) [] (mCons (mVar 1) mNil)) (bName 3))
    (sSeq (sAsg (mFn (arity 2 f_law_lines) [] (mCons (mVar 2) (mCons (mVar 3) mNil))) (bName 4))
    (sSeq (sAsg (mFn (arity 2 f_format_sheet) [] (mCons (mVar 2) (mCons (mCall (g1 (gList false)) (mCons (mVar 3) mNil)) mNil))) (bName 5))
    (sSeq (sIf (mOr (mTest (mOp gNe (mVar 5) (mBS (gJoin) (mC (.str "")) (mCons (mLcL false (mVar 4) [10] (bName 10) mYes (mOp (gAdd false) (mVar 10) (mC (.str "\n")))) mNil)))) (mTest (mOp gNe (mFn (arity 1 f_law_read) [] (mCons (mVar 5) mNil)) (mTup (mCons (mVar 2) (mCons (mVar 3) mNil)))))) (sRet (mC (.bl false))) sNext)
    (sSeq (sForR1 (mCons (mC (.int 2)) mNil) (bName 6) (sSeq (sIf (mTest (mOp gNe (mVar 4) (mLst false mNil))) (sAsg (mFn (arity 2 f_law_spoilt) [] (mCons (mVar 1) (mCons (mVar 4) mNil))) (bName 4)) sNext)
    (sSeq (sAsg (mBS (gJoin) (mC (.str "")) (mCons (mLcL false (mVar 4) [10] (bName 10) mYes (mOp (gAdd false) (mVar 10) (mC (.str "\n")))) mNil)) (bName 7))
    (sSeq (sAsg (mFn (arity 1 f_law_due) [] (mCons (mVar 4) mNil)) (bName 8))
    (sSeq (sAsg (mFn (arity 1 f_law_read) [] (mCons (mVar 7) mNil)) (bName 9))
    (sIf (mOr (mAnd (mTest (mOp gGt (mVar 8) (mC (.int 0)))) (mTest (mOp gNe (mVar 9) (mLst false (mCons (mVar 8) mNil))))) (mAnd (mTest (mOp gEq (mVar 8) (mC (.int 0)))) (mOr (mTest (mIsi "list" (mVar 9))) (mTest (mOp gNe (mFn (arity 2 f_format_sheet) [] (mCons (mOp gIx (mVar 9) (mC (.int 0))) (mCons (mOp gIx (mVar 9) (mC (.int 1))) mNil))) (mVar 7)))))) (sRet (mC (.bl false))) sNext))))))
    (sRet (mAndV (mOp gEq (mFn (arity 1 f_law_read) [] (mCons (mSl false (mVar 5) oNone (oSome (mNeg (mC (.int 1))))) mNil)) (mLst false (mCons (mOp (gAdd false) (mCall (g1 gLen) (mCons (mVar 3) mNil)) (mC (.int 1))) mNil))) (mOp gEq (mFn (arity 1 f_law_read) [] (mCons (mC (.str "")) mNil)) (mLst false (mCons (mC (.int 1)) mNil))))))))))))
def f_law : FM := runF 11 b_law
theorem ok_law {w : World} {K : PySem.W.Frag} {mg : Str → Option Value} {base : Heap} (kn : Kn K mg) : ∃ fd, FunD K "law" "law" (defArgs s_law) (defBody s_law) (defScope s_law) [] [] (He.ga K "law") fd ∧ FnOk PP w K mg base CX0 7 (He.ga K "law") fd ["script"] (spLaw K f_law) := by
  obtain ⟨fd0, F0, O0⟩ := ok_law_take (w := w) (base := base) kn
  have B1 := FunD.bindsN (ps := ["state", "limit"]) F0 (fun _ _ _ _ _ _ us hl => match us, hl with | [_, _], _ => rfl)
  obtain ⟨fd2, F2, O2⟩ := ok_law_rows (w := w) (base := base) kn
  have B3 := FunD.bindsN (ps := ["draw"]) F2 (fun _ _ _ _ _ _ us hl => match us, hl with | [_], _ => rfl)
  obtain ⟨fd4, F4, O4⟩ := ok_law_lines (w := w) (base := base) kn
  have B5 := FunD.bindsN (ps := ["station", "rows"]) F4 (fun _ _ _ _ _ _ us hl => match us, hl with | [_, _], _ => rfl)
  obtain ⟨fd6, F6, O6⟩ := ok_format_sheet (w := w) (base := base) kn
  have B7 := FunD.bindsN (ps := ["station", "rows"]) F6 (fun _ _ _ _ _ _ us hl => match us, hl with | [_, _], _ => rfl)
  obtain ⟨fd8, F8, O8⟩ := ok_law_read (w := w) (base := base) kn
  have B9 := FunD.bindsN (ps := ["text"]) F8 (fun _ _ _ _ _ _ us hl => match us, hl with | [_], _ => rfl)
  obtain ⟨fd10, F10, O10⟩ := ok_law_spoilt (w := w) (base := base) kn
  have B11 := FunD.bindsN (ps := ["draw", "lines"]) F10 (fun _ _ _ _ _ _ us hl => match us, hl with | [_, _], _ => rfl)
  obtain ⟨fd12, F12, O12⟩ := ok_law_due (w := w) (base := base) kn
  have B13 := FunD.bindsN (ps := ["lines"]) F12 (fun _ _ _ _ _ _ us hl => match us, hl with | [_], _ => rfl)
  obtain ⟨fd, F⟩ := kn.c.def_ 22 (d := d_law) rfl
  refine ⟨fd, F, law_def (ad := He.ga K) (k := 6) (N := ["script", "draw", "station", "rows", "lines", "text", "k", "spoilt", "due", "found", "line"]) F sc_law fun cdv A outer s H E hr => ?_⟩
  delta b_law
  exact (dss_cons (ds_set (i := 1) sc_law.nd rfl (by first | exact .inl rfl | exact .inr rfl) (de_lst (hm := true) (da_cons (de_var (pv 0)) (da_cons de_int (da_cons de_int da_nil)))))
    (dss_cons (ds_set (i := 2) sc_law.nd rfl (by first | exact .inl rfl | exact .inr rfl) (de_ix (de_lst (hm := false) (da_cons de_str (da_cons de_str (da_cons de_str da_nil)))) (de_call (dds := []) O0 (hr.mono (by omega)) rfl (kn.glo 8) F0.kp B1 .nil (fun _ _ => rfl) takesF (da_cons (de_var (pv 1)) (da_cons de_int da_nil))) (fun _ _ => rfl)))
    (dss_cons (ds_set (i := 3) sc_law.nd rfl (by first | exact .inl rfl | exact .inr rfl) (de_call (dds := []) O2 (hr.mono (by omega)) rfl (kn.glo 41) F2.kp B3 .nil (fun _ _ => rfl) takesF (da_cons (de_var (pv 1)) da_nil)))
    (dss_cons (ds_set (i := 4) sc_law.nd rfl (by first | exact .inl rfl | exact .inr rfl) (de_call (dds := []) O4 (hr.mono (by omega)) rfl (kn.glo 42) F4.kp B5 .nil (fun _ _ => rfl) takesF (da_cons (de_var (pv 2)) (da_cons (de_var (pv 3)) da_nil))))
    (dss_cons (ds_set (i := 5) sc_law.nd rfl (by first | exact .inl rfl | exact .inr rfl) (de_call (dds := []) O6 (hr.mono (by omega)) rfl (kn.glo 43) F6.kp B7 .nil (fun _ _ => rfl) takesF (da_cons (de_var (pv 2)) (da_cons (de_callTy (cd_list false) rfl (kn.free 44) (by decide +kernel) (da_cons (de_var (pv 3)) da_nil)) da_nil))))
    (dss_cons (ds_if (PW.pt (dw_or (dt_cmp (od_ne hr.units) (de_var (pv 5)) (de_bS PySem.F.plainAttrs_str PySem.F.slot_str_join PySem.F.type_str_join ms_join de_str (da_cons (de_lcL (own := [("line", 10)]) (hm := false) rfl sc_law.nd (de_var (pv 4)) blk_law_176_23 (fun s1 H1 C1 cl1 fp1 J1 hJ1 => (dg_name (i := 10) sc_law.nd rfl (by first | exact .inl rfl | exact .inr rfl) (hJ := fun σ v S h => hJ1 σ v S 10 (by simp) h))) (fun s1 H1 C1 cl1 fp1 J1 hJ1 => dts_nil) (fun s1 H1 C1 cl1 fp1 J1 hJ1 => (de_op (od_add false) (de_var (pv 10)) de_str))) da_nil)) (nomark _)) (dw_or1 (dt_cmp (od_ne hr.units) (de_call (dds := []) O8 (hr.mono (by omega)) rfl (kn.glo 45) F8.kp B9 .nil (fun _ _ => rfl) takesF (da_cons (de_var (pv 5)) da_nil)) (de_tup (da_cons (de_var (pv 2)) (da_cons (de_var (pv 3)) da_nil))) (nomark _))))) (dss_one (ds_ret de_bl)) dss_nil)
    (dss_cons (ds_forR1 own_of rfl rfl (kn.free 9) (da_cons de_int da_nil) (dg_name (i := 6) sc_law.nd rfl (by first | exact .inl rfl | exact .inr rfl)) (dss_cons (ds_if (dt_cmp (od_ne hr.units) (de_var (pv 4)) (de_lst (hm := false) da_nil) (nomark _)) (dss_one (ds_set (i := 4) sc_law.nd rfl (by first | exact .inl rfl | exact .inr rfl) (de_call (dds := []) O10 (hr.mono (by omega)) rfl (kn.glo 46) F10.kp B11 .nil (fun _ _ => rfl) takesF (da_cons (de_var (pv 1)) (da_cons (de_var (pv 4)) da_nil))))) dss_nil)
    (dss_cons (ds_set (i := 7) sc_law.nd rfl (by first | exact .inl rfl | exact .inr rfl) (de_bS PySem.F.plainAttrs_str PySem.F.slot_str_join PySem.F.type_str_join ms_join de_str (da_cons (de_lcL (own := [("line", 10)]) (hm := false) rfl sc_law.nd (de_var (pv 4)) blk_law_181_25 (fun s2 H2 C2 cl2 fp2 J2 hJ2 => (dg_name (i := 10) sc_law.nd rfl (by first | exact .inl rfl | exact .inr rfl) (hJ := fun σ v S h => hJ2 σ v S 10 (by simp) h))) (fun s2 H2 C2 cl2 fp2 J2 hJ2 => dts_nil) (fun s2 H2 C2 cl2 fp2 J2 hJ2 => (de_op (od_add false) (de_var (pv 10)) de_str))) da_nil)))
    (dss_cons (ds_set (i := 8) sc_law.nd rfl (by first | exact .inl rfl | exact .inr rfl) (de_call (dds := []) O12 (hr.mono (by omega)) rfl (kn.glo 47) F12.kp B13 .nil (fun _ _ => rfl) takesF (da_cons (de_var (pv 4)) da_nil)))
    (dss_cons (ds_set (i := 9) sc_law.nd rfl (by first | exact .inl rfl | exact .inr rfl) (de_call (dds := []) O8 (hr.mono (by omega)) rfl (kn.glo 45) F8.kp B9 .nil (fun _ _ => rfl) takesF (da_cons (de_var (pv 7)) da_nil)))
    (dss_one (ds_if (PW.pt (dw_or (PW.pt (dw_and (dt_cmp od_gt (de_var (pv 8)) de_int (nomark _)) (dw_and1 (dt_cmp (od_ne hr.units) (de_var (pv 9)) (de_lst (hm := false) (da_cons (de_var (pv 8)) da_nil)) (nomark _))))) (dw_or1 (PW.pt (dw_and (dt_cmp (od_eq hr.units) (de_var (pv 8)) de_int (nomark _)) (dw_and1 (PW.pt (dw_or (dt_val (de_isi (T := "list") rfl (kn.free 16) (by decide +kernel) rfl (kn.free 44) (by decide +kernel) (de_var (pv 9)))) (dw_or1 (dt_cmp (od_ne hr.units) (de_call (dds := []) O6 (hr.mono (by omega)) rfl (kn.glo 43) F6.kp B7 .nil (fun _ _ => rfl) takesF (da_cons (de_ix (de_var (pv 9)) de_int (fun _ _ => rfl)) (da_cons (de_ix (de_var (pv 9)) de_int (fun _ _ => rfl)) da_nil))) (de_var (pv 7)) (nomark _))))))))))) (dss_one (ds_ret de_bl)) dss_nil)))))))
    (dss_one (ds_ret (de_and (de_cmp (od_eq hr.units) (de_call (dds := []) O8 (hr.mono (by omega)) rfl (kn.glo 45) F8.kp B9 .nil (fun _ _ => rfl) takesF (da_cons (de_sl (hm := false) (de_var (pv 5)) do_none (do_some (de_neg de_int))) da_nil)) (de_lst (hm := false) (da_cons (de_op (od_add false) (de_callB cd_len rfl (kn.free 4) (by decide +kernel) (da_cons (de_var (pv 3)) da_nil)) de_int) da_nil)) (nomark _)) (de_and1 (by exact (de_cmp (od_eq hr.units) (de_call (dds := []) O8 (hr.mono (by omega)) rfl (kn.glo 45) F8.kp B9 .nil (fun _ _ => rfl) takesF (da_cons de_str da_nil)) (de_lst (hm := false) (da_cons de_int da_nil)) (nomark _))))))))))))))
end DK.k39
end
section
set_option Elab.async false
set_option linter.all false
set_option autoImplicit false
set_option maxRecDepth 100000
set_option maxHeartbeats 0
/-! The head of darkrise_k39_sheet_texts_there_and_back: printed by gen.py. -/
namespace DK.k39
open PySem L2 DK
def loose0 : List PySem.Str := ["RiseError", "InvalidName", "InvalidNumber", "InvalidLine", "LETTERS", "FIGURES", "LONGEST", "GREATEST", "is_name", "checked_name", "is_number", "checked_number", "read_number", "words", "lines_of", "_line_of", "format_sheet", "_read_row", "parse_sheet", "_law_cell", "_law_take", "_law_rows", "_law_lines", "_law_is_name", "_law_is_number", "_law_row", "_law_key", "_law_due", "_law_spoilt", "_law_read"]
def loose : List PySem.Str := loose0
abbrev R : PySem.W.OpenRow := PySem.W.OpenLaw.row PySem.Challenge.rw_darkrise_k39_sheet_texts_there_and_back
abbrev hk : PySem.W.Hook := hookJ fa fn fx "/claim/cut.py" ins
def ob (s : PySem.W.SharedT) : AlI := obsJG fa fn fx "/claim/cut.py" ins (HandSHeadRun.getT s)
theorem ob_eq (s : PySem.W.SharedT) : ob s = hk.obs s.abs := obsJG_eq (HandSHeadRun.getT_eq s)
theorem runA (w : World) : HandSHeadRun.RunEq R (PySem.W.view R.prog [34]) (hkL (Bool × Bool × (Bool × List FnC)) (true, true, (true, ins.map IniD.val))) (fun s => (lookA fa s, lookX fx s, lookI "/claim/cut.py" ins s)) 20000 loose w := by
  intro os
  kernel_rfl
theorem runB (w : World) : HandSHeadRun.RunEq R (PySem.W.view R.prog [34]) (hkL (Bool × List He.FnW) (true, fn.map He.DefD.val)) (fun s => (lookD fn s, lookV fn s)) 20000 loose w := by
  intro os
  kernel_rfl
theorem run (w : World) : HandSHeadRun.RunEq R (PySem.W.view R.prog [34]) hk ob 20000 loose w := run_of (run_and (runA w) (runB w)) fun s h => look_join h
end DK.k39
open PySem PySem.W PySem.Calls PyProof.Rows
theorem DK.k39.core (hm : ∀ ns : List Int, ns.length ≤ 63 → ∃ O, DK.k39.f_law [.rol (ns.map DK.D.int)] [] = .ok (.bl true) O) : PySem.Challenge.rw_darkrise_k39_sheet_texts_there_and_back.Holds := by
  w_on; o_law
  refine HandSHeadRun.head_any (r := OpenLaw.row PySem.Challenge.rw_darkrise_k39_sheet_texts_there_and_back) (q := view (OpenLaw.row PySem.Challenge.rw_darkrise_k39_sheet_texts_there_and_back).prog [34]) (H := DK.k39.hk) (ob := DK.k39.ob) (M := 20000) (loose := DK.k39.loose) (d := HandSHeadRun.topDef (OpenLaw.row PySem.Challenge.rw_darkrise_k39_sheet_texts_there_and_back).prog 34) (kwd := []) DK.k39.ob_eq
    (by kernel_rfl) (fun s => by kernel_rfl) DK.k39.run (by kernel_rfl) (by kernel_rfl) (by kernel_rfl) (by rfl) (by first | assumption | decide +kernel) (by decide +kernel) ⟨rfl, rfl, rfl, rfl, rfl, by decide +kernel⟩ ?hw ?hc
  case hw => w_witness2
  case hc =>
    refine L2.walk_ofE (l := PySem.Challenge.rw_darkrise_k39_sheet_texts_there_and_back) (n := 63) (k := 7) (x := "script") (CX := L2.CX0) rfl (by decide) (by kernel_rfl) ⟨rfl, by decide, by decide⟩ ?F (fun _ _ _ _ z => z)
    intro w mg fa h Y G hmg0
    obtain ⟨K, KX, c⟩ := Y
    have hmg : mg ("law" : PySem.Str) = some (.ref fa) := by
      have e : (HandSHeadRun.topDef (OpenLaw.row PySem.Challenge.rw_darkrise_k39_sheet_texts_there_and_back).prog 34).name = ("law" : PySem.Str) := by kernel_rfl
      rw [← e]
      exact hmg0
    have kn : DK.k39.Kn K mg := ⟨⟨c.c, c.x, h, KX, G⟩, c.i⟩
    have e := hmg.symm.trans (kn.glo 0)
    cases e
    obtain ⟨fd1, F1⟩ := kn.c.def_ 22 (d := DK.k39.d_law) rfl
    obtain ⟨fd, F, _⟩ := DK.k39.ok_law (w := w) (base := h) kn
    have b := L2.FunD.bindsA (ps := ["script"]) F fun _ _ _ _ _ _ us hl => match us, hl with | [_], _ => rfl
    refine ⟨K, fd, DK.spLaw K DK.k39.f_law, KX, fun s v => b s [v] rfl, fun H a ns hl _ hS => ⟨a, ns, rfl, hS, hl, hm ns hl, fun _ => rfl⟩, fun base _ _ => ?_⟩
    obtain ⟨fd2, F2, O2⟩ := DK.k39.ok_law (w := w) (base := base) kn
    rw [DK.fd_eq F F2]
    exact O2
end
section
set_option Elab.async false
set_option linter.all false
set_option autoImplicit false
set_option maxRecDepth 100000
set_option maxHeartbeats 4000000
/-! DKPlain: the draws of the laws, in plain Lean. -/
namespace DK
open PySem L2
theorem set_at {O : Store} {n : Nat} {o p : Ob} (h : O[n]? = some o) : (O.set n p)[n]? = some p := List.getElem?_set_self (List.getElem?_eq_some_iff.mp h).1
theorem gMul_ok {O : Store} {i j : Int} (hi : i.natAbs < 2 ^ 4096) (hj : j.natAbs < 2 ^ 4096) : gMul O (.int i) (.int j) = some (.int (i * j), O) := by
  have h1 : i.natAbs.log2 ≤ 4096 := by
    by_cases h : i.natAbs = 0
    · rw [h]; decide
    · exact Nat.le_of_lt ((Nat.log2_lt h).mpr hi)
  have h2 : j.natAbs.log2 ≤ 4096 := by
    by_cases h : j.natAbs = 0
    · rw [h]; decide
    · exact Nat.le_of_lt ((Nat.log2_lt h).mpr hj)
  unfold gMul gI
  have e : decide (i.natAbs.log2 + j.natAbs.log2 < 1000000) = true := decide_eq_true (by omega)
  simp only [e, if_pos]
theorem gFdiv_ok {O : Store} {i j : Int} (h0 : 0 < j) (hj : j.natAbs < 2 ^ 4096) : gFdiv O (.int i) (.int j) = some (.int (i / j), O) := by
  have h2 : j.natAbs.log2 ≤ 4096 := Nat.le_of_lt ((Nat.log2_lt (by omega)).mpr hj)
  unfold gFdiv gI
  have e : decide (0 < j ∧ j.natAbs.log2 < 9000) = true := decide_eq_true ⟨h0, by omega⟩
  simp only [e, if_pos]
theorem gMod_ok {O : Store} {i j : Int} (h0 : 0 < j) : gMod O (.int i) (.int j) = some (.int (i % j), O) := by
  unfold gMod gI
  have e : decide (0 < j) = true := decide_eq_true h0
  simp only [e, if_pos]
theorem gPow_ok {O : Store} {i j : Int} (h0 : 0 ≤ j) (h1 : j ≤ 1000000) (h2 : i.natAbs < 2 ^ 64) : gPow O (.int i) (.int j) = some (.int (i ^ j.toNat), O) := by
  unfold gPow gI
  have e : decide (0 ≤ j ∧ j ≤ 1000000 ∧ i.natAbs < 2 ^ 64) = true := decide_eq_true ⟨h0, h1, h2⟩
  simp only [e, if_pos]
theorem gSub_ok {O : Store} {i j : Int} : gSub O (.int i) (.int j) = some (.int (i - j), O) := rfl
theorem gAdd_ok {O : Store} {h : Bool} {i j : Int} : gAdd h O (.int i) (.int j) = some (.int (i + j), O) := rfl
theorem gEq_int {O : Store} {i j : Int} : gEq O (.int i) (.int j) = some (.bl (decide (i = j)), O) := by
  have : decide (V.int i = V.int j) = decide (i = j) := by simp
  show (match some (decide (V.int i = V.int j)) with | some b => some (D.bl b, O) | none => none) = _
  rw [this]
theorem gNe_int {O : Store} {i j : Int} : gNe O (.int i) (.int j) = some (.bl (!decide (i = j)), O) := by
  have : decide (V.int i = V.int j) = decide (i = j) := by simp
  show (match some (decide (V.int i = V.int j)) with | some b => some (D.bl (!b), O) | none => none) = _
  rw [this]
theorem gLt_int {O : Store} {i j : Int} : gLt O (.int i) (.int j) = some (.bl (decide (i < j)), O) := rfl
theorem gLe_int {O : Store} {i j : Int} : gLe O (.int i) (.int j) = some (.bl (decide (i ≤ j)), O) := rfl
theorem gGt_int {O : Store} {i j : Int} : gGt O (.int i) (.int j) = some (.bl (decide (j < i)), O) := rfl
theorem gGe_int {O : Store} {i j : Int} : gGe O (.int i) (.int j) = some (.bl (decide (j ≤ i)), O) := rfl
theorem atI_nat {α : Type} {xs : List α} {i : Int} {x : α} (h0 : 0 ≤ i) (h : xs[i.toNat]? = some x) : atI xs i = some x := by
  have hl := (List.getElem?_eq_some_iff.mp h).1
  unfold atI ixN
  rw [if_pos h0, if_pos (by omega)]
  exact h
theorem big_of {i : Int} {n : Nat} (h0 : 0 ≤ i) (h : i ≤ n) (hn : n < 2 ^ 4096) : i.natAbs < 2 ^ 4096 := by omega
theorem atI_c0 {α : Type} {a : α} {xs : List α} : atI (a :: xs) 0 = some a := atI_nat (by decide) rfl
theorem atI_c1 {α : Type} {a b : α} {xs : List α} : atI (a :: b :: xs) 1 = some b := atI_nat (by decide) rfl
theorem atI_c2 {α : Type} {a b c : α} {xs : List α} : atI (a :: b :: c :: xs) 2 = some c := atI_nat (by decide) rfl
theorem atI_c3 {α : Type} {a b c d : α} {xs : List α} : atI (a :: b :: c :: d :: xs) 3 = some d := atI_nat (by decide) rfl
theorem atI_c4 {α : Type} {a b c d e : α} {xs : List α} : atI (a :: b :: c :: d :: e :: xs) 4 = some e := atI_nat (by decide) rfl
/-! ### evaluation -/
theorem kitTab : kitB "NoneType" "bool" = some false ∧ kitB "NoneType" "int" = some false ∧ kitB "NoneType" "str" = some false ∧ kitB "NoneType" "list" = some false ∧ kitB "NoneType" "tuple" = some false ∧ kitB "NoneType" "dict" = some false ∧ kitB "bool" "bool" = some true ∧ kitB "bool" "int" = some true ∧ kitB "bool" "str" = some false ∧ kitB "bool" "list" = some false ∧ kitB "bool" "tuple" = some false ∧ kitB "bool" "dict" = some false ∧ kitB "int" "bool" = some false ∧ kitB "int" "int" = some true ∧ kitB "int" "str" = some false ∧ kitB "int" "list" = some false ∧ kitB "int" "tuple" = some false ∧ kitB "int" "dict" = some false ∧ kitB "str" "bool" = some false ∧ kitB "str" "int" = some false ∧ kitB "str" "str" = some true ∧ kitB "str" "list" = some false ∧ kitB "str" "tuple" = some false ∧ kitB "str" "dict" = some false ∧ kitB "list" "bool" = some false ∧ kitB "list" "int" = some false ∧ kitB "list" "str" = some false ∧ kitB "list" "list" = some true ∧ kitB "list" "tuple" = some false ∧ kitB "list" "dict" = some false ∧ kitB "tuple" "bool" = some false ∧ kitB "tuple" "int" = some false ∧ kitB "tuple" "str" = some false ∧ kitB "tuple" "list" = some false ∧ kitB "tuple" "tuple" = some true ∧ kitB "tuple" "dict" = some false ∧ kitB "dict" "bool" = some false ∧ kitB "dict" "int" = some false ∧ kitB "dict" "str" = some false ∧ kitB "dict" "list" = some false ∧ kitB "dict" "tuple" = some false ∧ kitB "dict" "dict" = some true := by decide +kernel
theorem gNe_bl {O : Store} {i j : Bool} : gNe O (.bl i) (.bl j) = some (.bl (!decide (i = j)), O) := by cases i <;> cases j <;> rfl
theorem gEq_bl {O : Store} {i j : Bool} : gEq O (.bl i) (.bl j) = some (.bl (decide (i = j)), O) := by cases i <;> cases j <;> rfl
theorem gEq_str {O : Store} {i j : Str} : gEq O (.str i) (.str j) = some (.bl (decide (i = j)), O) := by
  have : decide (V.str i = V.str j) = decide (i = j) := by simp
  show (match some (decide (V.str i = V.str j)) with | some b => some (D.bl b, O) | none => none) = _
  rw [this]
theorem gNe_str {O : Store} {i j : Str} : gNe O (.str i) (.str j) = some (.bl (!decide (i = j)), O) := by
  have : decide (V.str i = V.str j) = decide (i = j) := by simp
  show (match some (decide (V.str i = V.str j)) with | some b => some (D.bl (!b), O) | none => none) = _
  rw [this]
theorem isNon_t : isNon .non = true ∧ (∀ b, isNon (.bl b) = false) ∧ (∀ b, isNon (.int b) = false) ∧ (∀ b, isNon (.str b) = false) ∧ (∀ b, isNon (.lst b) = false) ∧ (∀ b, isNon (.tup b) = false) ∧ (∀ b, isNon (.hdl b) = false) := ⟨rfl, fun _ => rfl, fun _ => rfl, fun _ => rfl, fun _ => rfl, fun _ => rfl, fun _ => rfl⟩
/-- a loop keeps what each turn keeps -/
theorem loopD_keeps {turn : D → SM} {I : Nat → Loc → Store → Prop} : ∀ (ds : List D) (i : Nat) (L : Loc) (O : Store), I i L O → (∀ j d L O, ds[j]? = some d → I (i + j) L O → ∃ L' O', turn d L O = .next L' O' ∧ I (i + j + 1) L' O') → ∃ L' O', loopD turn ds L O = .next L' O' ∧ I (i + ds.length) L' O'
  | [], i, L, O, h, _ => ⟨L, O, rfl, h⟩
  | d :: ds, i, L, O, h, k => by
    obtain ⟨L1, O1, e, h1⟩ := k 0 d L O rfl h
    obtain ⟨L2, O2, e2, h2⟩ := loopD_keeps ds (i + 1) L1 O1 h1 fun j d' L O hd hI => by
      have := k (j + 1) d' L O hd (by rw [show i + (j + 1) = i + 1 + j by omega]; exact hI)
      rw [show i + (j + 1) + 1 = i + 1 + j + 1 by omega] at this
      exact this
    refine ⟨L2, O2, ?_, by rw [show i + (d :: ds).length = i + 1 + ds.length by rw [List.length_cons]; omega]; exact h2⟩
    show (match turn d L O with
      | .next L1 O1 => loopD turn ds L1 O1
      | .cnt L1 O1 => loopD turn ds L1 O1
      | .brk L1 O1 => .next L1 O1
      | .ret d O1 => .ret d O1
      | .exc x L1 O1 => .exc x L1 O1
      | .bad => .bad) = _
    rw [e]
    exact e2
end DK
end
section
set_option Elab.async false
set_option linter.all false
set_option autoImplicit false
set_option maxRecDepth 100000
set_option maxHeartbeats 4000000
/-! DKText: the takes of the laws; loops over the signs of a text, in plain Lean. -/
namespace DK
open PySem L2
def fCell : FM := runF 2 (sSeq (sIf (mTest (mOp gLt (mVar 1) (mCall (g1 gLen) (mCons (mVar 0) mNil)))) (sRet (mCall (g1 gAbs) (mCons (mCall (g1 gInt) (mCons (mOp gIx (mVar 0) (mVar 1)) mNil)) mNil))) sNext)
    (sRet (mOp (gAdd false) (mOp gMul (mC (.int 37)) (mVar 1)) (mC (.int 11)))))
def bTake : SM := (sSeq (sIf (mTest (mOp gGt (mOp gIx (mVar 0) (mC (.int 2))) (mC (.int 0)))) (sSeq (sAsg (mOp gMod (mCall (g1 gInt) (mCons (mOp gIx (mVar 0) (mC (.int 2))) mNil)) (mVar 1)) (bName 2))
    (sSeq (sAsg (mOp gFdiv (mCall (g1 gInt) (mCons (mOp gIx (mVar 0) (mC (.int 2))) mNil)) (mVar 1)) (bSubL (mVar 0) (mC (.int 2))))
    (sRet (mVar 2)))) sNext)
    (sSeq (sAsg (mFn (arity 2 fCell) [] (mCons (mOp gIx (mVar 0) (mC (.int 0))) (mCons (mOp gIx (mVar 0) (mC (.int 1))) mNil))) (bName 3))
    (sSeq (sAsg (mOp (gAdd false) (mOp gIx (mVar 0) (mC (.int 1))) (mC (.int 1))) (bSubL (mVar 0) (mC (.int 1))))
    (sSeq (sIf (mTest (mOp gGe (mVar 3) (mOp gPow (mC (.int 10)) (mC (.int 9))))) (sAsg (mOp gFdiv (mCall (g1 gInt) (mCons (mVar 3) mNil)) (mVar 1)) (bSubL (mVar 0) (mC (.int 2)))) sNext)
    (sRet (mOp gMod (mCall (g1 gInt) (mCons (mVar 3) mNil)) (mVar 1)))))))
def fTake : FM := runF 4 bTake
/-- the state of the takes at n: its script, place (at most b), what is left -/
def takeL (ns : List Int) (z la : Int) : List D := [.rol (ns.map D.int), .int z, .int la]
structure Take (b : Nat) (n : Nat) (O : Store) : Prop where
  ex : ∃ ns z la, O[n]? = some (.lst (takeL ns z la)) ∧ ns.length ≤ 1000 ∧ 0 ≤ z ∧ z ≤ b ∧ 0 ≤ la
theorem tmono {n a c : Nat} {O : Store} (hac : a ≤ c) : Take a n O → Take c n O := fun ⟨ns, z, la, h, h0, h1, h2, h3⟩ => ⟨ns, z, la, h, h0, h1, by omega, h3⟩
theorem cell_ok {ns : List Int} {z : Int} {O : Store} (h0 : 0 ≤ z) (h1 : z ≤ 2 ^ 64) : ∃ c, fCell [.rol (ns.map D.int), .int z] O = .ok (.int c) O ∧ 0 ≤ c := by
  have ml : ∀ O : Store, gMul O (.int 37) (.int z) = some (.int (37 * z), O) := fun O => gMul_ok (by decide) (big_of (n := 2 ^ 64) h0 (by omega) (by decide))
  by_cases c : z < ns.length
  · obtain ⟨x, hx⟩ : ∃ x, ns[z.toNat]? = some x := ⟨ns[z.toNat]'(by omega), List.getElem?_eq_getElem _⟩
    have hix : atI (ns.map D.int) z = some (.int x) := atI_nat h0 (by rw [List.getElem?_map, hx]; rfl)
    exact ⟨if x < 0 then -x else x, by simp [fCell, runF, sSeq, sIf, sNext, sDrop, sRet, sRetN, sAsg, ofRes, ofB, bName, bNil, bCons, bTup, bLst, bSubL, mTest, mOp, mVar, mC, mChain, mAnd, mOr, mNot, mIf, mAndV, mOrV, mNotV, mNeg, mCons, mNil, mTup, mLst, newL, mCall, mFn, arity, g1, g2, gLen, gInt, gAbs, gMax2, gMin2, gIx, seqOf, lsqOf, lstOf, Res.bind, ofO, gAdd_ok, gSub_ok, gEq_int, gNe_int, gLt_int, gLe_int, gGt_int, gGe_int, gEq_bl, gNe_bl, gEq_str, gNe_str, mIsi, mIsiT, tyD, kitL, kitTab, atI_c0, atI_c1, atI_c2, atI_c3, atI_c4, sForR1, int1, int2, mMeth, mMake, mFld, sFldM, gIs, gIsNot, isNon_t, sRaise, gList, newLO, c, hix], by split <;> omega⟩
  · exact ⟨37 * z + 11, by simp [fCell, runF, sSeq, sIf, sNext, sDrop, sRet, sRetN, sAsg, ofRes, ofB, bName, bNil, bCons, bTup, bLst, bSubL, mTest, mOp, mVar, mC, mChain, mAnd, mOr, mNot, mIf, mAndV, mOrV, mNotV, mNeg, mCons, mNil, mTup, mLst, newL, mCall, mFn, arity, g1, g2, gLen, gInt, gAbs, gMax2, gMin2, gIx, seqOf, lsqOf, lstOf, Res.bind, ofO, gAdd_ok, gSub_ok, gEq_int, gNe_int, gLt_int, gLe_int, gGt_int, gGe_int, gEq_bl, gNe_bl, gEq_str, gNe_str, mIsi, mIsiT, tyD, kitL, kitTab, atI_c0, atI_c1, atI_c2, atI_c3, atI_c4, sForR1, int1, int2, mMeth, mMake, mFld, sFldM, gIs, gIsNot, isNon_t, sRaise, gList, newLO, c, ml], by omega⟩
theorem ixN3_1 : ixN 3 1 = some 1 := rfl
theorem ixN3_2 : ixN 3 2 = some 2 := rfl
theorem take_ok {b n : Nat} {O : Store} {m : Int} (h : Take b n O) (hm : 0 < m) (hm2 : m ≤ 2 ^ 64) (hb : b ≤ 2 ^ 32) :
    ∃ v P, fTake [.hdl n, .int m] O = .ok (.int v) (O.set n (.lst P)) ∧ 0 ≤ v ∧ v < m ∧ Take (b + 1) n (O.set n (.lst P)) := by
  obtain ⟨ns, z, la, h, hl, hz0, hz1, hla0⟩ := h
  have hmb : m.natAbs < 2 ^ 4096 := big_of (n := 2 ^ 64) (by omega) hm2 (by decide)
  have fd : ∀ (O : Store) (i : Int), gFdiv O (.int i) (.int m) = some (.int (i / m), O) := fun O i => gFdiv_ok hm hmb
  have md : ∀ (O : Store) (i : Int), gMod O (.int i) (.int m) = some (.int (i % m), O) := fun O i => gMod_ok hm
  have v0 : ∀ i : Int, 0 ≤ i % m ∧ i % m < m := fun i => ⟨Int.emod_nonneg i (by omega), Int.emod_lt_of_pos i hm⟩
  have hset : ∀ p : Ob, (O.set n p)[n]? = some p := fun p => set_at h
  have pw : ∀ (O : Store), gPow O (.int 10) (.int 9) = some (.int (10 ^ 9), O) := fun O => gPow_ok (by decide) (by decide) (by decide)
  by_cases c1 : 0 < la
  · refine ⟨la % m, takeL ns z (la / m), ?_, (v0 la).1, (v0 la).2, ns, z, la / m, set_at h, hl, hz0, by omega, Int.ediv_nonneg (by omega) (by omega)⟩
    simp [fTake, bTake, runF, sSeq, sIf, sNext, sDrop, sRet, sRetN, sAsg, ofRes, ofB, bName, bNil, bCons, bTup, bLst, bSubL, mTest, mOp, mVar, mC, mChain, mAnd, mOr, mNot, mIf, mAndV, mOrV, mNotV, mNeg, mCons, mNil, mTup, mLst, newL, mCall, mFn, arity, g1, g2, gLen, gInt, gAbs, gMax2, gMin2, gIx, seqOf, lsqOf, lstOf, Res.bind, ofO, gAdd_ok, gSub_ok, gEq_int, gNe_int, gLt_int, gLe_int, gGt_int, gGe_int, gEq_bl, gNe_bl, gEq_str, gNe_str, mIsi, mIsiT, tyD, kitL, kitTab, atI_c0, atI_c1, atI_c2, atI_c3, atI_c4, sForR1, int1, int2, mMeth, mMake, mFld, sFldM, gIs, gIsNot, isNon_t, sRaise, gList, newLO, h, hset, takeL, fd, md, c1, ixN3_1, ixN3_2]
  · obtain ⟨c, hc, c0⟩ := cell_ok (ns := ns) (O := O) hz0 (by omega)
    by_cases c2 : (10 : Int) ^ 9 ≤ c
    · refine ⟨c % m, takeL ns (z + 1) (c / m), ?_, (v0 c).1, (v0 c).2, ns, z + 1, c / m, set_at h, hl, by omega, by omega, Int.ediv_nonneg c0 (by omega)⟩
      simp only [show (10 : Int) ^ 9 = 1000000000 by decide] at c2 pw
      simp [fTake, bTake, runF, sSeq, sIf, sNext, sDrop, sRet, sRetN, sAsg, ofRes, ofB, bName, bNil, bCons, bTup, bLst, bSubL, mTest, mOp, mVar, mC, mChain, mAnd, mOr, mNot, mIf, mAndV, mOrV, mNotV, mNeg, mCons, mNil, mTup, mLst, newL, mCall, mFn, arity, g1, g2, gLen, gInt, gAbs, gMax2, gMin2, gIx, seqOf, lsqOf, lstOf, Res.bind, ofO, gAdd_ok, gSub_ok, gEq_int, gNe_int, gLt_int, gLe_int, gGt_int, gGe_int, gEq_bl, gNe_bl, gEq_str, gNe_str, mIsi, mIsiT, tyD, kitL, kitTab, atI_c0, atI_c1, atI_c2, atI_c3, atI_c4, sForR1, int1, int2, mMeth, mMake, mFld, sFldM, gIs, gIsNot, isNon_t, sRaise, gList, newLO, h, hset, takeL, fd, md, c1, c2, pw, hc, ixN3_1, ixN3_2]
    · refine ⟨c % m, takeL ns (z + 1) la, ?_, (v0 c).1, (v0 c).2, ns, z + 1, la, set_at h, hl, by omega, by omega, hla0⟩
      simp only [show (10 : Int) ^ 9 = 1000000000 by decide] at c2 pw
      simp [fTake, bTake, runF, sSeq, sIf, sNext, sDrop, sRet, sRetN, sAsg, ofRes, ofB, bName, bNil, bCons, bTup, bLst, bSubL, mTest, mOp, mVar, mC, mChain, mAnd, mOr, mNot, mIf, mAndV, mOrV, mNotV, mNeg, mCons, mNil, mTup, mLst, newL, mCall, mFn, arity, g1, g2, gLen, gInt, gAbs, gMax2, gMin2, gIx, seqOf, lsqOf, lstOf, Res.bind, ofO, gAdd_ok, gSub_ok, gEq_int, gNe_int, gLt_int, gLe_int, gGt_int, gGe_int, gEq_bl, gNe_bl, gEq_str, gNe_str, mIsi, mIsiT, tyD, kitL, kitTab, atI_c0, atI_c1, atI_c2, atI_c3, atI_c4, sForR1, int1, int2, mMeth, mMake, mFld, sFldM, gIs, gIsNot, isNon_t, sRaise, gList, newLO, h, hset, takeL, fd, md, c1, c2, pw, hc, ixN3_1, ixN3_2]
/-! ### signs -/
theorem notIn_sign {c : Nat} {cs : Str} {O : Store} : gNotIn O (.str ⟨#[c]⟩) (.str cs) = some (.bl (!decide (c ∈ cs.cps.toList)), O) := rfl
/-- all signs are among cs -/
def allIn (cs : Str) (w : List Nat) : Bool := w.all fun c => decide (c ∈ cs.cps.toList)
abbrev signB (i : Nat) (cs : Str) (bad : SM) : SM := sIf (mTest (mOp gNotIn (mVar i) (mC (.str cs)))) bad sNext
theorem turn_sign {i c : Nat} {cs : Str} {bad : SM} {L : Loc} {O : Store} (hi : i < L.length) : turnOf (bName i) (signB i cs bad) (.str ⟨#[c]⟩) L O = if c ∈ cs.cps.toList then .next (L.set i (some (.str ⟨#[c]⟩))) O else bad (L.set i (some (.str ⟨#[c]⟩))) O := by
  by_cases h : c ∈ cs.cps.toList <;> simp [signB, turnOf, runF, sSeq, sIf, sNext, sDrop, sRet, sRetN, sAsg, ofRes, ofB, bName, bNil, bCons, bTup, bLst, bSubL, mTest, mOp, mVar, mC, mChain, mAnd, mOr, mNot, mIf, mAndV, mOrV, mNotV, mNeg, mCons, mNil, mTup, mLst, newL, mCall, mFn, arity, g1, g2, gLen, gInt, gAbs, gMax2, gMin2, gIx, seqOf, lsqOf, lstOf, Res.bind, ofO, gAdd_ok, gSub_ok, gEq_int, gNe_int, gLt_int, gLe_int, gGt_int, gGe_int, gEq_bl, gNe_bl, gEq_str, gNe_str, mIsi, mIsiT, tyD, kitL, kitTab, atI_c0, atI_c1, atI_c2, atI_c3, atI_c4, sForR1, int1, int2, mMeth, mMake, mFld, sFldM, gIs, gIsNot, isNon_t, sRaise, gList, newLO, hi, notIn_sign, h]
theorem loop_signs_ok {i : Nat} {cs : Str} {bad : SM} : ∀ (w : List Nat) (L : Loc) (O : Store), i < L.length → allIn cs w = true → ∃ d, loopD (turnOf (bName i) (signB i cs bad)) (w.map fun c => D.str ⟨#[c]⟩) L O = .next (L.set i d) O
  | [], L, O, hi, _ => ⟨L[i], by rw [List.set_getElem_self]; rfl⟩
  | c :: w, L, O, hi, h => by
    obtain ⟨h1, h2⟩ := (Bool.and_eq_true _ _ ▸ h : decide (c ∈ cs.cps.toList) = true ∧ allIn cs w = true)
    have e := turn_sign (bad := bad) (O := O) (c := c) (cs := cs) hi
    rw [if_pos (of_decide_eq_true h1)] at e
    obtain ⟨d, hd⟩ := loop_signs_ok (bad := bad) w (L.set i (some (.str ⟨#[c]⟩))) O (by rw [List.length_set]; exact hi) h2
    rw [List.set_set] at hd
    refine ⟨d, ?_⟩
    rw [List.map_cons, loopD_cons, e]
    exact hd
theorem loop_signs_no {i : Nat} {cs : Str} {bad : SM} (hb : ∀ L O, (∃ d, bad L O = .ret d O) ∨ ∃ x, bad L O = .exc x L O) : ∀ (w : List Nat) (L : Loc) (O : Store), i < L.length → allIn cs w = false → ∃ L', loopD (turnOf (bName i) (signB i cs bad)) (w.map fun c => D.str ⟨#[c]⟩) L O = bad L' O
  | [], L, O, hi, h => by cases h
  | c :: w, L, O, hi, h => by
    have e := turn_sign (bad := bad) (O := O) (c := c) (cs := cs) hi
    rw [List.map_cons, loopD_cons, e]
    by_cases h1 : c ∈ cs.cps.toList
    · rw [if_pos h1]
      refine loop_signs_no hb w _ O (by rw [List.length_set]; exact hi) ?_
      have : (decide (c ∈ cs.cps.toList) && allIn cs w) = false := h
      rw [decide_eq_true h1] at this
      exact this
    · rw [if_neg h1]
      refine ⟨L.set i (some (.str ⟨#[c]⟩)), ?_⟩
      rcases hb (L.set i (some (.str ⟨#[c]⟩))) O with ⟨d, h⟩ | ⟨x, h⟩ <;> rw [h] <;> rfl
/-- the signs that are not among cs -/
def outOf (cs : Str) (w : List Nat) : List Nat := w.filter fun c => !decide (c ∈ cs.cps.toList)
theorem outOf_nil {cs : Str} : ∀ {w : List Nat}, (outOf cs w = []) ↔ allIn cs w = true := fun {w} => by
  unfold outOf allIn
  rw [List.filter_eq_nil_iff, List.all_eq_true]
  simp
theorem outOf_zero {cs : Str} {w : List Nat} : ((outOf cs w).length = 0) ↔ allIn cs w = true := by
  rw [List.length_eq_zero_iff, outOf_nil]
theorem outOf_in {cs : Str} {c : Nat} {w : List Nat} (h : c ∈ cs.cps.toList) : outOf cs (c :: w) = outOf cs w := by
  unfold outOf
  rw [List.filter_cons, if_neg (by rw [decide_eq_true h]; decide)]
theorem outOf_out {cs : Str} {c : Nat} {w : List Nat} (h : ¬ c ∈ cs.cps.toList) : outOf cs (c :: w) = c :: outOf cs w := by
  unfold outOf
  rw [List.filter_cons, if_pos (by rw [decide_eq_false h]; decide)]
theorem comp_signs {i : Nat} {cs : Str} {L : Loc} (hi : i < L.length) : ∀ (w pre : List Nat) (acc : List D) (O : Store), acc.length + w.length ≤ 900000 →
    lcG (fun j _ => some ((pre ++ w).map fun c => D.str ⟨#[c]⟩)[j]?) (lcTurn [i] (bName i) (mTest (mOp gNotIn (mVar i) (mC (.str cs)))) (mVar i) L) w.length pre.length O acc = some (O, acc ++ (outOf cs w).map fun c => D.str ⟨#[c]⟩)
  | [], pre, acc, O, h => by
    have : ((pre ++ []).map fun c => D.str ⟨#[c]⟩)[pre.length]? = none := by rw [List.append_nil, List.getElem?_map, List.getElem?_eq_none (Nat.le_refl _)]; rfl
    simp [lcG, outOf]
  | c :: w, pre, acc, O, h => by
    have e1 : ((pre ++ c :: w).map fun c => D.str ⟨#[c]⟩)[pre.length]? = some (.str ⟨#[c]⟩) := by simp
    have e2 : pre ++ c :: w = (pre ++ [c]) ++ w := by simp
    have e3 : pre.length + 1 = (pre ++ [c]).length := by simp
    have hi2 : i < (L.set i none).length := by rw [List.length_set]; exact hi
    have ih := fun acc h => comp_signs (cs := cs) (L := L) hi w (pre ++ [c]) acc O h
    have hl : acc.length ≤ 900000 := by omega
    rw [show (c :: w).length = w.length + 1 from rfl]
    unfold lcG
    simp only [e1]
    by_cases hc : c ∈ cs.cps.toList
    · have et : lcTurn [i] (bName i) (mTest (mOp gNotIn (mVar i) (mC (.str cs)))) (mVar i) L (.str ⟨#[c]⟩) O acc = some (O, acc) := by
        simp [lcTurn, wipeL, runF, sSeq, sIf, sNext, sDrop, sRet, sRetN, sAsg, ofRes, ofB, bName, bNil, bCons, bTup, bLst, bSubL, mTest, mOp, mVar, mC, mChain, mAnd, mOr, mNot, mIf, mAndV, mOrV, mNotV, mNeg, mCons, mNil, mTup, mLst, newL, mCall, mFn, arity, g1, g2, gLen, gInt, gAbs, gMax2, gMin2, gIx, seqOf, lsqOf, lstOf, Res.bind, ofO, gAdd_ok, gSub_ok, gEq_int, gNe_int, gLt_int, gLe_int, gGt_int, gGe_int, gEq_bl, gNe_bl, gEq_str, gNe_str, mIsi, mIsiT, tyD, kitL, kitTab, atI_c0, atI_c1, atI_c2, atI_c3, atI_c4, sForR1, int1, int2, mMeth, mMake, mFld, sFldM, gIs, gIsNot, isNon_t, sRaise, gList, newLO, hi, notIn_sign, hc]
      rw [et]
      simp only
      rw [e2, e3, outOf_in hc]
      exact ih acc (by simp at h; omega)
    · have et : lcTurn [i] (bName i) (mTest (mOp gNotIn (mVar i) (mC (.str cs)))) (mVar i) L (.str ⟨#[c]⟩) O acc = some (O, acc ++ [.str ⟨#[c]⟩]) := by
        simp [lcTurn, wipeL, runF, sSeq, sIf, sNext, sDrop, sRet, sRetN, sAsg, ofRes, ofB, bName, bNil, bCons, bTup, bLst, bSubL, mTest, mOp, mVar, mC, mChain, mAnd, mOr, mNot, mIf, mAndV, mOrV, mNotV, mNeg, mCons, mNil, mTup, mLst, newL, mCall, mFn, arity, g1, g2, gLen, gInt, gAbs, gMax2, gMin2, gIx, seqOf, lsqOf, lstOf, Res.bind, ofO, gAdd_ok, gSub_ok, gEq_int, gNe_int, gLt_int, gLe_int, gGt_int, gGe_int, gEq_bl, gNe_bl, gEq_str, gNe_str, mIsi, mIsiT, tyD, kitL, kitTab, atI_c0, atI_c1, atI_c2, atI_c3, atI_c4, sForR1, int1, int2, mMeth, mMake, mFld, sFldM, gIs, gIsNot, isNon_t, sRaise, gList, newLO, hi, notIn_sign, hc, hl]
      rw [et]
      simp only
      rw [e2, e3, outOf_out hc]
      refine (ih (acc ++ [.str ⟨#[c]⟩]) (by simp at h ⊢; omega)).trans ?_
      simp
theorem lcS_signs {i : Nat} {cs w : Str} {src : EM} {L : Loc} {O : Store} (hi : i < L.length) (hs : src L O = .ok (.str w) O) (hw : w.length ≤ 900000) :
    mLcS false src [i] (bName i) (mTest (mOp gNotIn (mVar i) (mC (.str cs)))) (mVar i) L O = .ok (.lst ((outOf cs w.cps.toList).map fun c => D.str ⟨#[c]⟩)) O := by
  have hl : w.cps.toList.length ≤ 900000 := by rw [Array.length_toList]; exact hw
  have h := comp_signs (cs := cs) hi w.cps.toList [] [] O (by simpa using hl)
  have ho : (outOf cs w.cps.toList).length ≤ 1000000 := Nat.le_trans (List.length_filter_le _ _) (by omega)
  unfold mLcS
  rw [hs]
  simp only [Res.bind, charsD, List.length_map]
  simp only [List.nil_append, List.length_nil] at h
  rw [h]
  simp [lcEnd, newL, ho]
end DK
end
section
set_option Elab.async false
set_option linter.all false
set_option autoImplicit false
set_option maxRecDepth 100000
set_option maxHeartbeats 4000000
/-! DKLaws: what many laws share, in plain Lean: draws that keep the rest of the store, picks, checked numbers, sameness. -/
namespace DK
open PySem L2
/-! ### checked numbers -/
/-! ### comprehensions over a range -/
theorem rangeD_len (a : Int) (n : Nat) : (rangeD a n).length = n := by simp [rangeD]
/-- a loop over a list of the store that the turns leave -/
theorem loopH_keeps {turn : D → SM} {n : Nat} {xs : List D} {I : Nat → Loc → Store → Prop} (ho : ∀ j L O, I j L O → O[n]? = some (.lst xs)) : ∀ (k i : Nat) (L : Loc) (O : Store), xs.length = i + k → I i L O →
    (∀ j d L O, xs[j]? = some d → I j L O → ∃ L' O', turn d L O = .next L' O' ∧ I (j + 1) L' O') → ∃ L' O', loopH turn n k i L O = .next L' O' ∧ I xs.length L' O'
  | 0, i, L, O, hk, h, _ => by
    refine ⟨L, O, ?_, by rw [show xs.length = i by omega]; exact h⟩
    show (match O[n]? with | some (.lst xs) => if xs.length ≤ i then SR.next L O else .bad | _ => .bad) = _
    rw [ho _ _ _ h]
    show (if xs.length ≤ i then SR.next L O else .bad) = _
    rw [if_pos (by omega)]
  | k + 1, i, L, O, hk, h, st => by
    obtain ⟨d, hd⟩ : ∃ d, xs[i]? = some d := ⟨xs[i]'(by omega), List.getElem?_eq_getElem _⟩
    obtain ⟨L1, O1, e, h1⟩ := st i d L O hd h
    obtain ⟨L2, O2, e2, h2⟩ := loopH_keeps ho k (i + 1) L1 O1 (by omega) h1 st
    refine ⟨L2, O2, ?_, h2⟩
    show (match O[n]? with
    | some (.lst xs) => match xs[i]? with
      | some d => match turn d L O with
        | .next L1 O1 => loopH turn n k (i + 1) L1 O1
        | .cnt L1 O1 => loopH turn n k (i + 1) L1 O1
        | .brk L1 O1 => .next L1 O1
        | .ret d O1 => .ret d O1
        | .exc x L1 O1 => .exc x L1 O1
        | .bad => .bad
      | none => .next L O
    | _ => .bad) = _
    rw [ho _ _ _ h]
    show (match xs[i]? with
      | some d => match turn d L O with
        | .next L1 O1 => loopH turn n k (i + 1) L1 O1
        | .cnt L1 O1 => loopH turn n k (i + 1) L1 O1
        | .brk L1 O1 => .next L1 O1
        | .ret d O1 => .ret d O1
        | .exc x L1 O1 => .exc x L1 O1
        | .bad => .bad
      | none => .next L O) = _
    rw [hd]
    show (match turn d L O with
        | .next L1 O1 => loopH turn n k (i + 1) L1 O1
        | .cnt L1 O1 => loopH turn n k (i + 1) L1 O1
        | .brk L1 O1 => .next L1 O1
        | .ret d O1 => .ret d O1
        | .exc x L1 O1 => .exc x L1 O1
        | .bad => .bad) = _
    rw [e]
    exact e2
end DK
end
section
set_option Elab.async false
set_option linter.all false
set_option autoImplicit false
set_option maxRecDepth 100000
set_option maxHeartbeats 4000000
/-! DKLoop: loops, comprehensions and frames, in plain Lean. -/
namespace DK
open PySem L2
/-! ### frames -/
/-- all but the draws' state stands as before -/
def Fr (O O' : Store) : Prop := O.length ≤ O'.length ∧ ∀ i, 0 < i → i < O.length → O'[i]? = O[i]?
theorem Fr.refl (O : Store) : Fr O O := ⟨Nat.le_refl _, fun _ _ _ => rfl⟩
theorem Fr.trans {O O1 O2 : Store} (a : Fr O O1) (b : Fr O1 O2) : Fr O O2 := ⟨Nat.le_trans a.1 b.1, fun i h0 h => (b.2 i h0 (Nat.lt_of_lt_of_le h a.1)).trans (a.2 i h0 h)⟩
theorem Fr.at {O O' : Store} {i : Nat} {x : Ob} (f : Fr O O') (h0 : 0 < i) (h : O[i]? = some x) : O'[i]? = some x := (f.2 i h0 (List.getElem?_eq_some_iff.mp h).1).trans h
theorem fr_set0 {O : Store} {p : Ob} : Fr O (O.set 0 p) := ⟨by rw [List.length_set]; exact Nat.le_refl _, fun i h0 _ => List.getElem?_set_ne (by omega)⟩
/-- everything stands as before -/
def Fz (O O' : Store) : Prop := O.length ≤ O'.length ∧ ∀ i, i < O.length → O'[i]? = O[i]?
theorem Fz.refl (O : Store) : Fz O O := ⟨Nat.le_refl _, fun _ _ => rfl⟩
theorem Fz.trans {O O1 O2 : Store} (a : Fz O O1) (b : Fz O1 O2) : Fz O O2 := ⟨Nat.le_trans a.1 b.1, fun i h => (b.2 i (Nat.lt_of_lt_of_le h a.1)).trans (a.2 i h)⟩
theorem Fz.at {O O' : Store} {i : Nat} {x : Ob} (f : Fz O O') (h : O[i]? = some x) : O'[i]? = some x := (f.2 i (List.getElem?_eq_some_iff.mp h).1).trans h
theorem Fz.fr {O O' : Store} (f : Fz O O') : Fr O O' := ⟨f.1, fun i _ h => f.2 i h⟩
theorem fz_app {O : Store} {J : Store} : Fz O (O ++ J) := ⟨by rw [List.length_append]; omega, fun i h => List.getElem?_append_left h⟩
theorem Take.fz {b : Nat} {O O' : Store} (h : Take b 0 O) (f : Fz O O') : Take b 0 O' := by
  obtain ⟨ns, z, la, h, r⟩ := h
  exact ⟨ns, z, la, f.at h, r⟩
theorem Take.len {b : Nat} {O : Store} (h : Take b 0 O) : 0 < O.length := by
  obtain ⟨ns, z, la, h, r⟩ := h
  exact (List.getElem?_eq_some_iff.mp h).1
theorem Take.set {b n : Nat} {O : Store} {p : Ob} (h : Take b 0 O) (hn : n ≠ 0) : Take b 0 (O.set n p) := by
  obtain ⟨ns, z, la, h, r⟩ := h
  exact ⟨ns, z, la, by rw [List.getElem?_set_ne hn]; exact h, r⟩
theorem tk1 {b : Nat} {O : Store} {m : Int} (h : Take b 0 O) (hm : 0 < m) (hm2 : m ≤ 2 ^ 32) (hb : b ≤ 2 ^ 31) :
    ∃ v O', fTake [.hdl 0, .int m] O = .ok (.int v) O' ∧ 0 ≤ v ∧ v < m ∧ Take (b + 1) 0 O' ∧ Fr O O' ∧ O'.length = O.length := by
  obtain ⟨v, P, e, v0, v1, p⟩ := take_ok h hm (by omega) (by omega)
  exact ⟨v, _, e, v0, v1, p, fr_set0, List.length_set ..⟩
/-! ### loops -/
theorem forR1_keeps {t : AM} {b : BM} {body : SM} {I : Nat → Loc → Store → Prop} {L : Loc} {O O1 : Store} {j : Int} (ht : t L O = .ok [.int j] O1) (h0 : 0 ≤ j) (h1 : j ≤ 1000000) (hI : I 0 L O1)
    (st : ∀ (i : Nat) L O, (i : Int) < j → I i L O → ∃ L' O', turnOf b body (.int i) L O = .next L' O' ∧ I (i + 1) L' O') : ∃ L' O', sForR1 t b body L O = .next L' O' ∧ I j.toNat L' O' := by
  obtain ⟨L', O', e, h⟩ := loopD_keeps (turn := turnOf b body) (I := I) (rangeD 0 j.toNat) 0 L O1 hI fun i d L O hd hI => by
    have hl := (List.getElem?_eq_some_iff.mp hd).1
    rw [rangeD_len] at hl
    obtain rfl : d = .int (i : Int) := by
      unfold rangeD at hd
      rw [List.getElem?_map, List.getElem?_range hl] at hd
      have := (Option.some.inj hd).symm
      rw [this]
      show D.int (0 + (i : Int)) = _
      rw [Int.zero_add]
    rw [Nat.zero_add] at hI ⊢
    exact st i L O (by omega) hI
  rw [Nat.zero_add, rangeD_len] at h
  refine ⟨L', O', ?_, h⟩
  show ofRes L (t L O) (fun ds O1 => match int1 ds with
    | some j => loopD (turnOf b body) (rangeD 0 j.toNat) L O1
    | none => .bad) = _
  rw [ht]
  show (match int1 [.int j] with
    | some j => loopD (turnOf b body) (rangeD 0 j.toNat) L O1
    | none => .bad) = _
  rw [show int1 [.int j] = some j by simp [int1]; omega]
  exact e
/-! ### comprehensions -/
theorem lc_pureG {nx : Nat → Store → Option (Option D)} {turn : D → Store → List D → Option (Store × List D)} {ds : List D} {O : Store} {f : D → Option D} (hn : ∀ i, nx i O = some ds[i]?)
    (ht : ∀ d ∈ ds, ∀ acc : List D, acc.length ≤ 900000 → turn d O acc = some (O, acc ++ (f d).toList)) : ∀ (k i : Nat) (acc : List D), ds.length = i + k → acc.length + k ≤ 900000 → lcG nx turn k i O acc = some (O, acc ++ (ds.drop i).filterMap f)
  | 0, i, acc, h, hl => by
    unfold lcG
    rw [hn, List.getElem?_eq_none (by omega), List.drop_eq_nil_of_le (by omega)]
    simp
  | k + 1, i, acc, h, hl => by
    have hi : i < ds.length := by omega
    unfold lcG
    rw [hn, List.getElem?_eq_getElem hi]
    show (match turn ds[i] O acc with | some p => lcG nx turn k (i + 1) p.1 p.2 | none => none) = _
    rw [ht _ (List.getElem_mem hi) acc (by omega)]
    show lcG nx turn k (i + 1) O (acc ++ (f ds[i]).toList) = _
    have hz : (f ds[i]).toList.length ≤ 1 := by cases f ds[i] <;> simp
    rw [lc_pureG hn ht k (i + 1) _ (by omega) (by rw [List.length_append]; omega), List.drop_eq_getElem_cons hi, List.filterMap_cons, List.append_assoc]
    cases f ds[i] <;> rfl
theorem lcL_pure {src : EM} {vs : List Nat} {b : BM} {tt : TM} {el : EM} {L : Loc} {O O1 : Store} {d : D} {ds : List D} (f : D → Option D) (hs : src L O = .ok d O1) (hd : lsqOf O1 d = some ds) (hl : ds.length ≤ 900000)
    (st : ∀ d ∈ ds, ∃ L', b d (wipeL L vs) O1 = some (L', O1) ∧ ((∃ y, tt L' O1 = .ok true O1 ∧ el L' O1 = .ok y O1 ∧ f d = some y) ∨ (tt L' O1 = .ok false O1 ∧ f d = none))) :
    mLcL false src vs b tt el L O = .ok (.lst (ds.filterMap f)) O1 := by
  show ((src L O).bind fun d O1 => match lsqOf O1 d with
    | some xs => lcEnd false (lcG (fun i O => (lsqOf O d).map (·[i]?)) (lcTurn vs b tt el L) xs.length 0 O1 [])
    | none => .bad) = _
  rw [hs]
  show (match lsqOf O1 d with
    | some xs => lcEnd false (lcG (fun i O => (lsqOf O d).map (·[i]?)) (lcTurn vs b tt el L) xs.length 0 O1 [])
    | none => .bad) = _
  rw [hd]
  show lcEnd false (lcG (fun i O => (lsqOf O d).map (·[i]?)) (lcTurn vs b tt el L) ds.length 0 O1 []) = _
  rw [lc_pureG (f := f) (ds := ds) (fun i => by rw [hd]; rfl) (fun d' hd' acc ha => by
    obtain ⟨L', e1, e2⟩ := st d' hd'
    show (match b d' (wipeL L vs) O1 with
      | some p => (match tt p.1 p.2 with
        | .ok true O2 => (match el p.1 O2 with
          | .ok y O3 => if acc.length ≤ 900000 then some (O3, acc ++ [y]) else none
          | _ => none)
        | .ok false O2 => some (O2, acc)
        | _ => none)
      | none => none) = _
    rw [e1]
    rcases e2 with ⟨y, e2, e3, e4⟩ | ⟨e2, e4⟩
    · simp only [e2, e3, e4, if_pos ha]
      rfl
    · simp only [e2, e4]
      simp) ds.length 0 [] (by omega) (by simpa using hl)]
  show newL false ([] ++ (ds.drop 0).filterMap f) O1 = _
  have : (ds.filterMap f).length ≤ 1000000 := Nat.le_trans (List.length_filterMap_le ..) (by omega)
  simp [newL, this]
/-! ### lists that grow -/
/-! ### texts in order -/
end DK
end
section
set_option Elab.async false
set_option linter.all false
set_option autoImplicit false
set_option maxRecDepth 100000
set_option maxHeartbeats 4000000
/-! mirrors that many laws share: printed by mirrors.py. -/
namespace DK.Rd
open PySem L2 DK
def m_invalidline_init : EM := (mOp (gAdd false) (mC (.str "line ")) (mCall (g1 gStr) (mCons (mVar 1) mNil)))
def x_InvalidLine : XM := mkOne ["self", "line"] m_invalidline_init "line" 1
def b_law_is_name : SM := (sRet (mAndV (mChain gLe gLe (mC (.int 1)) (mCall (g1 gLen) (mCons (mVar 0) mNil)) (mC (.int 12))) (mOp gEq (mCall (g1 gLen) (mCons (mLcS false (mVar 0) [1] (bName 1) (mTest (mOp gNotIn (mVar 1) (mC (.str "abcdefghijklmnopqrstuvwxyz")))) (mVar 1)) mNil)) (mC (.int 0)))))
def f_law_is_name : FM := runF 2 b_law_is_name
def b_law_is_number : SM := (sSeq (sIf (mOr (mNot (mTest (mChain gLe gLe (mC (.int 1)) (mCall (g1 gLen) (mCons (mVar 0) mNil)) (mC (.int 7))))) (mTest (mOp gGt (mCall (g1 gLen) (mCons (mLcS false (mVar 0) [1] (bName 1) (mTest (mOp gNotIn (mVar 1) (mC (.str "0123456789")))) (mVar 1)) mNil)) (mC (.int 0))))) (sRet (mC (.bl false))) sNext)
    (sRet (mAndV (mOrV (mOp gEq (mCall (g1 gLen) (mCons (mVar 0) mNil)) (mC (.int 1))) (mOp gNe (mOp gIx (mVar 0) (mC (.int 0))) (mC (.str "0")))) (mOp gLe (mCall (g1 gInt) (mCons (mVar 0) mNil)) (mC (.int 1000000))))))
def f_law_is_number : FM := runF 2 b_law_is_number
def b_lines_of : SM := (sSeq (sIf (mTest (mOp gEq (mVar 0) (mC (.str "")))) (sRet (mLst false mNil)) sNext)
    (sSeq (sAsg (mBS (gSplit false) (mVar 0) (mCons (mC (.str "\n")) mNil)) (bName 1))
    (sSeq (sIf (mTest (mOp gNe (mOp gIx (mVar 1) (mNeg (mC (.int 1)))) (mC (.str "")))) (sRaiseX "InvalidLine" 1 x_InvalidLine (mCons (mCall (g1 gLen) (mCons (mVar 1) mNil)) mNil)) sNext)
    (sRet (mSl false (mVar 1) oNone (oSome (mNeg (mC (.int 1)))))))))
def f_lines_of : FM := runF 2 b_lines_of
def b_words : SM := (sRet (mBS (gSplit false) (mVar 0) (mCons (mC (.str " ")) mNil)))
def f_words : FM := runF 1 b_words
def b_is_name : SM := (sSeq (sIf (mOr (mNot (mTest (mIsi "str" (mVar 0)))) (mNot (mTest (mChain gLe gLe (mC (.int 1)) (mCall (g1 gLen) (mCons (mVar 0) mNil)) (mC (.int 12)))))) (sRet (mC (.bl false))) sNext)
    (sSeq (sForS (mVar 0) (bName 1) (sIf (mTest (mOp gNotIn (mVar 1) (mC (.str "abcdefghijklmnopqrstuvwxyz")))) (sRet (mC (.bl false))) sNext))
    (sRet (mC (.bl true)))))
def f_is_name : FM := runF 2 b_is_name
def b_checked_name : SM := (sSeq (sIf (mNot (mTest (mFn (arity 1 f_is_name) [] (mCons (mVar 0) mNil)))) (sRaise "InvalidName" (mCons (mC (.str "no name")) mNil)) sNext)
    (sRet (mVar 0)))
def f_checked_name : FM := runF 1 b_checked_name
def b_is_number : SM := (sSeq (sIf (mOr (mTest (mIsi "bool" (mVar 0))) (mNot (mTest (mIsi "int" (mVar 0))))) (sRet (mC (.bl false))) sNext)
    (sRet (mChain gLe gLe (mVar 1) (mVar 0) (mVar 2))))
def f_is_number : FM := runF 3 b_is_number
def b_checked_number : SM := (sSeq (sIf (mNot (mTest (mFn (arity 3 f_is_number) [] (mCons (mVar 0) (mCons (mVar 1) (mCons (mVar 2) mNil)))))) (sRaise "InvalidNumber" (mCons (mOp (gAdd false) (mOp (gAdd false) (mOp (gAdd false) (mC (.str "no number from ")) (mCall (g1 gStr) (mCons (mVar 1) mNil))) (mC (.str " to "))) (mCall (g1 gStr) (mCons (mVar 2) mNil))) mNil)) sNext)
    (sRet (mVar 0)))
def f_checked_number : FM := runF 3 b_checked_number
def b_read_number : SM := (sSeq (sIf (mOr (mNot (mTest (mIsi "str" (mVar 0)))) (mNot (mTest (mChain gLe gLe (mC (.int 1)) (mCall (g1 gLen) (mCons (mVar 0) mNil)) (mC (.int 7)))))) (sRaise "InvalidNumber" (mCons (mC (.str "no number")) mNil)) sNext)
    (sSeq (sForS (mVar 0) (bName 3) (sIf (mTest (mOp gNotIn (mVar 3) (mC (.str "0123456789")))) (sRaise "InvalidNumber" (mCons (mC (.str "no number")) mNil)) sNext))
    (sSeq (sIf (mAnd (mTest (mOp gGt (mCall (g1 gLen) (mCons (mVar 0) mNil)) (mC (.int 1)))) (mTest (mOp gEq (mOp gIx (mVar 0) (mC (.int 0))) (mC (.str "0"))))) (sRaise "InvalidNumber" (mCons (mC (.str "a nought ahead")) mNil)) sNext)
    (sRet (mFn (arity 3 f_checked_number) [] (mCons (mCall (g1 gInt) (mCons (mVar 0) mNil)) (mCons (mVar 1) (mCons (mVar 2) mNil))))))))
def f_read_number : FM := runF 4 b_read_number
end DK.Rd
end
section
set_option Elab.async false
set_option linter.all false
set_option autoImplicit false
set_option maxRecDepth 100000
set_option maxHeartbeats 4000000
/-! DKSpl: rows of a text, in plain Lean. -/
namespace DK.Sp
open PySem L2 DK
abbrev one (c : Nat) : Str := ⟨#[c]⟩
def jn (c : Nat) (ps : List Str) : List Nat := (Str.join (one c) ps).cps.toList
def free (c : Nat) (ps : List Str) : Prop := ∀ p ∈ ps, c ∉ p.cps.toList
theorem str_ext {a b : Str} (h : a.cps.toList = b.cps.toList) : a = b := Str.ext' (Array.toList_inj.mp h)
theorem jn_one (c : Nat) (x : Str) : jn c [x] = x.cps.toList := rfl
theorem jn_cons (c : Nat) (x y : Str) (r : List Str) : jn c (x :: y :: r) = x.cps.toList ++ c :: jn c (y :: r) := by
  unfold jn
  show ((x ++ one c ++ Str.join (one c) (y :: r)).cps).toList = _
  rw [Str.cps_append, Str.cps_append, Array.toList_append, Array.toList_append, List.append_assoc]
  rfl
theorem cut_eq {c : Nat} : ∀ {x y A B : List Nat}, c ∉ x → c ∉ y → x ++ c :: A = y ++ c :: B → x = y ∧ A = B
  | [], [], A, B, _, _, h => ⟨rfl, (List.cons.inj h).2⟩
  | [], b :: y, A, B, _, hy, h => absurd (List.mem_cons.mpr (.inl (List.cons.inj h).1)) hy
  | a :: x, [], A, B, hx, _, h => absurd (List.mem_cons.mpr (.inl (List.cons.inj h).1.symm)) hx
  | a :: x, b :: y, A, B, hx, hy, h => by
    obtain ⟨h1, h2⟩ := List.cons.inj h
    obtain ⟨h3, h4⟩ := cut_eq (fun z => hx (List.mem_cons_of_mem _ z)) (fun z => hy (List.mem_cons_of_mem _ z)) h2
    exact ⟨by rw [h1, h3], h4⟩
theorem jn_uniq {c : Nat} : ∀ {ps qs : List Str}, ps ≠ [] → qs ≠ [] → free c ps → free c qs → jn c ps = jn c qs → ps = qs
  | [], _, h, _, _, _, _ => absurd rfl h
  | _, [], _, h, _, _, _ => absurd rfl h
  | [x], [y], _, _, _, _, h => by rw [jn_one, jn_one] at h; rw [str_ext h]
  | [x], y :: z :: r, _, _, hp, _, h => by
    rw [jn_one, jn_cons] at h
    exact absurd (by rw [h]; simp) (hp x List.mem_cons_self)
  | x :: z :: r, [y], _, _, _, hq, h => by
    rw [jn_one, jn_cons] at h
    exact absurd (by rw [← h]; simp) (hq y List.mem_cons_self)
  | x :: z :: r, y :: z' :: r', _, _, hp, hq, h => by
    rw [jn_cons, jn_cons] at h
    obtain ⟨h1, h2⟩ := cut_eq (hp x List.mem_cons_self) (hq y List.mem_cons_self) h
    rw [str_ext h1, jn_uniq (ps := z :: r) (qs := z' :: r') (by simp) (by simp) (fun p hp' => hp p (List.mem_cons_of_mem _ hp')) (fun p hp' => hq p (List.mem_cons_of_mem _ hp')) h2]
theorem jn_new {c : Nat} {l : Str} : ∀ {A : List Str}, jn c (A ++ [l, Str.empty]) = jn c (A ++ [l]) ++ [c]
  | [] => by
    show jn c (l :: Str.empty :: []) = l.cps.toList ++ [c]
    rw [jn_cons]
    rfl
  | [x] => by
    show jn c (x :: l :: Str.empty :: []) = jn c (x :: l :: []) ++ [c]
    rw [jn_cons, jn_cons, jn_cons, jn_one, jn_one, List.append_assoc]
    rfl
  | x :: y :: A => by
    show jn c (x :: y :: (A ++ [l, Str.empty])) = jn c (x :: y :: (A ++ [l])) ++ [c]
    rw [jn_cons, jn_cons, show y :: (A ++ [l, Str.empty]) = (y :: A) ++ [l, Str.empty] from rfl, jn_new (A := y :: A), List.append_assoc]
    rfl
theorem split_is {c : Nat} {x : Str} {ps : List Str} (h0 : ps ≠ []) (hf : free c ps) (h : jn c ps = x.cps.toList) : Txt.split x (one c) = ps := by
  have j : Str.join (one c) (Txt.split x (one c)) = x := StrLaws.join_split x (one c)
  have hs : Txt.split x (one c) ≠ [] := fun e => by
    unfold Txt.split at e
    split at e
    · cases e
    · split at e
      · cases e
      · rw [StrLaws.partsBetween_eq] at e
        obtain ⟨p, r, e2⟩ := StrLaws.partsFrom_ne x (one c).length 0 (Builtin.Str.occurrences x (one c) 0 x.length (x.length + 1))
        rw [e2] at e
        cases e
  exact jn_uniq hs h0 (StrLaws.split_free x c) hf (by unfold jn at h ⊢; rw [j, h])
theorem part_in {c q : Nat} {p : Str} : ∀ {ps : List Str}, p ∈ ps → q ∈ p.cps.toList → q ∈ jn c ps
  | [], h, _ => by cases h
  | [x], h, hq => by rw [jn_one, ← List.mem_singleton.mp h]; exact hq
  | x :: y :: r, h, hq => by
    rw [jn_cons]
    rcases List.mem_cons.mp h with rfl | h
    · exact List.mem_append_left _ hq
    · exact List.mem_append_right _ (List.mem_cons_of_mem _ (part_in (ps := y :: r) h hq))
theorem strOk_iff {x : Str} : PyData.strOk x = true ↔ ∀ q ∈ x.cps.toList, q < 0x110000 := by
  unfold PyData.strOk
  rw [Array.all_eq_true]
  constructor
  · intro h q hq
    obtain ⟨i, hi, e⟩ := List.getElem_of_mem hq
    have := h i (by simpa using hi)
    rw [← e]
    simpa using this
  · intro h i hi
    have := h (x.cps[i]) (by simp)
    simpa using this
theorem split_len {c : Nat} {x : Str} : (Txt.split x (one c)).length ≤ x.length + 1 := by
  have j : Str.join (one c) (Txt.split x (one c)) = x := StrLaws.join_split x (one c)
  have key : ∀ ps : List Str, ps.length ≤ (jn c ps).length + 1 := fun ps => by
    induction ps with
    | nil => exact Nat.zero_le _
    | cons a ps ih =>
      cases ps with
      | nil => simp
      | cons b r =>
        rw [jn_cons, List.length_append, List.length_cons, List.length_cons] at *
        simp only [List.length_cons] at ih ⊢
        omega
  have := key (Txt.split x (one c))
  unfold jn at this
  rw [j] at this
  simpa [Str.length] using this
theorem part_len {c : Nat} {p : Str} : ∀ {ps : List Str}, p ∈ ps → p.cps.toList.length ≤ (jn c ps).length
  | [], h => by cases h
  | [y], h => by rw [jn_one, ← List.mem_singleton.mp h]; exact Nat.le_refl _
  | a :: b :: r, h => by
    rw [jn_cons, List.length_append, List.length_cons]
    rcases List.mem_cons.mp h with rfl | h
    · omega
    · have := part_len (c := c) (ps := b :: r) h
      omega
theorem split_part {c : Nat} {x p : Str} (h : p ∈ Txt.split x (one c)) : p.length ≤ x.length := by
  have j : Str.join (one c) (Txt.split x (one c)) = x := StrLaws.join_split x (one c)
  have := part_len (c := c) h
  unfold jn at this
  rw [j] at this
  simpa [Str.length] using this
theorem sum_le {m : Nat} : ∀ {ys : List Str}, (∀ p ∈ ys, p.length ≤ m) → (ys.map (·.length)).sum ≤ ys.length * m
  | [], _ => by simp
  | y :: ys, h => by
    have h1 := h y List.mem_cons_self
    have h2 := sum_le (ys := ys) fun p hp => h p (List.mem_cons_of_mem _ hp)
    rw [List.map_cons, List.sum_cons, List.length_cons, Nat.succ_mul]
    omega
theorem jn_flat {c : Nat} : ∀ {A : List Str}, jn c (A ++ [Str.empty]) = A.flatMap fun p => p.cps.toList ++ [c]
  | [] => rfl
  | [x] => by
    show jn c (x :: Str.empty :: []) = _
    rw [jn_cons]
    simp
    rfl
  | x :: y :: A => by
    show jn c (x :: y :: (A ++ [Str.empty])) = _
    rw [jn_cons, show jn c (y :: (A ++ [Str.empty])) = jn c ((y :: A) ++ [Str.empty]) from rfl, jn_flat (A := y :: A), List.flatMap_cons]
    simp
theorem join_flat : ∀ {ps : List Str}, (Str.join Str.empty ps).cps.toList = ps.flatMap fun p => p.cps.toList
  | [] => rfl
  | [x] => by
    show x.cps.toList = _
    simp
  | x :: y :: r => by
    show ((x ++ Str.empty ++ Str.join Str.empty (y :: r)).cps).toList = _
    rw [Str.cps_append, Str.cps_append, Array.toList_append, Array.toList_append, join_flat (ps := y :: r), List.flatMap_cons]
    simp [Str.empty]
end DK.Sp
end
section
set_option Elab.async false
set_option linter.all false
set_option autoImplicit false
set_option maxRecDepth 100000
set_option maxHeartbeats 4000000
/-! DKRd: names, numbers, words and lines read, in plain Lean. -/
namespace DK.Rd
open PySem L2 DK DK.Sp
theorem chars_eq (w : Str) : charsD w = w.cps.toList.map fun c => D.str ⟨#[c]⟩ := rfl
theorem gIx_str {O : Store} {s : Str} {i : Int} {c : Nat} (hl : s.length ≤ 1000000) (h : atI s.cps.toList i = some c) : gIx O (.str s) (.int i) = some (.str ⟨#[c]⟩, O) := by
  show (if s.length ≤ 1000000 then (match atI s.cps.toList i with
      | some c => some (D.str ⟨#[c]⟩, O)
      | none => none) else none) = _
  rw [if_pos hl, h]
theorem gAdd_str {O : Store} {h : Bool} {a b : Str} (hl : a.length + b.length ≤ 1000000) : gAdd h O (.str a) (.str b) = some (.str (a ++ b), O) := by
  show (if a.length + b.length ≤ 1000000 then some (D.str (a ++ b), O) else none) = _
  rw [if_pos hl]
/-! ### names -/
abbrev LET : Str := "abcdefghijklmnopqrstuvwxyz"
abbrev FIG : Str := "0123456789"
def nameB (w : Str) : Bool := decide (1 ≤ (w.length : Int)) && (decide ((w.length : Int) ≤ 12) && allIn LET w.cps.toList)
theorem law_name_ok {w : Str} {O : Store} (hw : w.length ≤ 900) : f_law_is_name [.str w] O = .ok (.bl (nameB w)) O := by
  have hl : w.length ≤ 1000000 := by omega
  have e := lcS_signs (i := 1) (cs := LET) (w := w) (src := mVar 0) (L := [some (.str w), none]) (O := O) (by simp) rfl (by omega)
  unfold nameB
  have hz := outOf_zero (cs := LET) (w := w.cps.toList)
  by_cases h1 : 1 ≤ (w.length : Int) <;> by_cases h2 : (w.length : Int) ≤ 12 <;> cases hc : allIn LET w.cps.toList <;> rw [hc] at hz <;> simp [f_law_is_name, b_law_is_name, runF, sSeq, sIf, sNext, sDrop, sRet, sRetN, sAsg, ofRes, ofB, bName, bNil, bCons, bTup, bLst, bSubL, mTest, mOp, mVar, mC, mChain, mAnd, mOr, mNot, mIf, mAndV, mOrV, mNotV, mNeg, mCons, mNil, mTup, mLst, newL, mCall, mFn, arity, g1, g2, gLen, gInt, gAbs, gMax2, gMin2, gIx, seqOf, lsqOf, lstOf, Res.bind, ofO, gAdd_ok, gSub_ok, gEq_int, gNe_int, gLt_int, gLe_int, gGt_int, gGe_int, gEq_bl, gNe_bl, gEq_str, gNe_str, mIsi, mIsiT, tyD, kitL, kitTab, atI_c0, atI_c1, atI_c2, atI_c3, atI_c4, sForR1, int1, int2, mMeth, mMake, mFld, sFldM, gIs, gIsNot, isNon_t, sRaise, gList, newLO, hl, h1, h2, e, hc] <;> simpa using hz
theorem is_name_ok {w : Str} {O : Store} (hw : w.length ≤ 900) : f_is_name [.str w] O = .ok (.bl (nameB w)) O := by
  have hl : w.length ≤ 1000000 := by omega
  unfold nameB
  by_cases h1 : 1 ≤ (w.length : Int)
  · by_cases h2 : (w.length : Int) ≤ 12
    · cases hc : allIn LET w.cps.toList
      · obtain ⟨L', e⟩ := loop_signs_no (i := 1) (cs := LET) (bad := sRet (mC (.bl false))) (fun L O => .inl ⟨_, rfl⟩) w.cps.toList [some (.str w), none] O (by simp) hc
        simp only [signB] at e
        simp [f_is_name, b_is_name, sForS, chars_eq, runF, sSeq, sIf, sNext, sDrop, sRet, sRetN, sAsg, ofRes, ofB, bName, bNil, bCons, bTup, bLst, bSubL, mTest, mOp, mVar, mC, mChain, mAnd, mOr, mNot, mIf, mAndV, mOrV, mNotV, mNeg, mCons, mNil, mTup, mLst, newL, mCall, mFn, arity, g1, g2, gLen, gInt, gAbs, gMax2, gMin2, gIx, seqOf, lsqOf, lstOf, Res.bind, ofO, gAdd_ok, gSub_ok, gEq_int, gNe_int, gLt_int, gLe_int, gGt_int, gGe_int, gEq_bl, gNe_bl, gEq_str, gNe_str, mIsi, mIsiT, tyD, kitL, kitTab, atI_c0, atI_c1, atI_c2, atI_c3, atI_c4, sForR1, int1, int2, mMeth, mMake, mFld, sFldM, gIs, gIsNot, isNon_t, sRaise, gList, newLO, hl, h1, h2, e]
      · obtain ⟨d, e⟩ := loop_signs_ok (i := 1) (cs := LET) (bad := sRet (mC (.bl false))) w.cps.toList [some (.str w), none] O (by simp) hc
        simp only [signB] at e
        simp [f_is_name, b_is_name, sForS, chars_eq, runF, sSeq, sIf, sNext, sDrop, sRet, sRetN, sAsg, ofRes, ofB, bName, bNil, bCons, bTup, bLst, bSubL, mTest, mOp, mVar, mC, mChain, mAnd, mOr, mNot, mIf, mAndV, mOrV, mNotV, mNeg, mCons, mNil, mTup, mLst, newL, mCall, mFn, arity, g1, g2, gLen, gInt, gAbs, gMax2, gMin2, gIx, seqOf, lsqOf, lstOf, Res.bind, ofO, gAdd_ok, gSub_ok, gEq_int, gNe_int, gLt_int, gLe_int, gGt_int, gGe_int, gEq_bl, gNe_bl, gEq_str, gNe_str, mIsi, mIsiT, tyD, kitL, kitTab, atI_c0, atI_c1, atI_c2, atI_c3, atI_c4, sForR1, int1, int2, mMeth, mMake, mFld, sFldM, gIs, gIsNot, isNon_t, sRaise, gList, newLO, hl, h1, h2, e]
    · simp [f_is_name, b_is_name, runF, sSeq, sIf, sNext, sDrop, sRet, sRetN, sAsg, ofRes, ofB, bName, bNil, bCons, bTup, bLst, bSubL, mTest, mOp, mVar, mC, mChain, mAnd, mOr, mNot, mIf, mAndV, mOrV, mNotV, mNeg, mCons, mNil, mTup, mLst, newL, mCall, mFn, arity, g1, g2, gLen, gInt, gAbs, gMax2, gMin2, gIx, seqOf, lsqOf, lstOf, Res.bind, ofO, gAdd_ok, gSub_ok, gEq_int, gNe_int, gLt_int, gLe_int, gGt_int, gGe_int, gEq_bl, gNe_bl, gEq_str, gNe_str, mIsi, mIsiT, tyD, kitL, kitTab, atI_c0, atI_c1, atI_c2, atI_c3, atI_c4, sForR1, int1, int2, mMeth, mMake, mFld, sFldM, gIs, gIsNot, isNon_t, sRaise, gList, newLO, hl, h1, h2]
  · simp [f_is_name, b_is_name, runF, sSeq, sIf, sNext, sDrop, sRet, sRetN, sAsg, ofRes, ofB, bName, bNil, bCons, bTup, bLst, bSubL, mTest, mOp, mVar, mC, mChain, mAnd, mOr, mNot, mIf, mAndV, mOrV, mNotV, mNeg, mCons, mNil, mTup, mLst, newL, mCall, mFn, arity, g1, g2, gLen, gInt, gAbs, gMax2, gMin2, gIx, seqOf, lsqOf, lstOf, Res.bind, ofO, gAdd_ok, gSub_ok, gEq_int, gNe_int, gLt_int, gLe_int, gGt_int, gGe_int, gEq_bl, gNe_bl, gEq_str, gNe_str, mIsi, mIsiT, tyD, kitL, kitTab, atI_c0, atI_c1, atI_c2, atI_c3, atI_c4, sForR1, int1, int2, mMeth, mMake, mFld, sFldM, gIs, gIsNot, isNon_t, sRaise, gList, newLO, hl, h1]
theorem checked_name_ok {w : Str} {O : Store} (hw : w.length ≤ 900) : f_checked_name [.str w] O = if nameB w = true then .ok (.str w) O else .exc ⟨"InvalidName", none⟩ O := by
  have e := is_name_ok (O := O) hw
  cases h : nameB w <;> rw [h] at e <;> simp [f_checked_name, b_checked_name, runF, sSeq, sIf, sNext, sDrop, sRet, sRetN, sAsg, ofRes, ofB, bName, bNil, bCons, bTup, bLst, bSubL, mTest, mOp, mVar, mC, mChain, mAnd, mOr, mNot, mIf, mAndV, mOrV, mNotV, mNeg, mCons, mNil, mTup, mLst, newL, mCall, mFn, arity, g1, g2, gLen, gInt, gAbs, gMax2, gMin2, gIx, seqOf, lsqOf, lstOf, Res.bind, ofO, gAdd_ok, gSub_ok, gEq_int, gNe_int, gLt_int, gLe_int, gGt_int, gGe_int, gEq_bl, gNe_bl, gEq_str, gNe_str, mIsi, mIsiT, tyD, kitL, kitTab, atI_c0, atI_c1, atI_c2, atI_c3, atI_c4, sForR1, int1, int2, mMeth, mMake, mFld, sFldM, gIs, gIsNot, isNon_t, sRaise, gList, newLO, e]
theorem nameB_len {w : Str} (h : nameB w = true) : 1 ≤ w.length ∧ w.length ≤ 12 := by
  unfold nameB at h
  simp at h
  omega
/-- a name has no sign but letters -/
theorem nameB_free {w : Str} {c : Nat} (h : nameB w = true) (hc : c < 97) : c ∉ w.cps.toList := fun hm => by
  unfold nameB at h
  have h3 := (Bool.and_eq_true_iff.mp (Bool.and_eq_true_iff.mp h).2).2
  have := of_decide_eq_true (List.all_eq_true.mp h3 c hm)
  rw [show LET.cps.toList = [97, 98, 99, 100, 101, 102, 103, 104, 105, 106, 107, 108, 109, 110, 111, 112, 113, 114, 115, 116, 117, 118, 119, 120, 121, 122] from rfl] at this
  simp at this
  omega
/-! ### numbers -/
def headN (w : Str) : Bool := match w.cps.toList with
  | 48 :: _ => true
  | _ => false
def figB (w : Str) : Bool := decide (1 ≤ (w.length : Int)) && (decide ((w.length : Int) ≤ 7) && (allIn FIG w.cps.toList && (decide ((w.length : Int) = 1) || !headN w)))
def valW (w : Str) : Int := (PySem.intText? w).getD 0
def numW (w : Str) : Bool := figB w && decide (valW w ≤ 1000000)
theorem all_digits {w : Str} (hc : allIn FIG w.cps.toList = true) : PySem.NumText.AllDigits w.cps.toList := fun c hcm => by
  have := of_decide_eq_true (List.all_eq_true.mp hc c hcm)
  rw [show FIG.cps.toList = [48, 49, 50, 51, 52, 53, 54, 55, 56, 57] from rfl] at this
  simp at this
  omega
theorem len_list (w : Str) : w.cps.toList.length = w.length := by rw [Array.length_toList]; rfl
theorem val_of {w : Str} (hc : allIn FIG w.cps.toList = true) (h1 : 1 ≤ w.length) (h2 : w.length ≤ 7) : PySem.intText? w = some (valW w) ∧ 0 ≤ valW w ∧ valW w = ((PySem.NumText.digitsVal w.cps.toList : Nat) : Int) := by
  have hwl := len_list w
  have e := PySem.intText_digits (all_digits hc) (fun z => by rw [z] at hwl; simp at hwl; omega) (by omega)
  unfold valW
  rw [e]
  exact ⟨rfl, Int.natCast_nonneg _, rfl⟩
theorem head_eq {w : Str} {c : Nat} {cs : List Nat} (h : w.cps.toList = c :: cs) : decide ((⟨#[c]⟩ : Str) = "0") = headN w := by
  unfold headN
  rw [h]
  by_cases hc : c = 48
  · subst hc
    rfl
  · have : ¬ (⟨#[c]⟩ : Str) = "0" := fun q => hc (by
      have q2 : (⟨#[c]⟩ : Str).cps[0]? = (("0" : Str)).cps[0]? := congrArg (fun z : Str => z.cps[0]?) q
      exact Option.some.inj ((show (⟨#[c]⟩ : Str).cps[0]? = some c from rfl).symm.trans (q2.trans (show (("0" : Str)).cps[0]? = some 48 from by decide +kernel))))
    rw [decide_eq_false this]
    split
    · rename_i q
      exact absurd (List.cons.inj q).1 hc
    · rfl
theorem checked0_ok {v : Int} {O : Store} (h0 : 0 ≤ v) : f_checked_number [.int v, .int 0, .int 1000000] O = if v ≤ 1000000 then .ok (.int v) O else .exc ⟨"InvalidNumber", none⟩ O := by
  by_cases h : v ≤ 1000000
  · simp [f_checked_number, b_checked_number, f_is_number, b_is_number, runF, sSeq, sIf, sNext, sDrop, sRet, sRetN, sAsg, ofRes, ofB, bName, bNil, bCons, bTup, bLst, bSubL, mTest, mOp, mVar, mC, mChain, mAnd, mOr, mNot, mIf, mAndV, mOrV, mNotV, mNeg, mCons, mNil, mTup, mLst, newL, mCall, mFn, arity, g1, g2, gLen, gInt, gAbs, gMax2, gMin2, gIx, seqOf, lsqOf, lstOf, Res.bind, ofO, gAdd_ok, gSub_ok, gEq_int, gNe_int, gLt_int, gLe_int, gGt_int, gGe_int, gEq_bl, gNe_bl, gEq_str, gNe_str, mIsi, mIsiT, tyD, kitL, kitTab, atI_c0, atI_c1, atI_c2, atI_c3, atI_c4, sForR1, int1, int2, mMeth, mMake, mFld, sFldM, gIs, gIsNot, isNon_t, sRaise, gList, newLO, h0, h]
  · obtain ⟨z, hm⟩ : ∃ z, (mCons (mOp (gAdd false) (mOp (gAdd false) (mOp (gAdd false) (mC (.str "no number from ")) (mCall (DK.g1 gStr) (mCons (mVar 1) mNil))) (mC (.str " to "))) (mCall (DK.g1 gStr) (mCons (mVar 2) mNil))) mNil) [some (.int v), some (.int 0), some (.int 1000000)] O = .ok [z] O := ⟨_, rfl⟩
    unfold f_checked_number b_checked_number
    generalize (mCons (mOp (gAdd false) (mOp (gAdd false) (mOp (gAdd false) (mC (.str "no number from ")) (mCall (DK.g1 gStr) (mCons (mVar 1) mNil))) (mC (.str " to "))) (mCall (DK.g1 gStr) (mCons (mVar 2) mNil))) mNil) = mm at hm ⊢
    simp [f_is_number, b_is_number, runF, sSeq, sIf, sNext, sDrop, sRet, sRetN, sAsg, ofRes, ofB, bName, bNil, bCons, bTup, bLst, bSubL, mTest, mOp, mVar, mC, mChain, mAnd, mOr, mNot, mIf, mAndV, mOrV, mNotV, mNeg, mCons, mNil, mTup, mLst, newL, mCall, mFn, arity, g1, g2, gLen, gInt, gAbs, gMax2, gMin2, gIx, seqOf, lsqOf, lstOf, Res.bind, ofO, gAdd_ok, gSub_ok, gEq_int, gNe_int, gLt_int, gLe_int, gGt_int, gGe_int, gEq_bl, gNe_bl, gEq_str, gNe_str, mIsi, mIsiT, tyD, kitL, kitTab, atI_c0, atI_c1, atI_c2, atI_c3, atI_c4, sForR1, int1, int2, mMeth, mMake, mFld, sFldM, gIs, gIsNot, isNon_t, sRaise, gList, newLO, h0, h, hm]
theorem read_ok {w : Str} {O : Store} (hw : w.length ≤ 900) : f_read_number [.str w, .int 0, .int 1000000] O = if numW w = true then .ok (.int (valW w)) O else .exc ⟨"InvalidNumber", none⟩ O := by
  have hl : w.length ≤ 1000000 := by omega
  unfold numW figB
  by_cases h1 : 1 ≤ (w.length : Int)
  · by_cases h2 : (w.length : Int) ≤ 7
    · cases hc : allIn FIG w.cps.toList
      · obtain ⟨L', e2⟩ := loop_signs_no (i := 3) (cs := FIG) (bad := sRaise "InvalidNumber" (mCons (mC (.str "no number")) mNil)) (fun L O => .inr ⟨_, rfl⟩) w.cps.toList [some (.str w), some (.int 0), some (.int 1000000), none] O (by simp) hc
        simp only [signB] at e2
        simp [f_read_number, b_read_number, sForS, chars_eq, runF, sSeq, sIf, sNext, sDrop, sRet, sRetN, sAsg, ofRes, ofB, bName, bNil, bCons, bTup, bLst, bSubL, mTest, mOp, mVar, mC, mChain, mAnd, mOr, mNot, mIf, mAndV, mOrV, mNotV, mNeg, mCons, mNil, mTup, mLst, newL, mCall, mFn, arity, g1, g2, gLen, gInt, gAbs, gMax2, gMin2, gIx, seqOf, lsqOf, lstOf, Res.bind, ofO, gAdd_ok, gSub_ok, gEq_int, gNe_int, gLt_int, gLe_int, gGt_int, gGe_int, gEq_bl, gNe_bl, gEq_str, gNe_str, mIsi, mIsiT, tyD, kitL, kitTab, atI_c0, atI_c1, atI_c2, atI_c3, atI_c4, sForR1, int1, int2, mMeth, mMake, mFld, sFldM, gIs, gIsNot, isNon_t, sRaise, gList, newLO, hl, h1, h2, e2]
      · obtain ⟨hv, v0, _⟩ := val_of hc (by omega) (by omega)
        obtain ⟨d, e2⟩ := loop_signs_ok (i := 3) (cs := FIG) (bad := sRaise "InvalidNumber" (mCons (mC (.str "no number")) mNil)) w.cps.toList [some (.str w), some (.int 0), some (.int 1000000), none] O (by simp) hc
        simp only [signB] at e2
        have hl2 : w.length ≤ 640 := by omega
        have e5 := checked0_ok (O := O) v0
        obtain ⟨c, cs, hcs⟩ : ∃ c cs, w.cps.toList = c :: cs := by
          have := len_list w
          match h : w.cps.toList with
          | [] => rw [h] at this; simp at this; omega
          | c :: cs => exact ⟨c, cs, rfl⟩
        have hx := gIx_str (O := O) (s := w) hl (atI_nat (Int.le_refl 0) (show w.cps.toList[(0 : Int).toNat]? = some c by rw [hcs]; rfl))
        have hh := head_eq hcs
        generalize (⟨#[c]⟩ : Str) = sc at *
        rw [← hcs] at *
        by_cases h3 : 1 < (w.length : Int)
        · have h3' : ¬ (w.length : Int) = 1 := by omega
          by_cases h4 : sc = "0"
          · have hq : headN w = true := by rw [← hh]; exact decide_eq_true h4
            simp [f_read_number, b_read_number, sForS, chars_eq, runF, sSeq, sIf, sNext, sDrop, sRet, sRetN, sAsg, ofRes, ofB, bName, bNil, bCons, bTup, bLst, bSubL, mTest, mOp, mVar, mC, mChain, mAnd, mOr, mNot, mIf, mAndV, mOrV, mNotV, mNeg, mCons, mNil, mTup, mLst, newL, mCall, mFn, arity, g1, g2, gLen, gInt, gAbs, gMax2, gMin2, seqOf, lsqOf, lstOf, Res.bind, ofO, gAdd_ok, gSub_ok, gEq_int, gNe_int, gLt_int, gLe_int, gGt_int, gGe_int, gEq_bl, gNe_bl, gEq_str, gNe_str, mIsi, mIsiT, tyD, kitL, kitTab, atI_c0, atI_c1, atI_c2, atI_c3, atI_c4, sForR1, int1, int2, mMeth, mMake, mFld, sFldM, gIs, gIsNot, isNon_t, sRaise, gList, newLO, hl, h1, h2, e2, h3, h3', hx, h4, hq]
          · have hh : headN w = false := by rw [← hh]; exact decide_eq_false h4
            by_cases h6 : valW w ≤ 1000000 <;> simp only [h6, if_true, if_false] at e5 <;> simp [f_read_number, b_read_number, sForS, chars_eq, runF, sSeq, sIf, sNext, sDrop, sRet, sRetN, sAsg, ofRes, ofB, bName, bNil, bCons, bTup, bLst, bSubL, mTest, mOp, mVar, mC, mChain, mAnd, mOr, mNot, mIf, mAndV, mOrV, mNotV, mNeg, mCons, mNil, mTup, mLst, newL, mCall, mFn, arity, g1, g2, gLen, gInt, gAbs, gMax2, gMin2, seqOf, lsqOf, lstOf, Res.bind, ofO, gAdd_ok, gSub_ok, gEq_int, gNe_int, gLt_int, gLe_int, gGt_int, gGe_int, gEq_bl, gNe_bl, gEq_str, gNe_str, mIsi, mIsiT, tyD, kitL, kitTab, atI_c0, atI_c1, atI_c2, atI_c3, atI_c4, sForR1, int1, int2, mMeth, mMake, mFld, sFldM, gIs, gIsNot, isNon_t, sRaise, gList, newLO, hl, hl2, h1, h2, e2, h3, h3', hx, hh, h4, hv, h6, e5]
        · have h3' : (w.length : Int) = 1 := by omega
          by_cases h6 : valW w ≤ 1000000 <;> simp only [h6, if_true, if_false] at e5 <;> simp [f_read_number, b_read_number, sForS, chars_eq, runF, sSeq, sIf, sNext, sDrop, sRet, sRetN, sAsg, ofRes, ofB, bName, bNil, bCons, bTup, bLst, bSubL, mTest, mOp, mVar, mC, mChain, mAnd, mOr, mNot, mIf, mAndV, mOrV, mNotV, mNeg, mCons, mNil, mTup, mLst, newL, mCall, mFn, arity, g1, g2, gLen, gInt, gAbs, gMax2, gMin2, seqOf, lsqOf, lstOf, Res.bind, ofO, gAdd_ok, gSub_ok, gEq_int, gNe_int, gLt_int, gLe_int, gGt_int, gGe_int, gEq_bl, gNe_bl, gEq_str, gNe_str, mIsi, mIsiT, tyD, kitL, kitTab, atI_c0, atI_c1, atI_c2, atI_c3, atI_c4, sForR1, int1, int2, mMeth, mMake, mFld, sFldM, gIs, gIsNot, isNon_t, sRaise, gList, newLO, hl, hl2, h1, h2, e2, h3, h3', hv, h6, e5]
    · simp [f_read_number, b_read_number, runF, sSeq, sIf, sNext, sDrop, sRet, sRetN, sAsg, ofRes, ofB, bName, bNil, bCons, bTup, bLst, bSubL, mTest, mOp, mVar, mC, mChain, mAnd, mOr, mNot, mIf, mAndV, mOrV, mNotV, mNeg, mCons, mNil, mTup, mLst, newL, mCall, mFn, arity, g1, g2, gLen, gInt, gAbs, gMax2, gMin2, gIx, seqOf, lsqOf, lstOf, Res.bind, ofO, gAdd_ok, gSub_ok, gEq_int, gNe_int, gLt_int, gLe_int, gGt_int, gGe_int, gEq_bl, gNe_bl, gEq_str, gNe_str, mIsi, mIsiT, tyD, kitL, kitTab, atI_c0, atI_c1, atI_c2, atI_c3, atI_c4, sForR1, int1, int2, mMeth, mMake, mFld, sFldM, gIs, gIsNot, isNon_t, sRaise, gList, newLO, hl, h1, h2]
  · simp [f_read_number, b_read_number, runF, sSeq, sIf, sNext, sDrop, sRet, sRetN, sAsg, ofRes, ofB, bName, bNil, bCons, bTup, bLst, bSubL, mTest, mOp, mVar, mC, mChain, mAnd, mOr, mNot, mIf, mAndV, mOrV, mNotV, mNeg, mCons, mNil, mTup, mLst, newL, mCall, mFn, arity, g1, g2, gLen, gInt, gAbs, gMax2, gMin2, gIx, seqOf, lsqOf, lstOf, Res.bind, ofO, gAdd_ok, gSub_ok, gEq_int, gNe_int, gLt_int, gLe_int, gGt_int, gGe_int, gEq_bl, gNe_bl, gEq_str, gNe_str, mIsi, mIsiT, tyD, kitL, kitTab, atI_c0, atI_c1, atI_c2, atI_c3, atI_c4, sForR1, int1, int2, mMeth, mMake, mFld, sFldM, gIs, gIsNot, isNon_t, sRaise, gList, newLO, hl, h1]
theorem law_number_ok {w : Str} {O : Store} (hw : w.length ≤ 900) : f_law_is_number [.str w] O = .ok (.bl (numW w)) O := by
  have hl : w.length ≤ 1000000 := by omega
  have e := lcS_signs (i := 1) (cs := FIG) (w := w) (src := mVar 0) (L := [some (.str w), none]) (O := O) (by simp) rfl (by omega)
  have hz := outOf_zero (cs := FIG) (w := w.cps.toList)
  unfold numW figB
  by_cases h1 : 1 ≤ (w.length : Int)
  · by_cases h2 : (w.length : Int) ≤ 7
    · cases hc : allIn FIG w.cps.toList
      · have hp : 0 < (outOf FIG w.cps.toList).length := Nat.pos_of_ne_zero fun z => by rw [hz.mp z] at hc; cases hc
        simp [f_law_is_number, b_law_is_number, runF, sSeq, sIf, sNext, sDrop, sRet, sRetN, sAsg, ofRes, ofB, bName, bNil, bCons, bTup, bLst, bSubL, mTest, mOp, mVar, mC, mChain, mAnd, mOr, mNot, mIf, mAndV, mOrV, mNotV, mNeg, mCons, mNil, mTup, mLst, newL, mCall, mFn, arity, g1, g2, gLen, gInt, gAbs, gMax2, gMin2, gIx, seqOf, lsqOf, lstOf, Res.bind, ofO, gAdd_ok, gSub_ok, gEq_int, gNe_int, gLt_int, gLe_int, gGt_int, gGe_int, gEq_bl, gNe_bl, gEq_str, gNe_str, mIsi, mIsiT, tyD, kitL, kitTab, atI_c0, atI_c1, atI_c2, atI_c3, atI_c4, sForR1, int1, int2, mMeth, mMake, mFld, sFldM, gIs, gIsNot, isNon_t, sRaise, gList, newLO, hl, h1, h2, e, hp]
      · have hp : ¬ 0 < (outOf FIG w.cps.toList).length := by rw [hz.mpr hc]; decide
        obtain ⟨hv, v0, _⟩ := val_of hc (by omega) (by omega)
        have hl2 : w.length ≤ 640 := by omega
        obtain ⟨c, cs, hcs⟩ : ∃ c cs, w.cps.toList = c :: cs := by
          have := len_list w
          match h : w.cps.toList with
          | [] => rw [h] at this; simp at this; omega
          | c :: cs => exact ⟨c, cs, rfl⟩
        have hx := gIx_str (O := O) (s := w) hl (atI_nat (Int.le_refl 0) (show w.cps.toList[(0 : Int).toNat]? = some c by rw [hcs]; rfl))
        have hh := head_eq hcs
        generalize (⟨#[c]⟩ : Str) = sc at *
        by_cases h3 : (w.length : Int) = 1
        · by_cases h6 : valW w ≤ 1000000 <;> simp [f_law_is_number, b_law_is_number, runF, sSeq, sIf, sNext, sDrop, sRet, sRetN, sAsg, ofRes, ofB, bName, bNil, bCons, bTup, bLst, bSubL, mTest, mOp, mVar, mC, mChain, mAnd, mOr, mNot, mIf, mAndV, mOrV, mNotV, mNeg, mCons, mNil, mTup, mLst, newL, mCall, mFn, arity, g1, g2, gLen, gInt, gAbs, gMax2, gMin2, seqOf, lsqOf, lstOf, Res.bind, ofO, gAdd_ok, gSub_ok, gEq_int, gNe_int, gLt_int, gLe_int, gGt_int, gGe_int, gEq_bl, gNe_bl, gEq_str, gNe_str, mIsi, mIsiT, tyD, kitL, kitTab, atI_c0, atI_c1, atI_c2, atI_c3, atI_c4, sForR1, int1, int2, mMeth, mMake, mFld, sFldM, gIs, gIsNot, isNon_t, sRaise, gList, newLO, hl, hl2, h1, h2, e, hp, h3, hv, h6]
        · by_cases h4 : sc = "0"
          · have hh : headN w = true := by rw [← hh]; exact decide_eq_true h4
            simp [f_law_is_number, b_law_is_number, runF, sSeq, sIf, sNext, sDrop, sRet, sRetN, sAsg, ofRes, ofB, bName, bNil, bCons, bTup, bLst, bSubL, mTest, mOp, mVar, mC, mChain, mAnd, mOr, mNot, mIf, mAndV, mOrV, mNotV, mNeg, mCons, mNil, mTup, mLst, newL, mCall, mFn, arity, g1, g2, gLen, gInt, gAbs, gMax2, gMin2, seqOf, lsqOf, lstOf, Res.bind, ofO, gAdd_ok, gSub_ok, gEq_int, gNe_int, gLt_int, gLe_int, gGt_int, gGe_int, gEq_bl, gNe_bl, gEq_str, gNe_str, mIsi, mIsiT, tyD, kitL, kitTab, atI_c0, atI_c1, atI_c2, atI_c3, atI_c4, sForR1, int1, int2, mMeth, mMake, mFld, sFldM, gIs, gIsNot, isNon_t, sRaise, gList, newLO, hl, hl2, h1, h2, e, hp, h3, hx, h4, hh]
          · have hh : headN w = false := by rw [← hh]; exact decide_eq_false h4
            by_cases h6 : valW w ≤ 1000000 <;> simp [f_law_is_number, b_law_is_number, runF, sSeq, sIf, sNext, sDrop, sRet, sRetN, sAsg, ofRes, ofB, bName, bNil, bCons, bTup, bLst, bSubL, mTest, mOp, mVar, mC, mChain, mAnd, mOr, mNot, mIf, mAndV, mOrV, mNotV, mNeg, mCons, mNil, mTup, mLst, newL, mCall, mFn, arity, g1, g2, gLen, gInt, gAbs, gMax2, gMin2, seqOf, lsqOf, lstOf, Res.bind, ofO, gAdd_ok, gSub_ok, gEq_int, gNe_int, gLt_int, gLe_int, gGt_int, gGe_int, gEq_bl, gNe_bl, gEq_str, gNe_str, mIsi, mIsiT, tyD, kitL, kitTab, atI_c0, atI_c1, atI_c2, atI_c3, atI_c4, sForR1, int1, int2, mMeth, mMake, mFld, sFldM, gIs, gIsNot, isNon_t, sRaise, gList, newLO, hl, hl2, h1, h2, e, hp, h3, hx, h4, hh, hv, h6]
    · simp [f_law_is_number, b_law_is_number, runF, sSeq, sIf, sNext, sDrop, sRet, sRetN, sAsg, ofRes, ofB, bName, bNil, bCons, bTup, bLst, bSubL, mTest, mOp, mVar, mC, mChain, mAnd, mOr, mNot, mIf, mAndV, mOrV, mNotV, mNeg, mCons, mNil, mTup, mLst, newL, mCall, mFn, arity, g1, g2, gLen, gInt, gAbs, gMax2, gMin2, gIx, seqOf, lsqOf, lstOf, Res.bind, ofO, gAdd_ok, gSub_ok, gEq_int, gNe_int, gLt_int, gLe_int, gGt_int, gGe_int, gEq_bl, gNe_bl, gEq_str, gNe_str, mIsi, mIsiT, tyD, kitL, kitTab, atI_c0, atI_c1, atI_c2, atI_c3, atI_c4, sForR1, int1, int2, mMeth, mMake, mFld, sFldM, gIs, gIsNot, isNon_t, sRaise, gList, newLO, hl, h1, h2]
  · simp [f_law_is_number, b_law_is_number, runF, sSeq, sIf, sNext, sDrop, sRet, sRetN, sAsg, ofRes, ofB, bName, bNil, bCons, bTup, bLst, bSubL, mTest, mOp, mVar, mC, mChain, mAnd, mOr, mNot, mIf, mAndV, mOrV, mNotV, mNeg, mCons, mNil, mTup, mLst, newL, mCall, mFn, arity, g1, g2, gLen, gInt, gAbs, gMax2, gMin2, gIx, seqOf, lsqOf, lstOf, Res.bind, ofO, gAdd_ok, gSub_ok, gEq_int, gNe_int, gLt_int, gLe_int, gGt_int, gGe_int, gEq_bl, gNe_bl, gEq_str, gNe_str, mIsi, mIsiT, tyD, kitL, kitTab, atI_c0, atI_c1, atI_c2, atI_c3, atI_c4, sForR1, int1, int2, mMeth, mMake, mFld, sFldM, gIs, gIsNot, isNon_t, sRaise, gList, newLO, hl, h1]
end DK.Rd
end
section
set_option Elab.async false
set_option linter.all false
set_option autoImplicit false
set_option maxRecDepth 100000
set_option maxHeartbeats 4000000
/-! DKEq: == of values that stand as they are, in plain Lean. -/
namespace DK
open PySem L2
mutual
def pdD : D → PyData
  | .non => .none
  | .bl b => .bool b
  | .int i => .int i
  | .str s => .str s
  | .lst xs => .list (pdAll xs)
  | .rol xs => .list (pdAll xs)
  | .tup xs => .tuple (pdAll xs)
  | .hdl _ => .none
def pdAll : List D → List PyData
  | [] => []
  | x :: xs => pdD x :: pdAll xs
end
mutual
/-- no object of the store within, at most n deep -/
def okV : D → Nat → Bool
  | .non, _ => true
  | .bl _, _ => true
  | .int _, _ => true
  | .str s, _ => PySem.PyData.strOk s
  | .lst xs, n => okAll xs (n - 1) && decide (0 < n)
  | .rol xs, n => okAll xs (n - 1) && decide (0 < n)
  | .tup xs, n => okAll xs (n - 1) && decide (0 < n)
  | .hdl _, _ => false
def okAll : List D → Nat → Bool
  | [], _ => true
  | x :: xs, n => okV x n && okAll xs n
end
mutual
theorem deep_pd (O : Store) : ∀ (d : D) (n : Nat), okV d n = true → deep O (n + 1) d = some (pdD d)
  | .non, n, _ => rfl
  | .bl _, n, _ => rfl
  | .int _, n, _ => rfl
  | .str _, n, _ => rfl
  | .hdl _, n, h => by cases h
  | .lst xs, n, h => by
    obtain ⟨h1, h2⟩ := Bool.and_eq_true_iff.mp (show (okAll xs (n - 1) && decide (0 < n)) = true from h)
    have h2 := of_decide_eq_true h2
    show (xs.mapM (deep O n)).map PyData.list = _
    have := deep_pdAll O xs (n - 1) h1
    rw [show n - 1 + 1 = n by omega] at this
    rw [this]
    rfl
  | .rol xs, n, h => by
    obtain ⟨h1, h2⟩ := Bool.and_eq_true_iff.mp (show (okAll xs (n - 1) && decide (0 < n)) = true from h)
    have h2 := of_decide_eq_true h2
    show (xs.mapM (deep O n)).map PyData.list = _
    have := deep_pdAll O xs (n - 1) h1
    rw [show n - 1 + 1 = n by omega] at this
    rw [this]
    rfl
  | .tup xs, n, h => by
    obtain ⟨h1, h2⟩ := Bool.and_eq_true_iff.mp (show (okAll xs (n - 1) && decide (0 < n)) = true from h)
    have h2 := of_decide_eq_true h2
    show (xs.mapM (deep O n)).map PyData.tuple = _
    have := deep_pdAll O xs (n - 1) h1
    rw [show n - 1 + 1 = n by omega] at this
    rw [this]
    rfl
theorem deep_pdAll (O : Store) : ∀ (ds : List D) (n : Nat), okAll ds n = true → ds.mapM (deep O (n + 1)) = some (pdAll ds)
  | [], n, _ => by simp [pdAll]
  | d :: ds, n, h => by
    obtain ⟨h1, h2⟩ := Bool.and_eq_true_iff.mp (show (okV d n && okAll ds n) = true from h)
    rw [mapM_cons, deep_pd O d n h1]
    show (ds.mapM (deep O (n + 1))).bind _ = _
    rw [deep_pdAll O ds n h2]
    rfl
end
mutual
theorem shape_pd : ∀ (d : D) (n : Nat), okV d n = true → (pdD d).canLay0 = true ∧ (pdD d).depth ≤ n
  | .non, n, _ => ⟨rfl, Nat.zero_le _⟩
  | .bl _, n, _ => ⟨rfl, Nat.zero_le _⟩
  | .int _, n, _ => ⟨rfl, Nat.zero_le _⟩
  | .str s, n, h => ⟨by simpa [pdD, PyData.canLay0, okV] using h, Nat.zero_le _⟩
  | .hdl _, n, h => by cases h
  | .lst xs, n, h => by
    obtain ⟨h1, h2⟩ := Bool.and_eq_true_iff.mp (show (okAll xs (n - 1) && decide (0 < n)) = true from h)
    have h2 := of_decide_eq_true h2
    obtain ⟨q1, q2⟩ := shape_pdAll xs (n - 1) h1
    exact ⟨by simpa [pdD, PyData.canLay0] using q1, by simp only [pdD, PyData.depth]; omega⟩
  | .rol xs, n, h => by
    obtain ⟨h1, h2⟩ := Bool.and_eq_true_iff.mp (show (okAll xs (n - 1) && decide (0 < n)) = true from h)
    have h2 := of_decide_eq_true h2
    obtain ⟨q1, q2⟩ := shape_pdAll xs (n - 1) h1
    exact ⟨by simpa [pdD, PyData.canLay0] using q1, by simp only [pdD, PyData.depth]; omega⟩
  | .tup xs, n, h => by
    obtain ⟨h1, h2⟩ := Bool.and_eq_true_iff.mp (show (okAll xs (n - 1) && decide (0 < n)) = true from h)
    have h2 := of_decide_eq_true h2
    obtain ⟨q1, q2⟩ := shape_pdAll xs (n - 1) h1
    exact ⟨by simpa [pdD, PyData.canLay0] using q1, by simp only [pdD, PyData.depth]; omega⟩
theorem shape_pdAll : ∀ (ds : List D) (n : Nat), okAll ds n = true → PyData.canLayAll0 (pdAll ds) = true ∧ PyData.depthAll (pdAll ds) ≤ n
  | [], n, _ => ⟨by simp [pdAll, PyData.canLayAll0], by simp [pdAll, PyData.depthAll]⟩
  | d :: ds, n, h => by
    obtain ⟨h1, h2⟩ := Bool.and_eq_true_iff.mp (show (okV d n && okAll ds n) = true from h)
    obtain ⟨p1, p2⟩ := shape_pd d n h1
    obtain ⟨q1, q2⟩ := shape_pdAll ds n h2
    exact ⟨by simp [pdAll, PyData.canLayAll0, p1, q1], by simp only [pdAll, PyData.depthAll]; omega⟩
end
theorem shaped_pd {d : D} (h : okV d 29 = true) : SeqAt.shaped (pdD d) = true := by
  obtain ⟨h1, h2⟩ := shape_pd d 29 h
  unfold SeqAt.shaped
  rw [h1]
  simp
  all_goals omega
theorem eqD_pd {O : Store} {x y : D} (hx : okV x 29 = true) (hy : okV y 29 = true) (hf : flatOf x = none ∨ flatOf y = none) : eqD O x y = some (PyData.eqv (pdD x) (pdD y)) := by
  have e : eqD O x y = match deep O 30 x, deep O 30 y with
    | some p, some q => if SeqAt.shaped p = true ∧ SeqAt.shaped q = true then some (PyData.eqv p q) else none
    | _, _ => none := by
    unfold eqD
    rcases hf with hf | hf
    · rw [hf]
      all_goals (cases flatOf y <;> rfl)
    · rw [hf]
      all_goals (cases flatOf x <;> rfl)
  rw [e, deep_pd O x 29 hx, deep_pd O y 29 hy]
  show (if SeqAt.shaped (pdD x) = true ∧ SeqAt.shaped (pdD y) = true then some (PyData.eqv (pdD x) (pdD y)) else none) = _
  rw [if_pos ⟨shaped_pd hx, shaped_pd hy⟩]
theorem eqv_self {x : D} (hx : okV x 29 = true) : PyData.eqv (pdD x) (pdD x) = true := PySem.SeqAt.eqv_refl_plain _ (PyData.plain_of_canLay0 _ (shape_pd x 29 hx).1)
/-- an object of the store reads as its list -/
theorem eqD_hl {O : Store} {n : Nat} {xs : List D} {y : D} (h : O[n]? = some (.lst xs)) : eqD O (.hdl n) y = eqD O (.lst xs) y := by
  have e : deep O 30 (.hdl n) = deep O 30 (.lst xs) := by
    show (match O[n]? with | some (.lst xs) => (xs.mapM (deep O 29)).map PyData.list | _ => none) = _
    rw [h]
    rfl
  unfold eqD
  rw [e]
  rfl
theorem gEq_of {O : Store} {x y : D} {b : Bool} (h : eqD O x y = some b) : gEq O x y = some (.bl b, O) := by unfold gEq; rw [h]
theorem gNe_of {O : Store} {x y : D} {b : Bool} (h : eqD O x y = some b) : gNe O x y = some (.bl (!b), O) := by unfold gNe; rw [h]
theorem gEq_self {O : Store} {x : D} (hx : okV x 29 = true) (hf : flatOf x = none) : gEq O x x = some (.bl true, O) := by rw [gEq_of (eqD_pd hx hx (.inl hf)), eqv_self hx]
theorem gNe_self {O : Store} {x : D} (hx : okV x 29 = true) (hf : flatOf x = none) : gNe O x x = some (.bl false, O) := by rw [gNe_of (eqD_pd hx hx (.inl hf)), eqv_self hx]; rfl
theorem okAll_of {n : Nat} : ∀ {ds : List D}, (∀ d ∈ ds, okV d n = true) → okAll ds n = true
  | [], _ => rfl
  | d :: ds, h => by
    show (okV d n && okAll ds n) = true
    rw [h d (by simp), okAll_of fun x hx => h x (List.mem_cons_of_mem _ hx)]
    rfl
theorem okV_lst {n : Nat} {ds : List D} (h : ∀ d ∈ ds, okV d n = true) : okV (.lst ds) (n + 1) = true := by
  show (okAll ds (n + 1 - 1) && decide (0 < n + 1)) = true
  rw [Nat.add_sub_cancel, okAll_of h]
  simp
theorem okV_tup {n : Nat} {ds : List D} (h : ∀ d ∈ ds, okV d n = true) : okV (.tup ds) (n + 1) = true := by
  show (okAll ds (n + 1 - 1) && decide (0 < n + 1)) = true
  rw [Nat.add_sub_cancel, okAll_of h]
  simp
theorem okV_strs {n : Nat} {xs : List Str} (h : ∀ x ∈ xs, PyData.strOk x = true) : okV (.lst (xs.map .str)) (n + 1) = true := okV_lst fun d hd => by
  obtain ⟨x, hx, rfl⟩ := List.mem_map.mp hd
  exact h x hx
end DK
end
section
set_option Elab.async false
set_option linter.all false
set_option autoImplicit false
set_option maxRecDepth 100000
set_option maxHeartbeats 4000000
/-! DKLcK: comprehensions over a list of the store whose tests or elements make objects, in plain Lean. -/
namespace DK.Lc
open PySem L2 DK
theorem strsOf_m : ∀ ys : List Str, strsOf (ys.map D.str) = some ys
  | [] => rfl
  | y :: ys => by
    show (strsOf (ys.map D.str)).map (y :: ·) = _
    rw [strsOf_m ys]
    rfl
theorem seq_next {a b : SM} {L L1 : Loc} {O O1 : Store} (h : a L O = .next L1 O1) : sSeq a b L O = b L1 O1 := by
  unfold sSeq
  rw [h]
theorem seq_ret {a b : SM} {L : Loc} {d : D} {O O1 : Store} (h : a L O = .ret d O1) : sSeq a b L O = .ret d O1 := by
  unfold sSeq
  rw [h]
theorem seq_exc {a b : SM} {L L1 : Loc} {x : Exn} {O O1 : Store} (h : a L O = .exc x L1 O1) : sSeq a b L O = .exc x L1 O1 := by
  unfold sSeq
  rw [h]
theorem lsq_h {O : Store} {n : Nat} {xs : List D} (e : O[n]? = some (.lst xs)) : lsqOf O (.hdl n) = some xs := by
  simp [lsqOf, lstOf, e]
theorem forH_keeps {m : EM} {b : BM} {body : SM} {n : Nat} {xs : List D} {I : Nat → Loc → Store → Prop} {L : Loc} {O O1 : Store} (hm : m L O = .ok (.hdl n) O1) (e : O1[n]? = some (.lst xs)) (ho : ∀ j L O, I j L O → O[n]? = some (.lst xs)) (hI : I 0 L O1)
    (st : ∀ j d L O, xs[j]? = some d → I j L O → ∃ L' O', turnOf b body d L O = .next L' O' ∧ I (j + 1) L' O') : ∃ L' O', sForL m b body L O = .next L' O' ∧ I xs.length L' O' := by
  obtain ⟨L', O', e1, h⟩ := loopH_keeps (turn := turnOf b body) ho xs.length 0 L O1 (by omega) hI st
  refine ⟨L', O', ?_, h⟩
  show ofRes L (m L O) _ = _
  rw [hm]
  show (match O1[n]? with | some (.lst xs) => loopH (turnOf b body) n xs.length 0 L O1 | _ => .bad) = _
  rw [e]
  exact e1
/-! ### loops that stop at the first bad turn -/
theorem loopD_first {turn : D → SM} {I : Nat → Loc → Store → Prop} {good : Nat → Bool} {R : Nat → SR → Prop} (hR : ∀ j r f, R j r → afterT r f = r) : ∀ (ds : List D) (i : Nat) (L : Loc) (O : Store), I i L O →
    (∀ j d L O, ds[j]? = some d → I (i + j) L O → (good (i + j) = true → ∃ L' O', turn d L O = .next L' O' ∧ I (i + j + 1) L' O') ∧ (good (i + j) = false → R (i + j) (turn d L O))) →
    ((∀ j, j < ds.length → good (i + j) = true) ∧ ∃ L' O', loopD turn ds L O = .next L' O' ∧ I (i + ds.length) L' O') ∨ ∃ j, j < ds.length ∧ (∀ j', j' < j → good (i + j') = true) ∧ good (i + j) = false ∧ R (i + j) (loopD turn ds L O)
  | [], i, L, O, h, _ => .inl ⟨fun j hj => absurd hj (Nat.not_lt_zero _), L, O, rfl, h⟩
  | d :: ds, i, L, O, h, k => by
    rw [loopD_cons]
    have k0 := k 0 d L O rfl h
    rw [Nat.add_zero] at k0
    cases hg : good i with
    | false =>
      have r := k0.2 hg
      exact .inr ⟨0, by simp, fun j' hj => absurd hj (Nat.not_lt_zero _), hg, by rw [Nat.add_zero, hR _ _ _ r]; exact r⟩
    | true =>
      obtain ⟨L1, O1, e, h1⟩ := k0.1 hg
      rw [e]
      have := loopD_first (turn := turn) (I := I) (good := good) (R := R) hR ds (i + 1) L1 O1 h1 fun j d' L O hd hI => by
        have := k (j + 1) d' L O hd (by rw [show i + (j + 1) = i + 1 + j by omega]; exact hI)
        rw [show i + (j + 1) = i + 1 + j by omega] at this
        exact this
      rcases this with ⟨g1, L', O', e1, h2⟩ | ⟨j, hj, g1, g2, r⟩
      · refine .inl ⟨fun j hj => ?_, L', O', e1, by rw [show i + (d :: ds).length = i + 1 + ds.length by rw [List.length_cons]; omega]; exact h2⟩
        cases j with
        | zero => exact hg
        | succ j =>
          rw [show i + (j + 1) = i + 1 + j by omega]
          exact g1 j (by rw [List.length_cons] at hj; omega)
      · refine .inr ⟨j + 1, by rw [List.length_cons]; omega, fun j' hj' => ?_, by rw [show i + (j + 1) = i + 1 + j by omega]; exact g2, by rw [show i + (j + 1) = i + 1 + j by omega]; exact r⟩
        cases j' with
        | zero => exact hg
        | succ j' =>
          rw [show i + (j' + 1) = i + 1 + j' by omega]
          exact g1 j' (by omega)
theorem range_at {a : Int} {n i : Nat} {d : D} (h : (rangeD a n)[i]? = some d) : i < n ∧ d = .int (a + (i : Int)) := by
  have hl := (List.getElem?_eq_some_iff.mp h).1
  rw [rangeD_len] at hl
  unfold rangeD at h
  rw [List.getElem?_map, List.getElem?_range hl] at h
  exact ⟨hl, (Option.some.inj h).symm⟩
theorem forR1_first {t : AM} {b : BM} {body : SM} {I : Nat → Loc → Store → Prop} {good : Nat → Bool} {R : Nat → SR → Prop} {L : Loc} {O O1 : Store} {n : Nat} (ht : t L O = .ok [.int (n : Int)] O1) (h1 : n ≤ 1000000) (hI : I 0 L O1) (hR : ∀ j r f, R j r → afterT r f = r)
    (st : ∀ (i : Nat) L O, i < n → I i L O → (good i = true → ∃ L' O', turnOf b body (.int (i : Int)) L O = .next L' O' ∧ I (i + 1) L' O') ∧ (good i = false → R i (turnOf b body (.int (i : Int)) L O))) :
    ((∀ i, i < n → good i = true) ∧ ∃ L' O', sForR1 t b body L O = .next L' O' ∧ I n L' O') ∨ ∃ i, i < n ∧ (∀ j, j < i → good j = true) ∧ good i = false ∧ R i (sForR1 t b body L O) := by
  have e : sForR1 t b body L O = loopD (turnOf b body) (rangeD 0 n) L O1 := by
    show ofRes L (t L O) (fun ds O1 => match int1 ds with
      | some j => loopD (turnOf b body) (rangeD 0 j.toNat) L O1
      | none => .bad) = _
    rw [ht]
    show (match int1 [.int (n : Int)] with
      | some j => loopD (turnOf b body) (rangeD 0 j.toNat) L O1
      | none => .bad) = _
    rw [show int1 [.int (n : Int)] = some (n : Int) by simp [int1]; omega]
    rfl
  rw [e]
  have := loopD_first (turn := turnOf b body) (I := I) (good := good) (R := R) hR (rangeD 0 n) 0 L O1 hI fun j d L O hd hI => by
    obtain ⟨hj, rfl⟩ := range_at hd
    rw [Nat.zero_add] at hI ⊢
    rw [Int.zero_add]
    exact st j L O hj hI
  rw [rangeD_len, Nat.zero_add] at this
  rcases this with ⟨g, h⟩ | ⟨j, hj, g1, g2, r⟩
  · exact .inl ⟨fun i hi => by have := g i hi; rwa [Nat.zero_add] at this, h⟩
  · rw [Nat.zero_add] at g2 r
    exact .inr ⟨j, hj, fun j' h => by have := g1 j' h; rwa [Nat.zero_add] at this, g2, r⟩
theorem forR2_first {t : AM} {b : BM} {body : SM} {I : Nat → Loc → Store → Prop} {good : Nat → Bool} {R : Nat → SR → Prop} {L : Loc} {O O1 : Store} {a n : Nat} (ht : t L O = .ok [.int (a : Int), .int (n : Int)] O1) (ha : a ≤ n) (h1 : n ≤ 1000000) (hI : I a L O1) (hR : ∀ j r f, R j r → afterT r f = r)
    (st : ∀ (i : Nat) L O, a ≤ i → i < n → I i L O → (good i = true → ∃ L' O', turnOf b body (.int (i : Int)) L O = .next L' O' ∧ I (i + 1) L' O') ∧ (good i = false → R i (turnOf b body (.int (i : Int)) L O))) :
    ((∀ i, a ≤ i → i < n → good i = true) ∧ ∃ L' O', sForR2 t b body L O = .next L' O' ∧ I n L' O') ∨ ∃ i, a ≤ i ∧ i < n ∧ (∀ j, a ≤ j → j < i → good j = true) ∧ good i = false ∧ R i (sForR2 t b body L O) := by
  have e : sForR2 t b body L O = loopD (turnOf b body) (rangeD (a : Int) (n - a)) L O1 := by
    show ofRes L (t L O) (fun ds O1 => match int2 ds with
      | some p => loopD (turnOf b body) (rangeD p.1 (p.2 - p.1).toNat) L O1
      | none => .bad) = _
    rw [ht]
    show (match int2 [.int (a : Int), .int (n : Int)] with
      | some p => loopD (turnOf b body) (rangeD p.1 (p.2 - p.1).toNat) L O1
      | none => .bad) = _
    rw [show int2 [.int (a : Int), .int (n : Int)] = some ((a : Int), (n : Int)) by simp [int2]; omega]
    show loopD (turnOf b body) (rangeD (a : Int) ((n : Int) - (a : Int)).toNat) L O1 = _
    rw [show ((n : Int) - (a : Int)).toNat = n - a by omega]
  rw [e]
  have := loopD_first (turn := turnOf b body) (I := fun i => I i) (good := good) (R := R) hR (rangeD (a : Int) (n - a)) a L O1 hI fun j d L O hd hI => by
    obtain ⟨hj, rfl⟩ := range_at hd
    rw [show ((a : Int) + (j : Int)) = (((a + j : Nat)) : Int) by omega]
    exact st (a + j) L O (by omega) (by omega) hI
  rw [rangeD_len, show a + (n - a) = n by omega] at this
  rcases this with ⟨g, h⟩ | ⟨j, hj, g1, g2, r⟩
  · exact .inl ⟨fun i h1 h2 => by have := g (i - a) (by omega); rwa [show a + (i - a) = i by omega] at this, h⟩
  · exact .inr ⟨a + j, by omega, by omega, fun j' h1 h2 => by have := g1 (j' - a) (by omega); rwa [show a + (j' - a) = j' by omega] at this, g2, r⟩
end DK.Lc
end
section
set_option Elab.async false
set_option linter.all false
set_option autoImplicit false
set_option maxRecDepth 100000
set_option maxHeartbeats 4000000
/-! K39A: a row of a sheet, in plain Lean. -/
namespace DK.k39
open PySem L2 DK DK.Sp DK.Rd DK.Lc
theorem y_words : f_words = Rd.f_words := rfl
theorem y_lines : f_lines_of = Rd.f_lines_of := rfl
theorem y_cname : f_checked_name = Rd.f_checked_name := rfl
theorem y_read : f_read_number = Rd.f_read_number := rfl
theorem y_lname : f_law_is_name = Rd.f_law_is_name := rfl
theorem y_lnum : f_law_is_number = Rd.f_law_is_number := rfl
abbrev R4 := Int × Str × Str × Option Str
def optS : Option Str → D
  | none => .non
  | some s => .str s
abbrev r4D (r : R4) : D := .tup [.int r.1, .str r.2.1, .str r.2.2.1, optS r.2.2.2]
abbrev k4D (r : R4) : D := .tup [.int r.1, .str r.2.1, .str r.2.2.1]
abbrev parts (ln : Str) : List Str := Txt.split ln (one 32)
def rowP (ps : List Str) : Option R4 := match ps with
  | [a, b, c, d, e] => if b = "close" ∧ d = "to" ∧ numW a = true ∧ nameB c = true ∧ nameB e = true then some (valW a, "close", c, some e) else none
  | [a, b, c] => if (b = "crank" ∨ b = "start") ∧ numW a = true ∧ nameB c = true then some (valW a, b, c, none) else none
  | _ => none
section
variable {O : Store} {ln : Str}
theorem gs32 (hx : ln.length ≤ 900) : gSplit false O ln [.str " "] = some (.lst ((parts ln).map .str), O) := by
  have sl := split_len (c := 32) (x := ln)
  show (if ((" " : Str).length == 0) = false ∧ ln.length ≤ 1000000 then rows false (Txt.split ln " ") O else none) = _
  rw [if_pos ⟨rfl, by omega⟩]
  show newLO false _ O = _
  unfold newLO
  rw [show (" " : Str) = one 32 from rfl, if_pos (by rw [List.length_map]; omega)]
  rfl
theorem in2 {b : Str} : gIn O (.str b) (.tup [.str "crank", .str "start"]) = some (.bl (decide (b = "crank" ∨ b = "start")), O) := by
  have e : inD O (.str b) (.tup [.str "crank", .str "start"]) = some (inV (V.str b) [V.str "crank", V.str "start"]) := by
    unfold inD
    split
    · rename_i h; cases h
    · have hs : seqOf O (.tup [.str "crank", .str "start"]) = some [.str "crank", .str "start"] := rfl
      have hm : ([D.str "crank", .str "start"]).mapM flatOf = some [V.str "crank", V.str "start"] := by
        simp only [mapM_cons, List.mapM_nil]
        rfl
      rw [hs]
      show (match ([D.str "crank", .str "start"]).mapM flatOf with | some vs => some (inV (V.str b) vs) | none => none) = _
      rw [hm]
  unfold gIn
  rw [e]
  show some (D.bl (inV (V.str b) [V.str "crank", V.str "start"]), O) = _
  have q : inV (V.str b) [V.str "crank", V.str "start"] = decide (b = "crank" ∨ b = "start") := by
    have z : inV (V.str b) [V.str "crank", V.str "start"] = (decide (b = "crank") || decide (b = "start")) := by
      have key : ∀ x y : Str, eqV (V.str x) (V.str y) = decide (y = x) := fun x y => by
        by_cases h : y = x
        · subst h; simp [eqV]
        · have h2 : ¬ x = y := fun q => h q.symm
          simp [eqV, h, h2]
      simp [inV, key]
    rw [z, Bool.decide_or]
  rw [q]
def outE (r : Option R4) (q : Res D) (O : Store) : Prop := match r with
  | some r => q = .ok (r4D r) O
  | none => q = .ok .non O ∨ ∃ c : Str, (c = "InvalidName" ∨ c = "InvalidNumber") ∧ q = .exc ⟨c, none⟩ O
theorem read5 {a b c d e : Str} (ha : a.length ≤ 900) (hc : c.length ≤ 900) (he : e.length ≤ 900) : outE (rowP [a, b, c, d, e]) (f_read_row [.lst [.str a, .str b, .str c, .str d, .str e]] O) O := by
  have e1 := fun O => read_ok (O := O) ha
  have e2 := fun O => checked_name_ok (O := O) hc
  have e3 := fun O => checked_name_ok (O := O) he
  rw [← y_read] at e1
  rw [← y_cname] at e2 e3
  unfold rowP outE
  by_cases hb : b = "close" <;> by_cases hd : d = "to"
  · cases h1 : numW a <;> cases h2 : nameB c <;> cases h3 : nameB e <;> simp [h1] at e1 <;> simp [h2] at e2 <;> simp [h3] at e3 <;> simp [f_read_row, b_read_row, runF, sSeq, sIf, sNext, sDrop, sRet, sRetN, sAsg, ofRes, ofB, bName, bNil, bCons, bTup, bLst, bSubL, mTest, mOp, mVar, mC, mChain, mAnd, mOr, mNot, mIf, mAndV, mOrV, mNotV, mNeg, mCons, mNil, mTup, mLst, newL, mCall, mFn, arity, g1, g2, gLen, gInt, gAbs, gMax2, gMin2, gIx, seqOf, lsqOf, lstOf, Res.bind, ofO, gAdd_ok, gSub_ok, gEq_int, gNe_int, gLt_int, gLe_int, gGt_int, gGe_int, gEq_bl, gNe_bl, gEq_str, gNe_str, mIsi, mIsiT, tyD, kitL, kitTab, atI_c0, atI_c1, atI_c2, atI_c3, atI_c4, sForR1, int1, int2, mMeth, mMake, mFld, sFldM, gIs, gIsNot, isNon_t, sRaise, gList, newLO, hb, hd, e1, e2, e3, optS, h1, h2, h3]
  all_goals simp [f_read_row, b_read_row, runF, sSeq, sIf, sNext, sDrop, sRet, sRetN, sAsg, ofRes, ofB, bName, bNil, bCons, bTup, bLst, bSubL, mTest, mOp, mVar, mC, mChain, mAnd, mOr, mNot, mIf, mAndV, mOrV, mNotV, mNeg, mCons, mNil, mTup, mLst, newL, mCall, mFn, arity, g1, g2, gLen, gInt, gAbs, gMax2, gMin2, gIx, seqOf, lsqOf, lstOf, Res.bind, ofO, gAdd_ok, gSub_ok, gEq_int, gNe_int, gLt_int, gLe_int, gGt_int, gGe_int, gEq_bl, gNe_bl, gEq_str, gNe_str, mIsi, mIsiT, tyD, kitL, kitTab, atI_c0, atI_c1, atI_c2, atI_c3, atI_c4, sForR1, int1, int2, mMeth, mMake, mFld, sFldM, gIs, gIsNot, isNon_t, sRaise, gList, newLO, hb, hd]
theorem read3 {a b c : Str} (ha : a.length ≤ 900) (hc : c.length ≤ 900) : outE (rowP [a, b, c]) (f_read_row [.lst [.str a, .str b, .str c]] O) O := by
  have e1 := fun O => read_ok (O := O) ha
  have e2 := fun O => checked_name_ok (O := O) hc
  have e4 := fun O => in2 (O := O) (b := b)
  rw [← y_read] at e1
  rw [← y_cname] at e2
  unfold rowP outE
  by_cases hb : b = "crank" ∨ b = "start"
  · cases h1 : numW a <;> cases h2 : nameB c <;> simp [h1] at e1 <;> simp [h2] at e2 <;> simp [hb] at e4 <;> simp [f_read_row, b_read_row, runF, sSeq, sIf, sNext, sDrop, sRet, sRetN, sAsg, ofRes, ofB, bName, bNil, bCons, bTup, bLst, bSubL, mTest, mOp, mVar, mC, mChain, mAnd, mOr, mNot, mIf, mAndV, mOrV, mNotV, mNeg, mCons, mNil, mTup, mLst, newL, mCall, mFn, arity, g1, g2, gLen, gInt, gAbs, gMax2, gMin2, gIx, seqOf, lsqOf, lstOf, Res.bind, ofO, gAdd_ok, gSub_ok, gEq_int, gNe_int, gLt_int, gLe_int, gGt_int, gGe_int, gEq_bl, gNe_bl, gEq_str, gNe_str, mIsi, mIsiT, tyD, kitL, kitTab, atI_c0, atI_c1, atI_c2, atI_c3, atI_c4, sForR1, int1, int2, mMeth, mMake, mFld, sFldM, gIs, gIsNot, isNon_t, sRaise, gList, newLO, hb, e1, e2, e4, optS, h1, h2]
  · simp [hb] at e4
    simp [f_read_row, b_read_row, runF, sSeq, sIf, sNext, sDrop, sRet, sRetN, sAsg, ofRes, ofB, bName, bNil, bCons, bTup, bLst, bSubL, mTest, mOp, mVar, mC, mChain, mAnd, mOr, mNot, mIf, mAndV, mOrV, mNotV, mNeg, mCons, mNil, mTup, mLst, newL, mCall, mFn, arity, g1, g2, gLen, gInt, gAbs, gMax2, gMin2, gIx, seqOf, lsqOf, lstOf, Res.bind, ofO, gAdd_ok, gSub_ok, gEq_int, gNe_int, gLt_int, gLe_int, gGt_int, gGe_int, gEq_bl, gNe_bl, gEq_str, gNe_str, mIsi, mIsiT, tyD, kitL, kitTab, atI_c0, atI_c1, atI_c2, atI_c3, atI_c4, sForR1, int1, int2, mMeth, mMake, mFld, sFldM, gIs, gIsNot, isNon_t, sRaise, gList, newLO, hb, e4]
theorem readX {ps : List Str} (h3 : ps.length ≠ 3) (h5 : ps.length ≠ 5) : f_read_row [.lst (ps.map .str)] O = .ok .non O := by
  have hl : ((ps.map D.str).length : Int) = (ps.length : Int) := by rw [List.length_map]
  have h3 : ¬ (ps.length : Int) = 3 := by omega
  have h5 : ¬ (ps.length : Int) = 5 := by omega
  generalize ps.map D.str = zs at *
  simp [f_read_row, b_read_row, runF, sSeq, sIf, sNext, sDrop, sRet, sRetN, sAsg, ofRes, ofB, bName, bNil, bCons, bTup, bLst, bSubL, mTest, mOp, mVar, mC, mChain, mAnd, mOr, mNot, mIf, mAndV, mOrV, mNotV, mNeg, mCons, mNil, mTup, mLst, newL, mCall, mFn, arity, g1, g2, gLen, gInt, gAbs, gMax2, gMin2, gIx, seqOf, lsqOf, lstOf, Res.bind, ofO, gAdd_ok, gSub_ok, gEq_int, gNe_int, gLt_int, gLe_int, gGt_int, gGe_int, gEq_bl, gNe_bl, gEq_str, gNe_str, mIsi, mIsiT, tyD, kitL, kitTab, atI_c0, atI_c1, atI_c2, atI_c3, atI_c4, sForR1, int1, int2, mMeth, mMake, mFld, sFldM, gIs, gIsNot, isNon_t, sRaise, gList, newLO, hl, h3, h5]
theorem rowP_none {ps : List Str} (h3 : ps.length ≠ 3) (h5 : ps.length ≠ 5) : rowP ps = none := by
  unfold rowP
  split
  · exact absurd rfl h5
  · exact absurd rfl h3
  · rfl
theorem read_row_ok {ps : List Str} (hp : ∀ p ∈ ps, p.length ≤ 900) : outE (rowP ps) (f_read_row [.lst (ps.map .str)] O) O := by
  match ps, hp with
  | [a, b, c, d, e], hp => exact read5 (hp a (by simp)) (hp c (by simp)) (hp e (by simp))
  | [a, b, c], hp => exact read3 (hp a (by simp)) (hp c (by simp))
  | [], _ => exact .inl rfl
  | [a], _ => exact .inl (readX (ps := [a]) (by simp) (by simp))
  | [a, b], _ => exact .inl (readX (ps := [a, b]) (by simp) (by simp))
  | [a, b, c, d], _ => exact .inl (readX (ps := [a, b, c, d]) (by simp) (by simp))
  | a :: b :: c :: d :: e :: f :: r, _ => exact .inl (readX (ps := a :: b :: c :: d :: e :: f :: r) (by simp) (by simp))
/-! ### the law's look at a row -/
theorem law5 {a b c d e : Str} (hx : ln.length ≤ 900) (hp : parts ln = [a, b, c, d, e]) : f_law_row [.str ln] O = .ok (.bl (rowP [a, b, c, d, e]).isSome) O := by
  have hin : ∀ p ∈ [a, b, c, d, e], p.length ≤ 900 := fun p h => by
    rw [← hp] at h
    have := split_part h
    omega
  have g := gs32 (O := O) hx
  rw [hp] at g
  have e1 := law_number_ok (O := O) (hin a (by simp))
  have e2 := law_name_ok (O := O) (hin c (by simp))
  have e3 := law_name_ok (O := O) (hin e (by simp))
  rw [← y_lnum] at e1
  rw [← y_lname] at e2 e3
  unfold rowP
  by_cases hb : b = "close" <;> by_cases hd : d = "to"
  · cases h1 : numW a <;> cases h2 : nameB c <;> cases h3 : nameB e <;> rw [h1] at e1 <;> rw [h2] at e2 <;> rw [h3] at e3 <;> simp [f_law_row, b_law_row, mBS, runF, sSeq, sIf, sNext, sDrop, sRet, sRetN, sAsg, ofRes, ofB, bName, bNil, bCons, bTup, bLst, bSubL, mTest, mOp, mVar, mC, mChain, mAnd, mOr, mNot, mIf, mAndV, mOrV, mNotV, mNeg, mCons, mNil, mTup, mLst, newL, mCall, mFn, arity, g1, g2, gLen, gInt, gAbs, gMax2, gMin2, gIx, seqOf, lsqOf, lstOf, Res.bind, ofO, gAdd_ok, gSub_ok, gEq_int, gNe_int, gLt_int, gLe_int, gGt_int, gGe_int, gEq_bl, gNe_bl, gEq_str, gNe_str, mIsi, mIsiT, tyD, kitL, kitTab, atI_c0, atI_c1, atI_c2, atI_c3, atI_c4, sForR1, int1, int2, mMeth, mMake, mFld, sFldM, gIs, gIsNot, isNon_t, sRaise, gList, newLO, g, hb, hd, e1, e2, e3, h1, h2, h3]
  all_goals simp [f_law_row, b_law_row, mBS, runF, sSeq, sIf, sNext, sDrop, sRet, sRetN, sAsg, ofRes, ofB, bName, bNil, bCons, bTup, bLst, bSubL, mTest, mOp, mVar, mC, mChain, mAnd, mOr, mNot, mIf, mAndV, mOrV, mNotV, mNeg, mCons, mNil, mTup, mLst, newL, mCall, mFn, arity, g1, g2, gLen, gInt, gAbs, gMax2, gMin2, gIx, seqOf, lsqOf, lstOf, Res.bind, ofO, gAdd_ok, gSub_ok, gEq_int, gNe_int, gLt_int, gLe_int, gGt_int, gGe_int, gEq_bl, gNe_bl, gEq_str, gNe_str, mIsi, mIsiT, tyD, kitL, kitTab, atI_c0, atI_c1, atI_c2, atI_c3, atI_c4, sForR1, int1, int2, mMeth, mMake, mFld, sFldM, gIs, gIsNot, isNon_t, sRaise, gList, newLO, g, hb, hd]
theorem law3 {a b c : Str} (hx : ln.length ≤ 900) (hp : parts ln = [a, b, c]) : f_law_row [.str ln] O = .ok (.bl (rowP [a, b, c]).isSome) O := by
  have hin : ∀ p ∈ [a, b, c], p.length ≤ 900 := fun p h => by
    rw [← hp] at h
    have := split_part h
    omega
  have g := gs32 (O := O) hx
  rw [hp] at g
  have e1 := law_number_ok (O := O) (hin a (by simp))
  have e2 := law_name_ok (O := O) (hin c (by simp))
  have e4 := in2 (O := O) (b := b)
  rw [← y_lnum] at e1
  rw [← y_lname] at e2
  unfold rowP
  by_cases hb : b = "crank" ∨ b = "start"
  · simp [hb] at e4
    cases h1 : numW a <;> cases h2 : nameB c <;> rw [h1] at e1 <;> rw [h2] at e2 <;> simp [f_law_row, b_law_row, mBS, runF, sSeq, sIf, sNext, sDrop, sRet, sRetN, sAsg, ofRes, ofB, bName, bNil, bCons, bTup, bLst, bSubL, mTest, mOp, mVar, mC, mChain, mAnd, mOr, mNot, mIf, mAndV, mOrV, mNotV, mNeg, mCons, mNil, mTup, mLst, newL, mCall, mFn, arity, g1, g2, gLen, gInt, gAbs, gMax2, gMin2, gIx, seqOf, lsqOf, lstOf, Res.bind, ofO, gAdd_ok, gSub_ok, gEq_int, gNe_int, gLt_int, gLe_int, gGt_int, gGe_int, gEq_bl, gNe_bl, gEq_str, gNe_str, mIsi, mIsiT, tyD, kitL, kitTab, atI_c0, atI_c1, atI_c2, atI_c3, atI_c4, sForR1, int1, int2, mMeth, mMake, mFld, sFldM, gIs, gIsNot, isNon_t, sRaise, gList, newLO, g, hb, e1, e2, e4, h1, h2]
  · simp [hb] at e4
    simp [f_law_row, b_law_row, mBS, runF, sSeq, sIf, sNext, sDrop, sRet, sRetN, sAsg, ofRes, ofB, bName, bNil, bCons, bTup, bLst, bSubL, mTest, mOp, mVar, mC, mChain, mAnd, mOr, mNot, mIf, mAndV, mOrV, mNotV, mNeg, mCons, mNil, mTup, mLst, newL, mCall, mFn, arity, g1, g2, gLen, gInt, gAbs, gMax2, gMin2, gIx, seqOf, lsqOf, lstOf, Res.bind, ofO, gAdd_ok, gSub_ok, gEq_int, gNe_int, gLt_int, gLe_int, gGt_int, gGe_int, gEq_bl, gNe_bl, gEq_str, gNe_str, mIsi, mIsiT, tyD, kitL, kitTab, atI_c0, atI_c1, atI_c2, atI_c3, atI_c4, sForR1, int1, int2, mMeth, mMake, mFld, sFldM, gIs, gIsNot, isNon_t, sRaise, gList, newLO, g, hb, e4]
theorem lawX (hx : ln.length ≤ 900) (h3 : (parts ln).length ≠ 3) (h5 : (parts ln).length ≠ 5) : f_law_row [.str ln] O = .ok (.bl false) O := by
  have g := gs32 (O := O) hx
  have hl : (((parts ln).map D.str).length : Int) = ((parts ln).length : Int) := by rw [List.length_map]
  have h3 : ¬ ((parts ln).length : Int) = 3 := by omega
  have h5 : ¬ ((parts ln).length : Int) = 5 := by omega
  generalize (parts ln).map D.str = zs at *
  simp [f_law_row, b_law_row, mBS, runF, sSeq, sIf, sNext, sDrop, sRet, sRetN, sAsg, ofRes, ofB, bName, bNil, bCons, bTup, bLst, bSubL, mTest, mOp, mVar, mC, mChain, mAnd, mOr, mNot, mIf, mAndV, mOrV, mNotV, mNeg, mCons, mNil, mTup, mLst, newL, mCall, mFn, arity, g1, g2, gLen, gInt, gAbs, gMax2, gMin2, gIx, seqOf, lsqOf, lstOf, Res.bind, ofO, gAdd_ok, gSub_ok, gEq_int, gNe_int, gLt_int, gLe_int, gGt_int, gGe_int, gEq_bl, gNe_bl, gEq_str, gNe_str, mIsi, mIsiT, tyD, kitL, kitTab, atI_c0, atI_c1, atI_c2, atI_c3, atI_c4, sForR1, int1, int2, mMeth, mMake, mFld, sFldM, gIs, gIsNot, isNon_t, sRaise, gList, newLO, g, hl, h3, h5]
theorem law_row_ok (hx : ln.length ≤ 900) : f_law_row [.str ln] O = .ok (.bl (rowP (parts ln)).isSome) O := by
  by_cases h3 : (parts ln).length = 3
  · match hp : parts ln, h3 with
    | [a, b, c], _ => exact law3 hx hp
  · by_cases h5 : (parts ln).length = 5
    · match hp : parts ln, h5 with
      | [a, b, c, d, e], _ => exact law5 hx hp
    · rw [rowP_none h3 h5]
      exact lawX hx h3 h5
theorem numW_val {a : Str} (h : numW a = true) : PySem.intText? a = some (valW a) ∧ 0 ≤ valW a ∧ valW a ≤ 1000000 ∧ a.length ≤ 7 := by
  unfold numW figB at h
  simp only [Bool.and_eq_true, decide_eq_true_eq] at h
  obtain ⟨h1, h2, _⟩ := val_of h.1.2.2.1 (by omega) (by omega)
  exact ⟨h1, h2, h.2, by omega⟩
theorem law_key_ok {r : R4} (hx : ln.length ≤ 900) (h : rowP (parts ln) = some r) : f_law_key [.str ln] O = .ok (k4D r) O := by
  have g := gs32 (O := O) hx
  unfold rowP at h
  split at h
  · rename_i a b c d e hp
    split at h
    · rename_i q
      cases h
      obtain ⟨v, _, _, hl⟩ := numW_val q.2.2.1
      have hl2 : a.length ≤ 640 := by omega
      rw [hp] at g
      simp [f_law_key, b_law_key, mBS, runF, sSeq, sIf, sNext, sDrop, sRet, sRetN, sAsg, ofRes, ofB, bName, bNil, bCons, bTup, bLst, bSubL, mTest, mOp, mVar, mC, mChain, mAnd, mOr, mNot, mIf, mAndV, mOrV, mNotV, mNeg, mCons, mNil, mTup, mLst, newL, mCall, mFn, arity, g1, g2, gLen, gInt, gAbs, gMax2, gMin2, gIx, seqOf, lsqOf, lstOf, Res.bind, ofO, gAdd_ok, gSub_ok, gEq_int, gNe_int, gLt_int, gLe_int, gGt_int, gGe_int, gEq_bl, gNe_bl, gEq_str, gNe_str, mIsi, mIsiT, tyD, kitL, kitTab, atI_c0, atI_c1, atI_c2, atI_c3, atI_c4, sForR1, int1, int2, mMeth, mMake, mFld, sFldM, gIs, gIsNot, isNon_t, sRaise, gList, newLO, g, v, hl2, q.1]
    · cases h
  · rename_i a b c hp
    split at h
    · rename_i q
      cases h
      obtain ⟨v, _, _, hl⟩ := numW_val q.2.1
      have hl2 : a.length ≤ 640 := by omega
      rw [hp] at g
      simp [f_law_key, b_law_key, mBS, runF, sSeq, sIf, sNext, sDrop, sRet, sRetN, sAsg, ofRes, ofB, bName, bNil, bCons, bTup, bLst, bSubL, mTest, mOp, mVar, mC, mChain, mAnd, mOr, mNot, mIf, mAndV, mOrV, mNotV, mNeg, mCons, mNil, mTup, mLst, newL, mCall, mFn, arity, g1, g2, gLen, gInt, gAbs, gMax2, gMin2, gIx, seqOf, lsqOf, lstOf, Res.bind, ofO, gAdd_ok, gSub_ok, gEq_int, gNe_int, gLt_int, gLe_int, gGt_int, gGe_int, gEq_bl, gNe_bl, gEq_str, gNe_str, mIsi, mIsiT, tyD, kitL, kitTab, atI_c0, atI_c1, atI_c2, atI_c3, atI_c4, sForR1, int1, int2, mMeth, mMake, mFld, sFldM, gIs, gIsNot, isNon_t, sRaise, gList, newLO, g, v, hl2]
    · cases h
  · cases h
end
end DK.k39
end
section
set_option Elab.async false
set_option linter.all false
set_option autoImplicit false
set_option maxRecDepth 100000
set_option maxHeartbeats 4000000
/-! DKRdB: numbers told and read again; texts of lines, in plain Lean. -/
namespace DK.Rd
open PySem L2 DK DK.Sp DK.Lc
/-! ### numbers -/
abbrev strN (v : Int) : Str := (toString v : String)
theorem dig_nat : ∀ d : Fin 10, (Nat.digitChar d.val).toNat = d.val + 48 := by decide
theorem dig_ok {m : Nat} {c : Nat} (h : c ∈ (Nat.toDigits 10 m).map Char.toNat) : 48 ≤ c ∧ c ≤ 57 := by
  obtain ⟨ch, hch, rfl⟩ := List.mem_map.mp h
  have r := Nat.isDigit_of_mem_toDigits (by decide) (by decide) hch
  simp only [Char.isDigit, Bool.and_eq_true, decide_eq_true_eq] at r
  have h1 : (48 : Nat) ≤ ch.toNat := r.1
  have h2 : ch.toNat ≤ 57 := r.2
  exact ⟨h1, h2⟩
theorem head_num : ∀ (m : Nat), 0 < m → ∃ c cs, (Nat.toDigits 10 m).map Char.toNat = c :: cs ∧ c ≠ 48
  | m, h => by
    by_cases hm : m < 10
    · rw [Nat.toDigits_of_lt_base hm]
      refine ⟨_, [], rfl, ?_⟩
      have := dig_nat ⟨m, hm⟩
      simp only at this
      omega
    · obtain ⟨c, cs, e, hc⟩ := head_num (m / 10) (by omega)
      have t : Nat.toDigits 10 (m / 10) ++ Nat.toDigits 10 (m % 10) = Nat.toDigits 10 (10 * (m / 10) + m % 10) := Nat.toDigits_append_toDigits (by decide) (by omega) (Nat.mod_lt m (by decide))
      rw [Nat.div_add_mod] at t
      refine ⟨c, cs ++ (Nat.toDigits 10 (m % 10)).map Char.toNat, ?_, hc⟩
      rw [← t, List.map_append, e]
      rfl
theorem allIn_dig {l : List Nat} (h : ∀ c ∈ l, 48 ≤ c ∧ c ≤ 57) : allIn FIG l = true := by
  unfold allIn
  rw [List.all_eq_true]
  intro c hc
  rw [decide_eq_true_eq, show FIG.cps.toList = [48, 49, 50, 51, 52, 53, 54, 55, 56, 57] from rfl]
  have := h c hc
  simp
  omega
theorem num_fig {v : Int} (h0 : 0 ≤ v) (h1 : v ≤ 1000000) : numW (strN v) = true ∧ valW (strN v) = v := by
  have hv : valW (strN v) = v := by
    unfold valW
    have := PySem.W.KIN.num_reads (n := v) h0 (by omega)
    rw [show strN v = PySem.Str.ofString (toString v) from rfl, this]
    rfl
  obtain ⟨m, rfl⟩ := Int.eq_ofNat_of_zero_le h0
  have hs : (strN (m : Int)).cps.toList = (Nat.toDigits 10 m).map Char.toNat := PySem.W.KIN.signs_num m
  have hl : (strN (m : Int)).length ≤ 7 := PyProof.Rows.toString_length_le h0 (k := 7) (by decide) (by omega)
  have hll := len_list (strN (m : Int))
  have hp : 0 < (strN (m : Int)).length := by
    rw [← hll, hs, List.length_map]
    exact Nat.length_toDigits_pos
  have ha : allIn FIG (strN (m : Int)).cps.toList = true := by
    rw [hs]
    exact allIn_dig fun c hc => dig_ok hc
  refine ⟨?_, hv⟩
  unfold numW figB
  rw [hv, ha]
  have hh : (strN (m : Int)).length = 1 ∨ headN (strN (m : Int)) = false := by
    by_cases hm : m < 10
    · left
      rw [← hll, hs, Nat.toDigits_of_lt_base hm]
      rfl
    · right
      obtain ⟨c, cs, e, hc⟩ := head_num m (by omega)
      unfold headN
      rw [hs, e]
      split
      · rename_i q
        exact absurd (List.cons.inj q).1 hc
      · rfl
  have h2 : 1 ≤ ((strN (m : Int)).length : Int) := by omega
  have h3 : ((strN (m : Int)).length : Int) ≤ 7 := by omega
  rcases hh with hh | hh
  · simp [h2, h3, hh, h1]
  · simp [h2, h3, hh, h1]
theorem str_val {w : Str} (h : numW w = true) : strN (valW w) = w := by
  unfold numW figB at h
  simp only [Bool.and_eq_true, Bool.or_eq_true, Bool.not_eq_true', decide_eq_true_eq] at h
  obtain ⟨⟨h1, h2, h3, h4⟩, h5⟩ := h
  obtain ⟨_, v0, e⟩ := val_of h3 (by omega) (by omega)
  have hll := len_list w
  have hd := all_digits h3
  refine str_ext ?_
  rw [e, show (strN ((PySem.NumText.digitsVal w.cps.toList : Nat) : Int)).cps.toList = _ from PySem.W.KIN.signs_num _]
  obtain ⟨c, cs, hcs⟩ : ∃ c cs, w.cps.toList = c :: cs := by
    match h : w.cps.toList with
    | [] => rw [h] at hll; simp at hll; omega
    | c :: cs => exact ⟨c, cs, rfl⟩
  have hc := hd c (by rw [hcs]; simp)
  have t := PySem.NumText.toDigits_digitsVal (w.length - 1) w.cps.toList (by omega) hd (by
    rcases h4 with h4 | h4
    · left; omega
    · right
      refine ⟨c, cs, hcs, ?_⟩
      unfold headN at h4
      rw [hcs] at h4
      by_cases q : c = 48
      · rw [q] at h4; cases h4
      · omega)
  rw [t, List.map_map]
  have key : ∀ l : List Nat, (∀ c ∈ l, 48 ≤ c ∧ c ≤ 57) → l.map (Char.toNat ∘ Char.ofNat) = l := fun l hl => by
    conv => rhs; rw [← List.map_id l]
    refine List.map_congr_left fun c hc => ?_
    have := hl c hc
    show (Char.ofNat c).toNat = c
    have z : ∀ d : Fin 10, (Char.ofNat (d.val + 48)).toNat = d.val + 48 := by decide
    have := z ⟨c - 48, by omega⟩
    simp only at this
    rwa [show c - 48 + 48 = c by omega] at this
  exact key _ hd
theorem numW_free {w : Str} {c : Nat} (h : numW w = true) (hc : c < 48) : c ∉ w.cps.toList := fun hm => by
  unfold numW figB at h
  simp only [Bool.and_eq_true, decide_eq_true_eq] at h
  have := all_digits h.1.2.2.1 c hm
  omega
theorem numW_val {a : Str} (h : numW a = true) : PySem.intText? a = some (valW a) ∧ 0 ≤ valW a ∧ valW a ≤ 1000000 ∧ 1 ≤ a.length ∧ a.length ≤ 7 := by
  unfold numW figB at h
  simp only [Bool.and_eq_true, decide_eq_true_eq] at h
  obtain ⟨h1, h2, _⟩ := val_of h.1.2.2.1 (by omega) (by omega)
  exact ⟨h1, h2, h.2, by omega, by omega⟩
theorem gStr_ok {O : Store} {v : Int} (h0 : 0 ≤ v) (h1 : v ≤ 10 ^ 12) : gStr O (.int v) = some (.str (strN v), O) := by
  have h2 : v.natAbs.log2 < 1920 := by
    have : v.natAbs < 2 ^ 41 := by omega
    have z : v.natAbs = 0 ∨ v.natAbs ≠ 0 := by omega
    rcases z with z | z
    · rw [z]; decide
    · have := (Nat.log2_lt z).mpr this
      omega
  show (if v.natAbs.log2 < 1920 then _ else none) = _
  rw [if_pos h2]
/-! ### texts of lines -/
def txt (A : List Str) : Str := Txt.join Str.empty (A.map fun (p : Str) => p ++ one 10)
theorem txt_list {A : List Str} : (txt A).cps.toList = A.flatMap fun p => p.cps.toList ++ [10] := by
  show (Builtin.Str.glued Str.empty (A.map fun (p : Str) => p ++ one 10)).cps.toList = _
  rw [StrLaws.glued_eq_join, join_flat, List.flatMap_map]
  congr 1
  funext p
  rw [Str.cps_append, Array.toList_append]
theorem empty_free {c : Nat} : c ∉ Str.empty.cps.toList := by simp [Str.empty]
theorem free_snoc {c : Nat} {A : List Str} {l : Str} (hf : free c A) (hl : c ∉ l.cps.toList) : free c (A ++ [l]) := fun p hp => by
  rcases List.mem_append.mp hp with hp | hp
  · exact hf p hp
  · rw [List.mem_singleton.mp hp]
    exact hl
theorem txt_split {A : List Str} (hf : free 10 A) : Txt.split (txt A) (one 10) = A ++ [Str.empty] := split_is (by simp) (free_snoc hf empty_free) (by rw [jn_flat, txt_list])
theorem txt_length {A : List Str} : (txt A).length = (A.map fun (p : Str) => p.length + 1).sum := by
  rw [← len_list, txt_list, List.length_flatMap]
  congr 1
  refine List.map_congr_left fun p _ => ?_
  rw [List.length_append, len_list]
  rfl
theorem sum_le' {m : Nat} : ∀ {ys : List Str}, (∀ p ∈ ys, p.length ≤ m) → (ys.map fun (p : Str) => p.length + 1).sum ≤ ys.length * (m + 1)
  | [], _ => by simp
  | y :: ys, h => by
    have h1 := h y List.mem_cons_self
    have h2 := sum_le' (ys := ys) fun p hp => h p (List.mem_cons_of_mem _ hp)
    rw [List.map_cons, List.sum_cons, List.length_cons, Nat.succ_mul]
    omega
theorem txt_len {A : List Str} {m : Nat} (h : ∀ p ∈ A, p.length ≤ m) : (txt A).length ≤ A.length * (m + 1) := by
  rw [txt_length]
  exact sum_le' h
theorem txt_ne {A : List Str} (h : A ≠ []) : txt A ≠ "" := fun e => by
  have := congrArg (fun s : Str => s.cps.toList) e
  simp only [txt_list] at this
  cases A with
  | nil => exact h rfl
  | cons a A =>
    rw [List.flatMap_cons] at this
    have z : (("" : Str)).cps.toList = [] := rfl
    rw [z] at this
    simp at this
section
variable {O O1 : Store} {L : Loc} {A : List Str} {x l : Str} {d : D}
/-- [line + newline for line in lines] -/
theorem lcNl {src : EM} {i : Nat} (hs : src L O = .ok d O1) (hd : lsqOf O1 d = some (A.map .str)) (hi : i < L.length) (hA : A.length ≤ 1000) (hp : ∀ p ∈ A, p.length ≤ 1000) : mLcL false src [i] (bName i) mYes (mOp (gAdd false) (mVar i) (mC (.str "\n"))) L O = .ok (.lst ((A.map fun (p : Str) => p ++ one 10).map .str)) O1 := by
  have e := lcL_pure (src := src) (vs := [i]) (b := bName i) (tt := mYes) (el := mOp (gAdd false) (mVar i) (mC (.str "\n"))) (L := L) (O := O) (O1 := O1) (d := d) (ds := A.map .str) (fun d => match d with | .str p => some (.str (p ++ one 10)) | _ => none) hs hd (by rw [List.length_map]; omega) fun d' hd' => by
    obtain ⟨p, hpm, rfl⟩ := List.mem_map.mp hd'
    have hl := hp p hpm
    refine ⟨(wipeL L [i]).set i (some (.str p)), ?_, .inl ⟨.str (p ++ one 10), rfl, ?_, rfl⟩⟩
    · have : i < (wipeL L [i]).length := by simpa [wipeL] using hi
      simp [bName, this]
    · have hv : ((wipeL L [i]).set i (some (.str p)))[i]? = some (some (.str p)) := by
        rw [List.getElem?_set_self (by simpa [wipeL] using hi)]
      have ad : gAdd false O1 (.str p) (.str "\n") = some (.str (p ++ one 10), O1) := by
        rw [gAdd_str (by show p.length + 1 ≤ _; omega)]
        rfl
      simp [mOp, mVar, mC, Res.bind, ofO, hv, ad]
  rw [e]
  congr 2
  clear e hd hA hp
  induction A with
  | nil => rfl
  | cons a A ih =>
    rw [List.map_cons, List.filterMap_cons]
    simp only
    rw [ih]
    rfl
theorem join_txt (hA : A.length ≤ 1000) (hp : ∀ p ∈ A, p.length ≤ 1000) : gJoin O ("" : Str) [.lst ((A.map fun (p : Str) => p ++ one 10).map .str)] = some (.str (txt A), O) := by
  show (match strsOf ((A.map fun (p : Str) => p ++ one 10).map D.str) with
    | some ys => if (ys.map fun (y : Str) => y.length).sum + ys.length * ("" : Str).length ≤ 16777216 then some (D.str (Txt.join ("" : Str) ys), O) else none
    | none => none) = _
  rw [strsOf_m]
  have hs := sum_le (m := 1001) (ys := A.map fun (p : Str) => p ++ one 10) fun p hp' => by
    obtain ⟨q, hq, rfl⟩ := List.mem_map.mp hp'
    rw [Str.length_append]
    have := hp q hq
    show q.length + 1 ≤ 1001
    omega
  rw [List.length_map] at hs
  have hm : A.length * 1001 ≤ 1000 * 1001 := Nat.mul_le_mul_right _ hA
  simp only [show ("" : Str).length = 0 from rfl, Nat.mul_zero, Nat.add_zero]
  rw [if_pos (by omega)]
  rfl
theorem gs10 (hx : x.length ≤ 900000) (e : Txt.split x (one 10) = A ++ [l]) : gSplit false O x [.str "\n"] = some (.lst (A.map .str ++ [.str l]), O) := by
  have sl := split_len (c := 10) (x := x)
  show (if (("\n" : Str).length == 0) = false ∧ x.length ≤ 1000000 then rows false (Txt.split x "\n") O else none) = _
  rw [if_pos ⟨rfl, by omega⟩]
  show newLO false _ O = _
  unfold newLO
  rw [show ("\n" : Str) = one 10 from rfl, if_pos (by rw [List.length_map]; omega), e, List.map_append]
  rfl
theorem gs32 (hx : x.length ≤ 900000) : gSplit false O x [.str " "] = some (.lst ((Txt.split x (one 32)).map .str), O) := by
  have sl := split_len (c := 32) (x := x)
  show (if ((" " : Str).length == 0) = false ∧ x.length ≤ 1000000 then rows false (Txt.split x " ") O else none) = _
  rw [if_pos ⟨rfl, by omega⟩]
  show newLO false _ O = _
  unfold newLO
  rw [show (" " : Str) = one 32 from rfl, if_pos (by rw [List.length_map]; omega)]
  rfl
theorem words_ok (hx : x.length ≤ 900000) : f_words [.str x] O = .ok (.lst ((Txt.split x (one 32)).map .str)) O := by
  have e := gs32 (O := O) hx
  simp [f_words, b_words, mBS, runF, sSeq, sIf, sNext, sDrop, sRet, sRetN, sAsg, ofRes, ofB, bName, bNil, bCons, bTup, bLst, bSubL, mTest, mOp, mVar, mC, mChain, mAnd, mOr, mNot, mIf, mAndV, mOrV, mNotV, mNeg, mCons, mNil, mTup, mLst, newL, mCall, mFn, arity, g1, g2, gLen, gInt, gAbs, gMax2, gMin2, seqOf, lsqOf, lstOf, Res.bind, ofO, gAdd_ok, gSub_ok, gEq_int, gNe_int, gLt_int, gLe_int, gGt_int, gGe_int, gEq_bl, gNe_bl, gEq_str, gNe_str, mIsi, mIsiT, tyD, kitL, kitTab, atI_c0, atI_c1, atI_c2, atI_c3, atI_c4, sForR1, int1, int2, mMeth, mMake, mFld, sFldM, gIs, gIsNot, isNon_t, sRaise, gList, newLO, e]
theorem atI_snoc {ys : List D} {x : D} : atI (ys ++ [x]) (-1) = some x := by
  unfold atI ixN
  simp
  rw [if_pos (by omega)]
  have e : (-1 + ((ys.length : Int) + 1)).toNat = ys.length := by omega
  show (ys ++ [x])[(-1 + ((ys.length : Int) + 1)).toNat]? = _
  rw [e, List.getElem?_append_right (Nat.le_refl _), Nat.sub_self]
  rfl
theorem ixl_snoc {ys : List D} {z : D} : gIx O (.lst (ys ++ [z])) (.int (-1)) = some (z, O) := by
  have h := atI_snoc (ys := ys) (x := z)
  show (match atI (ys ++ [z]) (-1) with | some d => some (d, O) | none => none) = _
  rw [h]
theorem cut_last {α : Type} {ys : List α} {z : α} : cutD (ys ++ [z]) none (some (-1)) = ys := by
  unfold cutD
  rw [show HT.sIx (ys ++ [z]).length 0 none = 0 from rfl]
  show ((ys ++ [z]).drop 0).take ((if (-1 : Int) < 0 then ((-1 : Int) + ((ys ++ [z]).length : Int)).toNat else min (-1 : Int).toNat (ys ++ [z]).length) - 0) = _
  rw [if_pos (by decide), List.drop_zero, Nat.sub_zero, List.length_append, List.length_singleton, show ((-1 : Int) + ((ys.length + 1 : Nat) : Int)).toNat = ys.length by omega]
  simp
theorem slice_last {ys : List D} {z : D} (hl : ys.length ≤ 900000) : gSl false (.lst (ys ++ [z])) none (some (-1)) O = .ok (.lst ys) O := by
  show newL false (cutD (ys ++ [z]) none (some (-1))) O = _
  rw [cut_last]
  unfold newL
  rw [if_pos (by omega)]
  rfl
theorem lines_of_nil : f_lines_of [.str ""] O = .ok (.lst []) O := by
  simp [f_lines_of, b_lines_of, runF, sSeq, sIf, sNext, sDrop, sRet, sRetN, sAsg, ofRes, ofB, bName, bNil, bCons, bTup, bLst, bSubL, mTest, mOp, mVar, mC, mChain, mAnd, mOr, mNot, mIf, mAndV, mOrV, mNotV, mNeg, mCons, mNil, mTup, mLst, newL, mCall, mFn, arity, g1, g2, gLen, gInt, gAbs, gMax2, gMin2, gIx, seqOf, lsqOf, lstOf, Res.bind, ofO, gAdd_ok, gSub_ok, gEq_int, gNe_int, gLt_int, gLe_int, gGt_int, gGe_int, gEq_bl, gNe_bl, gEq_str, gNe_str, mIsi, mIsiT, tyD, kitL, kitTab, atI_c0, atI_c1, atI_c2, atI_c3, atI_c4, sForR1, int1, int2, mMeth, mMake, mFld, sFldM, gIs, gIsNot, isNon_t, sRaise, gList, newLO]
theorem lines_ok (hf : free 10 A) (hA : A.length ≤ 500) (hp : ∀ p ∈ A, p.length ≤ 1000) : f_lines_of [.str (txt A)] O = .ok (.lst (A.map .str)) O := by
  by_cases h0 : A = []
  · subst h0
    exact lines_of_nil
  · have hn := txt_ne h0
    have hl := txt_len hp
    have hm : A.length * 1001 ≤ 500 * 1001 := Nat.mul_le_mul_right _ hA
    have g := gs10 (O := O) (by omega) (txt_split hf)
    have i := ixl_snoc (O := O) (ys := A.map .str) (z := .str Str.empty)
    have s := slice_last (O := O) (ys := A.map .str) (z := .str Str.empty) (by rw [List.length_map]; omega)
    have e0 : (Str.empty = ("" : Str)) = True := eq_true rfl
    generalize A.map D.str ++ [.str Str.empty] = zs at *
    generalize A.map D.str = za at *
    generalize txt A = x at *
    simp [f_lines_of, b_lines_of, mBS, mSl, oNone, oSome, runF, sSeq, sIf, sNext, sDrop, sRet, sRetN, sAsg, ofRes, ofB, bName, bNil, bCons, bTup, bLst, bSubL, mTest, mOp, mVar, mC, mChain, mAnd, mOr, mNot, mIf, mAndV, mOrV, mNotV, mNeg, mCons, mNil, mTup, mLst, newL, mCall, mFn, arity, g1, g2, gLen, gInt, gAbs, gMax2, gMin2, seqOf, lsqOf, lstOf, Res.bind, ofO, gAdd_ok, gSub_ok, gEq_int, gNe_int, gLt_int, gLe_int, gGt_int, gGe_int, gEq_bl, gNe_bl, gEq_str, gNe_str, mIsi, mIsiT, tyD, kitL, kitTab, atI_c0, atI_c1, atI_c2, atI_c3, atI_c4, sForR1, int1, int2, mMeth, mMake, mFld, sFldM, gIs, gIsNot, isNon_t, sRaise, gList, newLO, g, i, s, hn, e0]
theorem num_small {k : Nat} (hk : k < 1000) : (strN ((k : Nat) : Int)).length ≤ 10 ∧ ((k : Nat) : Int).natAbs.log2 < 1920 := by
  have key : ∀ j : Fin 1000, ((strN ((j.val : Nat) : Int)).length ≤ 10 ∧ ((j.val : Nat) : Int).natAbs.log2 < 1920) := by decide +kernel
  exact key ⟨k, hk⟩
theorem xline_ok {k : Nat} (hk : k < 1000) : x_InvalidLine [.int (k : Int)] O = some ([(("line" : Str), D.int (k : Int))], O) := by
  obtain ⟨h1, h2⟩ := num_small hk
  have l5 : ("line " : Str).length = 5 := by decide +kernel
  have g1' : gStr O (.int (k : Int)) = some (.str (strN ((k : Nat) : Int)), O) := by
    show (if ((k : Nat) : Int).natAbs.log2 < 1920 then _ else none) = _
    rw [if_pos h2]
  have g2' := gAdd_str (O := O) (h := false) (a := "line ") (b := strN ((k : Nat) : Int)) (by omega)
  generalize strN ((k : Nat) : Int) = ts at *
  have e : m_invalidline_init (iniL ["self", "line"] [.int (k : Int)]) O = .ok (.str ("line " ++ ts)) O := by
    show m_invalidline_init [none, some (.int (k : Int))] O = _
    simp [m_invalidline_init, mOp, mC, mCall, DK.g1, mCons, mNil, mVar, ofRes, Res.bind, ofO, g1', g2']
  unfold x_InvalidLine mkOne
  rw [e]
  rfl
theorem lines_open (hx : x.length ≤ 900000) (h0 : x ≠ "") (hl : l ≠ "") (e : Txt.split x (one 10) = A ++ [l]) (hA : A.length < 900) : f_lines_of [.str x] O = .exc ⟨"InvalidLine", some [("line", .int ((A.length + 1 : Nat) : Int))]⟩ O := by
  have g := gs10 (O := O) hx e
  have i := ixl_snoc (O := O) (ys := A.map .str) (z := .str l)
  have hz : (A.map D.str ++ [D.str l]).length = A.length + 1 := by simp
  have xl := xline_ok (O := O) (k := A.length + 1) (by omega)
  generalize A.map D.str ++ [D.str l] = zs at *
  generalize A.length + 1 = k at *
  simp [f_lines_of, b_lines_of, mBS, sRaiseX, runF, sSeq, sIf, sNext, sDrop, sRet, sRetN, sAsg, ofRes, ofB, bName, bNil, bCons, bTup, bLst, bSubL, mTest, mOp, mVar, mC, mChain, mAnd, mOr, mNot, mIf, mAndV, mOrV, mNotV, mNeg, mCons, mNil, mTup, mLst, newL, mCall, mFn, arity, g1, g2, gLen, gInt, gAbs, gMax2, gMin2, seqOf, lsqOf, lstOf, Res.bind, ofO, gAdd_ok, gSub_ok, gEq_int, gNe_int, gLt_int, gLe_int, gGt_int, gGe_int, gEq_bl, gNe_bl, gEq_str, gNe_str, mIsi, mIsiT, tyD, kitL, kitTab, atI_c0, atI_c1, atI_c2, atI_c3, atI_c4, sForR1, int1, int2, mMeth, mMake, mFld, sFldM, gIs, gIsNot, isNon_t, sRaise, gList, newLO, g, i, h0, hl, hz, xl]
end
end DK.Rd
end
section
set_option Elab.async false
set_option linter.all false
set_option autoImplicit false
set_option maxRecDepth 100000
set_option maxHeartbeats 4000000
/-! K39B: a sheet is read, in plain Lean. -/
namespace DK.k39
open PySem L2 DK DK.Sp DK.Rd DK.Lc
def encK (r : R4) : PyData := .tuple [.int r.1, .str r.2.1, .str r.2.2.1]
def ltK (a b : R4) : Bool := PySem.W.dataLt (encK a) (encK b)
theorem deepK {O : Store} (r : R4) : deep O 20 (k4D r) = some (encK r) := by
  show (List.mapM (deep O 19) [D.int r.1, .str r.2.1, .str r.2.2.1]).map PyData.tuple = _
  simp only [mapM_cons, List.mapM_nil]
  rfl
theorem geK {O : Store} (a b : R4) : gGeD O (k4D a) (k4D b) = some (.bl (!ltK a b), O) := by
  unfold gGeD gCmpD
  rw [deepK, deepK]
  exact if_pos ⟨rfl, rfl, by simp [encK, PyData.depth, PyData.depthAll]⟩
def headP (ps : List Str) : Option Str := match ps with
  | [a, b] => if a = "at" ∧ nameB b = true then some b else none
  | _ => none
def afterR (o : Option R4) (r : R4) : Bool := match o with
  | some a => ltK a r
  | none => true
def goodL (ls : List Str) (k : Nat) : Bool := match ls[k]? with
  | none => true
  | some ln => if k = 0 then (headP (parts ln)).isSome else match rowP (parts ln) with
    | none => false
    | some r => decide (k = 1) || afterR ((ls[k - 1]?).bind fun q => rowP (parts q)) r
def rowsTo (ls : List Str) (k : Nat) : List R4 := ((ls.take k).drop 1).filterMap fun q => rowP (parts q)
theorem rowsTo_one (ls : List Str) : rowsTo ls 1 = [] := by
  unfold rowsTo
  cases ls <;> simp
theorem rowsTo_zero (ls : List Str) : rowsTo ls 0 = [] := by simp [rowsTo]
theorem rowsTo_succ {ls : List Str} {k : Nat} {ln : Str} {r : R4} (h1 : 1 ≤ k) (h : ls[k]? = some ln) (hr : rowP (parts ln) = some r) : rowsTo ls (k + 1) = rowsTo ls k ++ [r] := by
  unfold rowsTo
  have hk := (List.getElem?_eq_some_iff.mp h).1
  rw [List.take_succ, h]
  have hl : (ls.take k).length = k := by rw [List.length_take]; omega
  rw [List.drop_append_of_le_length (by omega), List.filterMap_append]
  simp [hr]
theorem goodL_row {ls : List Str} {k : Nat} {ln : Str} (h1 : 1 ≤ k) (h : ls[k]? = some ln) (hg : goodL ls k = true) : ∃ r, rowP (parts ln) = some r := by
  unfold goodL at hg
  rw [h] at hg
  simp only [if_neg (show ¬ k = 0 by omega)] at hg
  cases hr : rowP (parts ln) with
  | none => rw [hr] at hg; cases hg
  | some r => exact ⟨r, rfl⟩
section
variable {O O0 : Store} {n : Nat} {ls : List Str} {x : Str} {y4 y5 y6 : Option D}
abbrev pA : SM := (sAsg (mFn (arity 1 f_words) [] (mCons (mOp gIx (mVar 1) (mVar 4)) mNil)) (bName 5))
abbrev pB : SM := (sAsg (mC .non) (bName 6))
abbrev pC : SM := (sTryEN sub_parse_sheet_75 (sIf (mAnd (mTest (mOp gEq (mVar 4) (mC (.int 0)))) (mAnd (mTest (mOp gEq (mCall (g1 gLen) (mCons (mVar 5) mNil)) (mC (.int 2)))) (mTest (mOp gEq (mOp gIx (mVar 5) (mC (.int 0))) (mC (.str "at")))))) (sAsg (mFn (arity 1 f_checked_name) [] (mCons (mOp gIx (mVar 5) (mC (.int 1))) mNil)) (bName 3)) (sIf (mTest (mOp gGt (mVar 4) (mC (.int 0)))) (sAsg (mFn (arity 1 f_read_row) [] (mCons (mVar 5) mNil)) (bName 6)) sNext)) (fun y => if y.cls = "InvalidName" then (sRaiseX "InvalidLine" 1 x_InvalidLine (mCons (mOp (gAdd false) (mVar 4) (mC (.int 1))) mNil)) else if y.cls = "InvalidNumber" then (sRaiseX "InvalidLine" 1 x_InvalidLine (mCons (mOp (gAdd false) (mVar 4) (mC (.int 1))) mNil)) else if y.cls = "InvalidLine" then (sRaiseX "InvalidLine" 1 x_InvalidLine (mCons (mOp (gAdd false) (mVar 4) (mC (.int 1))) mNil)) else fun _ _ => .bad))
abbrev pD : SM := (sIf (mOr (mAnd (mTest (mOp gEq (mVar 4) (mC (.int 0)))) (mTest (mOp gIs (mVar 3) (mC .non)))) (mAnd (mTest (mOp gGt (mVar 4) (mC (.int 0)))) (mTest (mOp gIs (mVar 6) (mC .non))))) (sRaiseX "InvalidLine" 1 x_InvalidLine (mCons (mOp (gAdd false) (mVar 4) (mC (.int 1))) mNil)) sNext)
abbrev pE : SM := (sIf (mTest (mOp gGt (mVar 4) (mC (.int 0)))) (sSeq (sIf (mAnd (mTru (mVar 2)) (mTest (mOp gGeD (mSl false (mOp gIx (mVar 2) (mNeg (mC (.int 1)))) oNone (oSome (mC (.int 3)))) (mSl false (mVar 6) oNone (oSome (mC (.int 3))))))) (sRaiseX "InvalidLine" 1 x_InvalidLine (mCons (mOp (gAdd false) (mVar 4) (mC (.int 1))) mNil)) sNext)
    (sDrop (mApp (mVar 2) (mVar 6)))) sNext)
abbrev pT : SM := sSeq pA (sSeq pB (sSeq pC (sSeq pD pE)))
/-- the locals of parse_sheet -/
abbrev PL (x : Str) (zs : List D) (n : Nat) (st : D) (y4 y5 y6 : Option D) : Loc := [some (.str x), some (.lst zs), some (.hdl n), some st, y4, y5, y6]
def errL (k : Nat) : Exn := ⟨"InvalidLine", some [("line", .int ((k : Nat) : Int))]⟩
theorem ix_line {i : Nat} {ln : Str} (h : ls[i]? = some ln) : gIx O (.lst (ls.map .str)) (.int (i : Int)) = some (.str ln, O) := by
  have : atI (ls.map D.str) (i : Int) = some (.str ln) := atI_nat (by omega) (by rw [Int.toNat_natCast, List.getElem?_map, h]; rfl)
  show (match atI (ls.map D.str) (i : Int) with | some d => some (d, O) | none => none) = _
  rw [this]
theorem pA_ok {st : D} {i : Nat} {ln : Str} (h : ls[i]? = some ln) (hl : ln.length ≤ 900) : pA (PL x (ls.map .str) n st (some (.int (i : Int))) y5 y6) O = .next (PL x (ls.map .str) n st (some (.int (i : Int))) (some (.lst ((parts ln).map .str))) y6) O := by
  have e1 := ix_line (O := O) h
  have e2 := Rd.words_ok (O := O) (x := ln) (by omega)
  rw [← y_words] at e2
  generalize ls.map D.str = zs at *
  generalize (Txt.split ln (one 32)).map D.str = zp at *
  simp [runF, sSeq, sIf, sNext, sDrop, sRet, sRetN, sAsg, ofRes, ofB, bName, bNil, bCons, bTup, bLst, bSubL, mTest, mOp, mVar, mC, mChain, mAnd, mOr, mNot, mIf, mAndV, mOrV, mNotV, mNeg, mCons, mNil, mTup, mLst, newL, mCall, mFn, arity, g1, g2, gLen, gInt, gAbs, gMax2, gMin2, seqOf, lsqOf, lstOf, Res.bind, ofO, gAdd_ok, gSub_ok, gEq_int, gNe_int, gLt_int, gLe_int, gGt_int, gGe_int, gEq_bl, gNe_bl, gEq_str, gNe_str, mIsi, mIsiT, tyD, kitL, kitTab, atI_c0, atI_c1, atI_c2, atI_c3, atI_c4, sForR1, int1, int2, mMeth, mMake, mFld, sFldM, gIs, gIsNot, isNon_t, sRaise, gList, newLO, e1, e2]
theorem sub1 : sub_parse_sheet_75 "InvalidName" = some true := rfl
theorem sub2 : sub_parse_sheet_75 "InvalidNumber" = some true := rfl
theorem xl_ok {k : Nat} (hk : k < 1000) : x_InvalidLine [.int (k : Int)] O = some ([(("line" : Str), D.int (k : Int))], O) := Rd.xline_ok hk
/-- the first line -/
theorem head0 {zl : List D} {ps : List Str} (hp : ∀ p ∈ ps, p.length ≤ 900) : (∃ s, headP ps = some s ∧ pC (PL x zl n .non (some (.int 0)) (some (.lst (ps.map .str))) (some .non)) O = .next (PL x zl n (.str s) (some (.int 0)) (some (.lst (ps.map .str))) (some .non)) O) ∨
    (headP ps = none ∧ (pC (PL x zl n .non (some (.int 0)) (some (.lst (ps.map .str))) (some .non)) O = .next (PL x zl n .non (some (.int 0)) (some (.lst (ps.map .str))) (some .non)) O ∨ ∃ L', pC (PL x zl n .non (some (.int 0)) (some (.lst (ps.map .str))) (some .non)) O = .exc (errL 1) L' O)) := by
  have xl := xl_ok (O := O) (k := 1) (by omega)
  have xl : x_InvalidLine [.int 1] O = some ([(("line" : Str), D.int 1)], O) := xl
  have other : ps.length ≠ 2 → pC (PL x zl n .non (some (.int 0)) (some (.lst (ps.map .str))) (some .non)) O = .next (PL x zl n .non (some (.int 0)) (some (.lst (ps.map .str))) (some .non)) O := fun h2 => by
    have hl : ((ps.map D.str).length : Int) = (ps.length : Int) := by rw [List.length_map]
    have h2 : ¬ (ps.length : Int) = 2 := by omega
    generalize ps.map D.str = zs at *
    simp [sTryEN, runF, sSeq, sIf, sNext, sDrop, sRet, sRetN, sAsg, ofRes, ofB, bName, bNil, bCons, bTup, bLst, bSubL, mTest, mOp, mVar, mC, mChain, mAnd, mOr, mNot, mIf, mAndV, mOrV, mNotV, mNeg, mCons, mNil, mTup, mLst, newL, mCall, mFn, arity, g1, g2, gLen, gInt, gAbs, gMax2, gMin2, gIx, seqOf, lsqOf, lstOf, Res.bind, ofO, gAdd_ok, gSub_ok, gEq_int, gNe_int, gLt_int, gLe_int, gGt_int, gGe_int, gEq_bl, gNe_bl, gEq_str, gNe_str, mIsi, mIsiT, tyD, kitL, kitTab, atI_c0, atI_c1, atI_c2, atI_c3, atI_c4, sForR1, int1, int2, mMeth, mMake, mFld, sFldM, gIs, gIsNot, isNon_t, sRaise, gList, newLO, hl, h2]
  match ps, hp with
  | [a, b], hp =>
    have e2 := checked_name_ok (O := O) (hp b (by simp))
    rw [← y_cname] at e2
    by_cases ha : a = "at"
    · cases hb : nameB b
      · right
        rw [hb] at e2
        refine ⟨by simp [headP, hb], .inr ⟨PL x zl n .non (some (.int 0)) (some (.lst ([a, b].map .str))) (some .non), ?_⟩⟩
        simp at e2
        simp [sTryEN, okX, sRaiseX, errL, runF, sSeq, sIf, sNext, sDrop, sRet, sRetN, sAsg, ofRes, ofB, bName, bNil, bCons, bTup, bLst, bSubL, mTest, mOp, mVar, mC, mChain, mAnd, mOr, mNot, mIf, mAndV, mOrV, mNotV, mNeg, mCons, mNil, mTup, mLst, newL, mCall, mFn, arity, g1, g2, gLen, gInt, gAbs, gMax2, gMin2, gIx, seqOf, lsqOf, lstOf, Res.bind, ofO, gAdd_ok, gSub_ok, gEq_int, gNe_int, gLt_int, gLe_int, gGt_int, gGe_int, gEq_bl, gNe_bl, gEq_str, gNe_str, mIsi, mIsiT, tyD, kitL, kitTab, atI_c0, atI_c1, atI_c2, atI_c3, atI_c4, sForR1, int1, int2, mMeth, mMake, mFld, sFldM, gIs, gIsNot, isNon_t, sRaise, gList, newLO, ha, e2, sub1, xl]
      · left
        rw [hb] at e2
        simp at e2
        refine ⟨b, by simp [headP, ha, hb], ?_⟩
        simp [sTryEN, runF, sSeq, sIf, sNext, sDrop, sRet, sRetN, sAsg, ofRes, ofB, bName, bNil, bCons, bTup, bLst, bSubL, mTest, mOp, mVar, mC, mChain, mAnd, mOr, mNot, mIf, mAndV, mOrV, mNotV, mNeg, mCons, mNil, mTup, mLst, newL, mCall, mFn, arity, g1, g2, gLen, gInt, gAbs, gMax2, gMin2, gIx, seqOf, lsqOf, lstOf, Res.bind, ofO, gAdd_ok, gSub_ok, gEq_int, gNe_int, gLt_int, gLe_int, gGt_int, gGe_int, gEq_bl, gNe_bl, gEq_str, gNe_str, mIsi, mIsiT, tyD, kitL, kitTab, atI_c0, atI_c1, atI_c2, atI_c3, atI_c4, sForR1, int1, int2, mMeth, mMake, mFld, sFldM, gIs, gIsNot, isNon_t, sRaise, gList, newLO, ha, e2]
    · right
      refine ⟨by simp [headP, ha], .inl ?_⟩
      simp [sTryEN, runF, sSeq, sIf, sNext, sDrop, sRet, sRetN, sAsg, ofRes, ofB, bName, bNil, bCons, bTup, bLst, bSubL, mTest, mOp, mVar, mC, mChain, mAnd, mOr, mNot, mIf, mAndV, mOrV, mNotV, mNeg, mCons, mNil, mTup, mLst, newL, mCall, mFn, arity, g1, g2, gLen, gInt, gAbs, gMax2, gMin2, gIx, seqOf, lsqOf, lstOf, Res.bind, ofO, gAdd_ok, gSub_ok, gEq_int, gNe_int, gLt_int, gLe_int, gGt_int, gGe_int, gEq_bl, gNe_bl, gEq_str, gNe_str, mIsi, mIsiT, tyD, kitL, kitTab, atI_c0, atI_c1, atI_c2, atI_c3, atI_c4, sForR1, int1, int2, mMeth, mMake, mFld, sFldM, gIs, gIsNot, isNon_t, sRaise, gList, newLO, ha]
  | [], _ => exact .inr ⟨rfl, .inl (other (by simp))⟩
  | [a], _ => exact .inr ⟨rfl, .inl (other (by simp))⟩
  | a :: b :: c :: r, _ => exact .inr ⟨rfl, .inl (other (by simp))⟩
/-- another line -/
theorem row0 {zl : List D} {st : D} {i : Nat} {ps : List Str} (hi : 0 < i) (hi2 : i < 900) (hp : ∀ p ∈ ps, p.length ≤ 900) : (∃ r, rowP ps = some r ∧ pC (PL x zl n st (some (.int (i : Int))) (some (.lst (ps.map .str))) (some .non)) O = .next (PL x zl n st (some (.int (i : Int))) (some (.lst (ps.map .str))) (some (r4D r))) O) ∨
    (rowP ps = none ∧ (pC (PL x zl n st (some (.int (i : Int))) (some (.lst (ps.map .str))) (some .non)) O = .next (PL x zl n st (some (.int (i : Int))) (some (.lst (ps.map .str))) (some .non)) O ∨ ∃ L', pC (PL x zl n st (some (.int (i : Int))) (some (.lst (ps.map .str))) (some .non)) O = .exc (errL (i + 1)) L' O)) := by
  have xl := xl_ok (O := O) (k := i + 1) (by omega)
  rw [show (((i + 1 : Nat)) : Int) = (i : Int) + 1 by omega] at xl
  have h0 : ¬ (i : Int) = 0 := by omega
  have h1 : (0 : Int) < (i : Int) := by omega
  have n0 : ¬ i = 0 := by omega
  have o := read_row_ok (O := O) hp
  unfold outE at o
  generalize ps.map D.str = zp at *
  cases hr : rowP ps with
  | some r =>
    rw [hr] at o
    simp only at o
    left
    refine ⟨r, rfl, ?_⟩
    generalize r4D r = d at *
    simp [sTryEN, runF, sSeq, sIf, sNext, sDrop, sRet, sRetN, sAsg, ofRes, ofB, bName, bNil, bCons, bTup, bLst, bSubL, mTest, mOp, mVar, mC, mChain, mAnd, mOr, mNot, mIf, mAndV, mOrV, mNotV, mNeg, mCons, mNil, mTup, mLst, newL, mCall, mFn, arity, g1, g2, gLen, gInt, gAbs, gMax2, gMin2, gIx, seqOf, lsqOf, lstOf, Res.bind, ofO, gAdd_ok, gSub_ok, gEq_int, gNe_int, gLt_int, gLe_int, gGt_int, gGe_int, gEq_bl, gNe_bl, gEq_str, gNe_str, mIsi, mIsiT, tyD, kitL, kitTab, atI_c0, atI_c1, atI_c2, atI_c3, atI_c4, sForR1, int1, int2, mMeth, mMake, mFld, sFldM, gIs, gIsNot, isNon_t, sRaise, gList, newLO, n0, hi, o]
  | none =>
    rw [hr] at o
    simp only at o
    right
    refine ⟨rfl, ?_⟩
    rcases o with o | ⟨c, hc, o⟩
    · left
      simp [sTryEN, runF, sSeq, sIf, sNext, sDrop, sRet, sRetN, sAsg, ofRes, ofB, bName, bNil, bCons, bTup, bLst, bSubL, mTest, mOp, mVar, mC, mChain, mAnd, mOr, mNot, mIf, mAndV, mOrV, mNotV, mNeg, mCons, mNil, mTup, mLst, newL, mCall, mFn, arity, g1, g2, gLen, gInt, gAbs, gMax2, gMin2, gIx, seqOf, lsqOf, lstOf, Res.bind, ofO, gAdd_ok, gSub_ok, gEq_int, gNe_int, gLt_int, gLe_int, gGt_int, gGe_int, gEq_bl, gNe_bl, gEq_str, gNe_str, mIsi, mIsiT, tyD, kitL, kitTab, atI_c0, atI_c1, atI_c2, atI_c3, atI_c4, sForR1, int1, int2, mMeth, mMake, mFld, sFldM, gIs, gIsNot, isNon_t, sRaise, gList, newLO, n0, hi, o]
    · right
      refine ⟨PL x zl n st (some (.int (i : Int))) (some (.lst zp)) (some .non), ?_⟩
      rcases hc with rfl | rfl
      · simp [sTryEN, okX, sRaiseX, errL, runF, sSeq, sIf, sNext, sDrop, sRet, sRetN, sAsg, ofRes, ofB, bName, bNil, bCons, bTup, bLst, bSubL, mTest, mOp, mVar, mC, mChain, mAnd, mOr, mNot, mIf, mAndV, mOrV, mNotV, mNeg, mCons, mNil, mTup, mLst, newL, mCall, mFn, arity, g1, g2, gLen, gInt, gAbs, gMax2, gMin2, gIx, seqOf, lsqOf, lstOf, Res.bind, ofO, gAdd_ok, gSub_ok, gEq_int, gNe_int, gLt_int, gLe_int, gGt_int, gGe_int, gEq_bl, gNe_bl, gEq_str, gNe_str, mIsi, mIsiT, tyD, kitL, kitTab, atI_c0, atI_c1, atI_c2, atI_c3, atI_c4, sForR1, int1, int2, mMeth, mMake, mFld, sFldM, gIs, gIsNot, isNon_t, sRaise, gList, newLO, n0, hi, o, sub1, xl]
      · simp [sTryEN, okX, sRaiseX, errL, runF, sSeq, sIf, sNext, sDrop, sRet, sRetN, sAsg, ofRes, ofB, bName, bNil, bCons, bTup, bLst, bSubL, mTest, mOp, mVar, mC, mChain, mAnd, mOr, mNot, mIf, mAndV, mOrV, mNotV, mNeg, mCons, mNil, mTup, mLst, newL, mCall, mFn, arity, g1, g2, gLen, gInt, gAbs, gMax2, gMin2, gIx, seqOf, lsqOf, lstOf, Res.bind, ofO, gAdd_ok, gSub_ok, gEq_int, gNe_int, gLt_int, gLe_int, gGt_int, gGe_int, gEq_bl, gNe_bl, gEq_str, gNe_str, mIsi, mIsiT, tyD, kitL, kitTab, atI_c0, atI_c1, atI_c2, atI_c3, atI_c4, sForR1, int1, int2, mMeth, mMake, mFld, sFldM, gIs, gIsNot, isNon_t, sRaise, gList, newLO, n0, hi, o, sub2, xl]
/-- behind the read: the line is refused, or its row is put behind the others -/
theorem pD_none {zl : List D} {zp : D} {st : D} {i : Nat} (hi2 : i < 900) (h : (i = 0 ∧ st = .non) ∨ 0 < i) : ∃ L', pD (PL x zl n st (some (.int (i : Int))) (some zp) (some .non)) O = .exc (errL (i + 1)) L' O := by
  have xl := xl_ok (O := O) (k := i + 1) (by omega)
  rw [show (((i + 1 : Nat)) : Int) = (i : Int) + 1 by omega] at xl
  rcases h with ⟨rfl, rfl⟩ | h
  · have xl : x_InvalidLine [.int 1] O = some ([(("line" : Str), D.int 1)], O) := xl
    refine ⟨PL x zl n .non (some (.int 0)) (some zp) (some .non), ?_⟩
    simp [sRaiseX, errL, runF, sSeq, sIf, sNext, sDrop, sRet, sRetN, sAsg, ofRes, ofB, bName, bNil, bCons, bTup, bLst, bSubL, mTest, mOp, mVar, mC, mChain, mAnd, mOr, mNot, mIf, mAndV, mOrV, mNotV, mNeg, mCons, mNil, mTup, mLst, newL, mCall, mFn, arity, g1, g2, gLen, gInt, gAbs, gMax2, gMin2, gIx, seqOf, lsqOf, lstOf, Res.bind, ofO, gAdd_ok, gSub_ok, gEq_int, gNe_int, gLt_int, gLe_int, gGt_int, gGe_int, gEq_bl, gNe_bl, gEq_str, gNe_str, mIsi, mIsiT, tyD, kitL, kitTab, atI_c0, atI_c1, atI_c2, atI_c3, atI_c4, sForR1, int1, int2, mMeth, mMake, mFld, sFldM, gIs, gIsNot, isNon_t, sRaise, gList, newLO, xl]
  · have h0 : ¬ (i : Int) = 0 := by omega
    have h1 : (0 : Int) < (i : Int) := by omega
    refine ⟨PL x zl n st (some (.int (i : Int))) (some zp) (some .non), ?_⟩
    have n0 : ¬ i = 0 := by omega
    simp [sRaiseX, errL, runF, sSeq, sIf, sNext, sDrop, sRet, sRetN, sAsg, ofRes, ofB, bName, bNil, bCons, bTup, bLst, bSubL, mTest, mOp, mVar, mC, mChain, mAnd, mOr, mNot, mIf, mAndV, mOrV, mNotV, mNeg, mCons, mNil, mTup, mLst, newL, mCall, mFn, arity, g1, g2, gLen, gInt, gAbs, gMax2, gMin2, gIx, seqOf, lsqOf, lstOf, Res.bind, ofO, gAdd_ok, gSub_ok, gEq_int, gNe_int, gLt_int, gLe_int, gGt_int, gGe_int, gEq_bl, gNe_bl, gEq_str, gNe_str, mIsi, mIsiT, tyD, kitL, kitTab, atI_c0, atI_c1, atI_c2, atI_c3, atI_c4, sForR1, int1, int2, mMeth, mMake, mFld, sFldM, gIs, gIsNot, isNon_t, sRaise, gList, newLO, n0, h, xl]
theorem pDE_zero {zl : List D} {zp : D} {s : Str} : sSeq pD pE (PL x zl n (.str s) (some (.int 0)) (some zp) (some .non)) O = .next (PL x zl n (.str s) (some (.int 0)) (some zp) (some .non)) O := by
  simp [runF, sSeq, sIf, sNext, sDrop, sRet, sRetN, sAsg, ofRes, ofB, bName, bNil, bCons, bTup, bLst, bSubL, mTest, mOp, mVar, mC, mChain, mAnd, mOr, mNot, mIf, mAndV, mOrV, mNotV, mNeg, mCons, mNil, mTup, mLst, newL, mCall, mFn, arity, g1, g2, gLen, gInt, gAbs, gMax2, gMin2, gIx, seqOf, lsqOf, lstOf, Res.bind, ofO, gAdd_ok, gSub_ok, gEq_int, gNe_int, gLt_int, gLe_int, gGt_int, gGe_int, gEq_bl, gNe_bl, gEq_str, gNe_str, mIsi, mIsiT, tyD, kitL, kitTab, atI_c0, atI_c1, atI_c2, atI_c3, atI_c4, sForR1, int1, int2, mMeth, mMake, mFld, sFldM, gIs, gIsNot, isNon_t, sRaise, gList, newLO]
theorem cut3 (r : R4) : gSl false (r4D r) none (some 3) O = .ok (k4D r) O := rfl
theorem pDE_row {zl : List D} {zp : D} {st : D} {i : Nat} {A : List R4} {r : R4} (hi : 0 < i) (hi2 : i < 900) (g : O[n]? = some (.lst (A.map r4D))) (hA : A.length ≤ 1000) :
    ((∀ a, A.getLast? = some a → ltK a r = true) → sSeq pD pE (PL x zl n st (some (.int (i : Int))) (some zp) (some (r4D r))) O = .next (PL x zl n st (some (.int (i : Int))) (some zp) (some (r4D r))) (O.set n (.lst ((A ++ [r]).map r4D)))) ∧
    (∀ a, A.getLast? = some a → ltK a r = false → ∃ L', sSeq pD pE (PL x zl n st (some (.int (i : Int))) (some zp) (some (r4D r))) O = .exc (errL (i + 1)) L' O) := by
  have xl := xl_ok (O := O) (k := i + 1) (by omega)
  rw [show (((i + 1 : Nat)) : Int) = (i : Int) + 1 by omega] at xl
  have h0 : ¬ (i : Int) = 0 := by omega
  have h1 : (0 : Int) < (i : Int) := by omega
  have hn : isNon (r4D r) = false := rfl
  have c2 := cut3 (O := O) r
  have hl : (A.map r4D).length ≤ 1000000 := by rw [List.length_map]; omega
  have ea : (A ++ [r]).map r4D = A.map r4D ++ [r4D r] := by simp
  have n0 : ¬ i = 0 := by omega
  rcases List.eq_nil_or_concat A with rfl | ⟨B, a, rfl⟩
  · refine ⟨fun _ => ?_, fun a ha => by cases ha⟩
    have g : O[n]? = some (.lst []) := g
    rw [ea]
    show _ = SR.next _ (O.set n (.lst ([] ++ [r4D r])))
    generalize r4D r = d at *
    simp [mTru, truD, mApp, runF, sSeq, sIf, sNext, sDrop, sRet, sRetN, sAsg, ofRes, ofB, bName, bNil, bCons, bTup, bLst, bSubL, mTest, mOp, mVar, mC, mChain, mAnd, mOr, mNot, mIf, mAndV, mOrV, mNotV, mNeg, mCons, mNil, mTup, mLst, newL, mCall, mFn, arity, g1, g2, gLen, gInt, gAbs, gMax2, gMin2, gIx, seqOf, lsqOf, lstOf, Res.bind, ofO, gAdd_ok, gSub_ok, gEq_int, gNe_int, gLt_int, gLe_int, gGt_int, gGe_int, gEq_bl, gNe_bl, gEq_str, gNe_str, mIsi, mIsiT, tyD, kitL, kitTab, atI_c0, atI_c1, atI_c2, atI_c3, atI_c4, sForR1, int1, int2, mMeth, mMake, mFld, sFldM, gIs, gIsNot, isNon_t, sRaise, gList, newLO, n0, hi, g, hn]
  · rw [List.concat_eq_append] at *
    rw [List.map_append] at g
    have g : O[n]? = some (.lst (B.map r4D ++ [r4D a])) := g
    have hne : (B.map r4D ++ [r4D a]).isEmpty = false := by simp
    have ix : gIx O (.hdl n) (.int (-1)) = some (r4D a, O) := by
      show (match lsqOf O (.hdl n) with | some zs => (match atI zs (-1) with | some d => some (d, O) | none => none) | none => none) = _
      rw [lsq_h g]
      simp only [Rd.atI_snoc]
    have c1 := cut3 (O := O) a
    have ge := geK (O := O) a r
    have hlast : (B ++ [a]).getLast? = some a := by simp
    have ea2 : (B ++ [a]).map r4D = B.map r4D ++ [r4D a] := by simp
    rw [ea2] at hl
    rw [ea, ea2]
    generalize B.map r4D ++ [r4D a] = zs at *
    generalize r4D r = d at *
    generalize r4D a = da at *
    generalize k4D r = kd at *
    generalize k4D a = ka at *
    refine ⟨fun h => ?_, fun a' ha' h => ?_⟩
    · rw [h a hlast] at ge
      simp [mTru, truD, mApp, mSl, oNone, oSome, runF, sSeq, sIf, sNext, sDrop, sRet, sRetN, sAsg, ofRes, ofB, bName, bNil, bCons, bTup, bLst, bSubL, mTest, mOp, mVar, mC, mChain, mAnd, mOr, mNot, mIf, mAndV, mOrV, mNotV, mNeg, mCons, mNil, mTup, mLst, newL, mCall, mFn, arity, g1, g2, gLen, gInt, gAbs, gMax2, gMin2, seqOf, lsqOf, lstOf, Res.bind, ofO, gAdd_ok, gSub_ok, gEq_int, gNe_int, gLt_int, gLe_int, gGt_int, gGe_int, gEq_bl, gNe_bl, gEq_str, gNe_str, mIsi, mIsiT, tyD, kitL, kitTab, atI_c0, atI_c1, atI_c2, atI_c3, atI_c4, sForR1, int1, int2, mMeth, mMake, mFld, sFldM, gIs, gIsNot, isNon_t, sRaise, gList, newLO, n0, hi, g, hn, hne, ix, c1, c2, ge, hl]
    · rw [hlast] at ha'
      cases ha'
      rw [h] at ge
      refine ⟨PL x zl n st (some (.int (i : Int))) (some zp) (some d), ?_⟩
      simp [mTru, truD, mApp, mSl, oNone, oSome, sRaiseX, errL, runF, sSeq, sIf, sNext, sDrop, sRet, sRetN, sAsg, ofRes, ofB, bName, bNil, bCons, bTup, bLst, bSubL, mTest, mOp, mVar, mC, mChain, mAnd, mOr, mNot, mIf, mAndV, mOrV, mNotV, mNeg, mCons, mNil, mTup, mLst, newL, mCall, mFn, arity, g1, g2, gLen, gInt, gAbs, gMax2, gMin2, seqOf, lsqOf, lstOf, Res.bind, ofO, gAdd_ok, gSub_ok, gEq_int, gNe_int, gLt_int, gLe_int, gGt_int, gGe_int, gEq_bl, gNe_bl, gEq_str, gNe_str, mIsi, mIsiT, tyD, kitL, kitTab, atI_c0, atI_c1, atI_c2, atI_c3, atI_c4, sForR1, int1, int2, mMeth, mMake, mFld, sFldM, gIs, gIsNot, isNon_t, sRaise, gList, newLO, n0, hi, g, hn, hne, ix, c1, c2, ge, xl]
end
end DK.k39
end
section
set_option Elab.async false
set_option linter.all false
set_option autoImplicit false
set_option maxRecDepth 100000
set_option maxHeartbeats 4000000
/-! K39C: a whole sheet is read, and what is due, in plain Lean. -/
namespace DK.k39
open PySem L2 DK DK.Sp DK.Rd DK.Lc
section
variable {O O0 : Store} {n : Nat} {ls : List Str} {x : Str}
theorem last_row {i : Nat} (h2 : 2 ≤ i) (hi : i ≤ ls.length) (hg : ∀ j, j < i → goodL ls j = true) : ∃ a ln, ls[i - 1]? = some ln ∧ rowP (parts ln) = some a ∧ (rowsTo ls i).getLast? = some a := by
  have e : ls[i - 1]? = some (ls[i - 1]'(by omega)) := List.getElem?_eq_getElem _
  obtain ⟨a, ha⟩ := goodL_row (by omega) e (hg (i - 1) (by omega))
  refine ⟨a, _, e, ha, ?_⟩
  have := rowsTo_succ (k := i - 1) (by omega) e ha
  rw [show i - 1 + 1 = i by omega] at this
  rw [this]
  simp
theorem rowsTo_len (i : Nat) : (rowsTo ls i).length ≤ ls.length := by
  unfold rowsTo
  refine Nat.le_trans (List.length_filterMap_le _ _) ?_
  rw [List.length_drop, List.length_take]
  omega
/-- what stands ahead of a turn -/
structure PI (O0 : Store) (x : Str) (ls : List Str) (i : Nat) (L : Loc) (O : Store) : Prop where
  ex : ∃ st y4 y5 y6, L = PL x (ls.map .str) O0.length st y4 y5 y6 ∧ O = O0 ++ [.lst ((rowsTo ls i).map r4D)] ∧ ((i = 0 ∧ st = .non) ∨ (0 < i ∧ ∃ s, st = .str s ∧ ∃ ln, ls[0]? = some ln ∧ headP (parts ln) = some s))
  gd : ∀ j, j < i → goodL ls j = true
def PR (O0 : Store) (i : Nat) (r : SR) : Prop := ∃ L' O', r = .exc (errL (i + 1)) L' O' ∧ Fz O0 O'
theorem set_last {y z : Ob} : (O0 ++ [y]).set O0.length z = O0 ++ [z] := by
  rw [List.set_append_right _ _ (Nat.le_refl _), Nat.sub_self]
  rfl
theorem parse_turn {i : Nat} {L : Loc} (hn : ls.length ≤ 800) (hp : ∀ p ∈ ls, p.length ≤ 900) (hi : i < ls.length) (h : PI O0 x ls i L O) :
    (goodL ls i = true → ∃ L' O', turnOf (bName 4) pT (.int (i : Int)) L O = .next L' O' ∧ PI O0 x ls (i + 1) L' O') ∧ (goodL ls i = false → PR O0 i (turnOf (bName 4) pT (.int (i : Int)) L O)) := by
  obtain ⟨⟨st, y4, y5, y6, rfl, rfl, hst⟩, gd⟩ := h
  obtain ⟨ln, hln⟩ : ∃ ln, ls[i]? = some ln := ⟨ls[i], List.getElem?_eq_getElem hi⟩
  have hl := hp ln (List.mem_of_getElem? hln)
  have hps : ∀ p ∈ parts ln, p.length ≤ 900 := fun p h => by have := split_part h; omega
  have ht : turnOf (bName 4) pT (.int (i : Int)) (PL x (ls.map .str) O0.length st y4 y5 y6) (O0 ++ [.lst ((rowsTo ls i).map r4D)]) = pT (PL x (ls.map .str) O0.length st (some (.int (i : Int))) y5 y6) (O0 ++ [.lst ((rowsTo ls i).map r4D)]) := rfl
  rw [ht]
  have sA := pA_ok (x := x) (n := O0.length) (y5 := y5) (y6 := y6) (st := st) (O := O0 ++ [.lst ((rowsTo ls i).map r4D)]) hln hl
  have sB : ∀ zp O, pB (PL x (ls.map .str) O0.length st (some (.int (i : Int))) (some zp) y6) O = .next (PL x (ls.map .str) O0.length st (some (.int (i : Int))) (some zp) (some .non)) O := fun zp O => by
    simp [runF, sSeq, sIf, sNext, sDrop, sRet, sRetN, sAsg, ofRes, ofB, bName, bNil, bCons, bTup, bLst, bSubL, mTest, mOp, mVar, mC, mChain, mAnd, mOr, mNot, mIf, mAndV, mOrV, mNotV, mNeg, mCons, mNil, mTup, mLst, newL, mCall, mFn, arity, g1, g2, gLen, gInt, gAbs, gMax2, gMin2, gIx, seqOf, lsqOf, lstOf, Res.bind, ofO, gAdd_ok, gSub_ok, gEq_int, gNe_int, gLt_int, gLe_int, gGt_int, gGe_int, gEq_bl, gNe_bl, gEq_str, gNe_str, mIsi, mIsiT, tyD, kitL, kitTab, atI_c0, atI_c1, atI_c2, atI_c3, atI_c4, sForR1, int1, int2, mMeth, mMake, mFld, sFldM, gIs, gIsNot, isNon_t, sRaise, gList, newLO]
  have fz0 : Fz O0 (O0 ++ [.lst ((rowsTo ls i).map r4D)]) := fz_app
  show (goodL ls i = true → ∃ L' O', sSeq pA (sSeq pB (sSeq pC (sSeq pD pE))) _ _ = .next L' O' ∧ _) ∧ (goodL ls i = false → PR O0 i (sSeq pA (sSeq pB (sSeq pC (sSeq pD pE))) _ _))
  rw [seq_next sA, seq_next (sB _ _)]
  rcases Nat.eq_zero_or_pos i with rfl | h0
  · obtain ⟨_, rfl⟩ : 0 = 0 ∧ st = .non := by
      rcases hst with h | ⟨h, _⟩
      · exact h
      · omega
    have gd0 : goodL ls 0 = (headP (parts ln)).isSome := by
      unfold goodL
      rw [hln]
      rfl
    rcases head0 (x := x) (zl := ls.map .str) (n := O0.length) (O := O0 ++ [.lst ((rowsTo ls 0).map r4D)]) hps with ⟨s, hs, e⟩ | ⟨hs, e⟩
    · rw [gd0, hs]
      refine ⟨fun _ => ?_, fun z => by cases z⟩
      have e : pC (PL x (ls.map .str) O0.length .non (some (.int ((0 : Nat) : Int))) (some (.lst ((parts ln).map .str))) (some .non)) (O0 ++ [.lst ((rowsTo ls 0).map r4D)]) = _ := e
      rw [seq_next e, pDE_zero]
      refine ⟨_, _, rfl, ⟨_, _, _, _, rfl, ?_, .inr ⟨by omega, s, rfl, ln, hln, hs⟩⟩, fun j hj => ?_⟩
      · rw [rowsTo_zero, rowsTo_one]
      · obtain rfl : j = 0 := by omega
        rw [gd0, hs]
        rfl
    · rw [gd0, hs]
      refine ⟨fun z => (by cases z), fun _ => ?_⟩
      rcases e with e | ⟨L', e⟩
      · have e : pC (PL x (ls.map .str) O0.length .non (some (.int ((0 : Nat) : Int))) (some (.lst ((parts ln).map .str))) (some .non)) (O0 ++ [.lst ((rowsTo ls 0).map r4D)]) = _ := e
        rw [seq_next e]
        obtain ⟨L', e2⟩ := pD_none (x := x) (zl := ls.map .str) (n := O0.length) (st := .non) (zp := .lst ((parts ln).map .str)) (i := 0) (O := O0 ++ [.lst ((rowsTo ls 0).map r4D)]) (by omega) (.inl ⟨rfl, rfl⟩)
        have e2 : pD (PL x (ls.map .str) O0.length .non (some (.int 0)) (some (.lst ((parts ln).map .str))) (some .non)) (O0 ++ [.lst ((rowsTo ls 0).map r4D)]) = _ := e2
        rw [seq_exc e2]
        exact ⟨_, _, rfl, fz0⟩
      · have e : pC (PL x (ls.map .str) O0.length .non (some (.int ((0 : Nat) : Int))) (some (.lst ((parts ln).map .str))) (some .non)) (O0 ++ [.lst ((rowsTo ls 0).map r4D)]) = _ := e
        rw [seq_exc e]
        exact ⟨_, _, rfl, fz0⟩
  · obtain ⟨s, hs⟩ : ∃ s, st = .str s ∧ ∃ ln, ls[0]? = some ln ∧ headP (parts ln) = some s := by
      rcases hst with ⟨h, _⟩ | ⟨_, s, h⟩
      · omega
      · exact ⟨s, h⟩
    have i9 : i < 900 := by omega
    rcases row0 (x := x) (zl := ls.map .str) (n := O0.length) (st := st) (O := O0 ++ [.lst ((rowsTo ls i).map r4D)]) h0 i9 hps with ⟨r, hr, e⟩ | ⟨hr, e⟩
    · rw [seq_next e]
      have g : (O0 ++ [.lst ((rowsTo ls i).map r4D)])[O0.length]? = some (.lst ((rowsTo ls i).map r4D)) := by simp
      obtain ⟨d1, d2⟩ := pDE_row (x := x) (zl := ls.map .str) (zp := .lst ((parts ln).map .str)) (st := st) (r := r) h0 i9 g (by have := rowsTo_len (ls := ls) i; omega)
      have gdi : goodL ls i = (decide (i = 1) || afterR ((ls[i - 1]?).bind fun q => rowP (parts q)) r) := by
        unfold goodL
        rw [hln]
        simp only [if_neg (show ¬ i = 0 by omega), hr]
      have rs := rowsTo_succ h0 hln hr
      by_cases h1 : i = 1
      · have hA : rowsTo ls i = [] := by rw [h1]; exact rowsTo_one ls
        have gt : goodL ls i = true := by rw [gdi, decide_eq_true h1]; rfl
        rw [gt]
        refine ⟨fun _ => ?_, fun z => by cases z⟩
        have e2 := d1 fun a ha => by rw [hA] at ha; cases ha
        rw [e2, set_last]
        refine ⟨_, _, rfl, ⟨_, _, _, _, rfl, by rw [rs], .inr ⟨by omega, s, hs⟩⟩, fun j hj => ?_⟩
        by_cases hj2 : j = i
        · rw [hj2]; exact gt
        · exact gd j (by omega)
      · obtain ⟨a, ln', hl', ha, hlast⟩ := last_row (i := i) (by omega) (by omega) gd
        have gdi : goodL ls i = ltK a r := by
          rw [gdi, decide_eq_false h1, hl']
          simp [ha, afterR]
        rw [gdi]
        refine ⟨fun hlt => ?_, fun hlt => ?_⟩
        · have e2 := d1 fun b hb => by rw [hlast] at hb; cases hb; exact hlt
          rw [e2, set_last]
          refine ⟨_, _, rfl, ⟨_, _, _, _, rfl, by rw [rs], .inr ⟨by omega, s, hs⟩⟩, fun j hj => ?_⟩
          by_cases hj2 : j = i
          · rw [hj2, gdi]; exact hlt
          · exact gd j (by omega)
        · obtain ⟨L', e2⟩ := d2 a hlast hlt
          rw [e2]
          exact ⟨_, _, rfl, fz0⟩
    · have gf : goodL ls i = false := by
        unfold goodL
        rw [hln]
        simp only [if_neg (show ¬ i = 0 by omega), hr]
      rw [gf]
      refine ⟨fun z => (by cases z), fun _ => ?_⟩
      rcases e with e | ⟨L', e⟩
      · rw [seq_next e]
        obtain ⟨L', e2⟩ := pD_none (x := x) (zl := ls.map .str) (n := O0.length) (st := st) (zp := .lst ((parts ln).map .str)) (i := i) (O := O0 ++ [.lst ((rowsTo ls i).map r4D)]) i9 (.inr h0)
        rw [seq_exc e2]
        exact ⟨_, _, rfl, fz0⟩
      · rw [seq_exc e]
        exact ⟨_, _, rfl, fz0⟩
def Fine (ls : List Str) : Prop := ls ≠ [] ∧ ∀ k, k < ls.length → goodL ls k = true
def Bad (ls : List Str) (m : Nat) : Prop := (ls = [] ∧ m = 1) ∨ ∃ k, k < ls.length ∧ (∀ j, j < k → goodL ls j = true) ∧ goodL ls k = false ∧ m = k + 1
theorem bad_uniq {m m' : Nat} (h : Bad ls m) (h' : Bad ls m') : m = m' := by
  rcases h with ⟨e, rfl⟩ | ⟨k, hk, g1, g2, rfl⟩ <;> rcases h' with ⟨e', e0⟩ | ⟨k', hk', g1', g2', e0⟩
  · exact e0.symm
  · rw [e] at hk'; simp at hk'
  · rw [e'] at hk; simp at hk
  · subst e0
    rcases Nat.lt_trichotomy k k' with h | h | h
    · rw [g1' k h] at g2; cases g2
    · rw [h]
    · rw [g1 k' h] at g2'; cases g2'
theorem bad_fine {m : Nat} (h : Bad ls m) (h' : Fine ls) : False := by
  rcases h with ⟨e, rfl⟩ | ⟨k, hk, g1, g2, rfl⟩
  · exact h'.1 e
  · rw [h'.2 k hk] at g2; cases g2
theorem bad_pos {m : Nat} (h : Bad ls m) : 0 < m ∧ m ≤ ls.length + 1 := by
  rcases h with ⟨e, rfl⟩ | ⟨k, hk, g1, g2, rfl⟩
  · exact ⟨by omega, by omega⟩
  · exact ⟨by omega, by omega⟩
def headS (ls : List Str) : Str := ((ls[0]?).bind fun q => headP (parts q)).getD Str.empty
theorem parse_is : b_parse_sheet = sSeq (sAsg (mFn (arity 1 f_lines_of) [] (mCons (mVar 0) mNil)) (bName 1)) (sSeq (sAsg (mLst true mNil) (bName 2)) (sSeq (sAsg (mC .non) (bName 3)) (sSeq (sForR1 (mCons (mCall (DK.g1 gLen) (mCons (mVar 1) mNil)) mNil) (bName 4) pT) (sSeq (sIf (mTest (mOp gIs (mVar 3) (mC .non))) (sRaiseX "InvalidLine" 1 x_InvalidLine (mCons (mC (.int 1)) mNil)) sNext) (sRet (mTup (mCons (mVar 3) (mCons (mVar 2) mNil)))))))) := rfl
theorem parse_ok (hn : ls.length ≤ 800) (hp : ∀ p ∈ ls, p.length ≤ 900) (hl : f_lines_of [.str x] O0 = .ok (.lst (ls.map .str)) O0) :
    (Fine ls ∧ f_parse_sheet [.str x] O0 = .ok (.tup [.str (headS ls), .hdl O0.length]) (O0 ++ [.lst ((rowsTo ls ls.length).map r4D)])) ∨ ∃ m O', Bad ls m ∧ f_parse_sheet [.str x] O0 = .exc (errL m) O' ∧ Fz O0 O' := by
  have lenE : ∀ O, gLen O (.lst (ls.map .str)) = some (.int (ls.length : Int), O) := fun O => by simp [gLen, seqOf, lsqOf, lstOf]
  have lp := forR1_first (t := mCons (mCall (DK.g1 gLen) (mCons (mVar 1) mNil)) mNil) (b := bName 4) (body := pT) (I := PI O0 x ls) (good := goodL ls) (R := PR O0) (L := PL x (ls.map .str) O0.length .non none none none) (O := O0 ++ [.lst []]) (O1 := O0 ++ [.lst []]) (n := ls.length)
    (by
      have := lenE (O0 ++ [.lst []])
      generalize ls.map D.str = zs at *
      simp [mCons, mNil, mCall, DK.g1, mVar, Res.bind, ofO, this]) (by omega) ⟨⟨.non, none, none, none, rfl, by rw [rowsTo_zero]; rfl, .inl ⟨rfl, rfl⟩⟩, fun j hj => absurd hj (Nat.not_lt_zero _)⟩ (fun j r f ⟨L', O', e, _⟩ => by rw [e]; rfl) fun i L O hi h => parse_turn hn hp hi h
  have xl : x_InvalidLine [.int 1] (O0 ++ [.lst []]) = some ([(("line" : Str), D.int 1)], O0 ++ [.lst []]) := xl_ok (k := 1) (by omega)
  have start : ∀ r, sForR1 (mCons (mCall (DK.g1 gLen) (mCons (mVar 1) mNil)) mNil) (bName 4) pT (PL x (ls.map .str) O0.length .non none none none) (O0 ++ [.lst []]) = r → b_parse_sheet [some (.str x), none, none, none, none, none, none] O0 = (match r with
      | .next L' O' => sSeq (sIf (mTest (mOp gIs (mVar 3) (mC .non))) (sRaiseX "InvalidLine" 1 x_InvalidLine (mCons (mC (.int 1)) mNil)) sNext) (sRet (mTup (mCons (mVar 3) (mCons (mVar 2) mNil)))) L' O'
      | r => r) := fun r e => by
    rw [parse_is]
    generalize sForR1 (mCons (mCall (DK.g1 gLen) (mCons (mVar 1) mNil)) mNil) (bName 4) pT = sf at *
    generalize sSeq (sIf (mTest (mOp gIs (mVar 3) (mC .non))) (sRaiseX "InvalidLine" 1 x_InvalidLine (mCons (mC (.int 1)) mNil)) sNext) (sRet (mTup (mCons (mVar 3) (mCons (mVar 2) mNil)))) = st at *
    generalize ls.map D.str = zs at *
    subst e
    simp [runF, sSeq, sIf, sNext, sDrop, sRet, sRetN, sAsg, ofRes, ofB, bName, bNil, bCons, bTup, bLst, bSubL, mTest, mOp, mVar, mC, mChain, mAnd, mOr, mNot, mIf, mAndV, mOrV, mNotV, mNeg, mCons, mNil, mTup, mLst, newL, mCall, mFn, arity, g1, g2, gLen, gInt, gAbs, gMax2, gMin2, gIx, seqOf, lsqOf, lstOf, Res.bind, ofO, gAdd_ok, gSub_ok, gEq_int, gNe_int, gLt_int, gLe_int, gGt_int, gGe_int, gEq_bl, gNe_bl, gEq_str, gNe_str, mIsi, mIsiT, tyD, kitL, kitTab, atI_c0, atI_c1, atI_c2, atI_c3, atI_c4, sForR1, int1, int2, mMeth, mMake, mFld, sFldM, gIs, gIsNot, isNon_t, sRaise, gList, newLO, hl]
    generalize sf _ _ = q
    cases q <;> rfl
  have run : f_parse_sheet [.str x] O0 = (match b_parse_sheet [some (.str x), none, none, none, none, none, none] O0 with
      | .next _ O1 => Res.ok D.non O1
      | .ret d O1 => .ok d O1
      | .exc x _ O1 => .exc x O1
      | _ => .bad) := rfl
  rcases lp with ⟨g, L', O', e, ⟨⟨st, y4, y5, y6, rfl, rfl, hst⟩, _⟩⟩ | ⟨i, hi, g1, g2, L', O', e, f⟩
  · rw [run, start _ e]
    rcases hst with ⟨h0, rfl⟩ | ⟨h0, s, rfl, ln, h1, h2⟩
    · right
      have hz : ls = [] := List.length_eq_zero_iff.mp h0
      subst hz
      refine ⟨1, O0 ++ [.lst []], .inl ⟨rfl, rfl⟩, ?_, fz_app⟩
      show (match sSeq (sIf (mTest (mOp gIs (mVar 3) (mC .non))) (sRaiseX "InvalidLine" 1 x_InvalidLine (mCons (mC (.int 1)) mNil)) sNext) (sRet (mTup (mCons (mVar 3) (mCons (mVar 2) mNil)))) (PL x [] O0.length .non y4 y5 y6) (O0 ++ [.lst []]) with
      | .next _ O1 => Res.ok D.non O1
      | .ret d O1 => .ok d O1
      | .exc x _ O1 => .exc x O1
      | _ => .bad) = _
      simp [sRaiseX, errL, runF, sSeq, sIf, sNext, sDrop, sRet, sRetN, sAsg, ofRes, ofB, bName, bNil, bCons, bTup, bLst, bSubL, mTest, mOp, mVar, mC, mChain, mAnd, mOr, mNot, mIf, mAndV, mOrV, mNotV, mNeg, mCons, mNil, mTup, mLst, newL, mCall, mFn, arity, g1, g2, gLen, gInt, gAbs, gMax2, gMin2, gIx, seqOf, lsqOf, lstOf, Res.bind, ofO, gAdd_ok, gSub_ok, gEq_int, gNe_int, gLt_int, gLe_int, gGt_int, gGe_int, gEq_bl, gNe_bl, gEq_str, gNe_str, mIsi, mIsiT, tyD, kitL, kitTab, atI_c0, atI_c1, atI_c2, atI_c3, atI_c4, sForR1, int1, int2, mMeth, mMake, mFld, sFldM, gIs, gIsNot, isNon_t, sRaise, gList, newLO, xl]
    · left
      refine ⟨⟨fun z => (by rw [z] at h1; cases h1), g⟩, ?_⟩
      have hh : headS ls = s := by
        unfold headS
        rw [h1]
        simp [h2]
      rw [hh]
      generalize (rowsTo ls ls.length).map r4D = zr
      generalize ls.map D.str = zs at *
      simp [runF, sSeq, sIf, sNext, sDrop, sRet, sRetN, sAsg, ofRes, ofB, bName, bNil, bCons, bTup, bLst, bSubL, mTest, mOp, mVar, mC, mChain, mAnd, mOr, mNot, mIf, mAndV, mOrV, mNotV, mNeg, mCons, mNil, mTup, mLst, newL, mCall, mFn, arity, g1, g2, gLen, gInt, gAbs, gMax2, gMin2, gIx, seqOf, lsqOf, lstOf, Res.bind, ofO, gAdd_ok, gSub_ok, gEq_int, gNe_int, gLt_int, gLe_int, gGt_int, gGe_int, gEq_bl, gNe_bl, gEq_str, gNe_str, mIsi, mIsiT, tyD, kitL, kitTab, atI_c0, atI_c1, atI_c2, atI_c3, atI_c4, sForR1, int1, int2, mMeth, mMake, mFld, sFldM, gIs, gIsNot, isNon_t, sRaise, gList, newLO]
  · right
    refine ⟨i + 1, O', .inr ⟨i, hi, g1, g2, rfl⟩, ?_, f⟩
    rw [run, start _ e]
end
end DK.k39
end
section
set_option Elab.async false
set_option linter.all false
set_option autoImplicit false
set_option maxRecDepth 100000
set_option maxHeartbeats 4000000
/-! K39D: what is due of the lines; rows told as lines, in plain Lean. -/
namespace DK.k39
open PySem L2 DK DK.Sp DK.Rd DK.Lc
section
variable {O O0 : Store} {n : Nat} {ls : List Str} {x : Str}
abbrev dT : SM := (sIf (mOr (mNot (mTest (mFn (arity 1 f_law_row) [] (mCons (mOp gIx (mVar 0) (mVar 2)) mNil)))) (mAnd (mTest (mOp gGt (mVar 2) (mC (.int 1)))) (mTest (mOp gGeD (mFn (arity 1 f_law_key) [] (mCons (mOp gIx (mVar 0) (mOp gSub (mVar 2) (mC (.int 1)))) mNil)) (mFn (arity 1 f_law_key) [] (mCons (mOp gIx (mVar 0) (mVar 2)) mNil)))))) (sRet (mOp (gAdd false) (mVar 2) (mC (.int 1)))) sNext)
theorem due_is : b_law_due = sSeq (sIf (mTest (mOp gEq (mVar 0) (mLst false mNil))) (sRet (mC (.int 1))) sNext) (sSeq (sAsg (mBS (gSplit false) (mOp gIx (mVar 0) (mC (.int 0))) (mCons (mC (.str " ")) mNil)) (bName 1)) (sSeq (sIf (mOr (mTest (mOp gNe (mCall (DK.g1 gLen) (mCons (mVar 1) mNil)) (mC (.int 2)))) (mOr (mTest (mOp gNe (mOp gIx (mVar 1) (mC (.int 0))) (mC (.str "at")))) (mNot (mTest (mFn (arity 1 f_law_is_name) [] (mCons (mOp gIx (mVar 1) (mC (.int 1))) mNil)))))) (sRet (mC (.int 1))) sNext) (sSeq (sForR2 (mCons (mC (.int 1)) (mCons (mCall (DK.g1 gLen) (mCons (mVar 0) mNil)) mNil)) (bName 2) dT) (sRet (mC (.int 0)))))) := rfl
theorem eq_nil (ok : ∀ p ∈ ls, PyData.strOk p = true) : gEq O (.lst (ls.map .str)) (.lst []) = some (.bl (decide (ls = [])), O) := by
  refine gEq_of ?_
  rw [eqD_pd (okV_strs ok) (by rfl) (.inl rfl)]
  cases ls with
  | nil => rfl
  | cons x xs => rfl
structure DI (ls : List Str) (zp : D) (O0 : Store) (i : Nat) (L : Loc) (O : Store) : Prop where
  ex : ∃ y2, L = [some (.lst (ls.map .str)), some zp, y2] ∧ O = O0
  gd : ∀ j, j < i → goodL ls j = true
def DR (O0 : Store) (i : Nat) (r : SR) : Prop := r = .ret (.int (((i + 1 : Nat)) : Int)) O0
theorem due_turn {i : Nat} {L : Loc} {zp : D} (hp : ∀ p ∈ ls, p.length ≤ 900) (h1 : 1 ≤ i) (hi : i < ls.length) (h : DI ls zp O0 i L O) :
    (goodL ls i = true → ∃ L' O', turnOf (bName 2) dT (.int (i : Int)) L O = .next L' O' ∧ DI ls zp O0 (i + 1) L' O') ∧ (goodL ls i = false → DR O0 i (turnOf (bName 2) dT (.int (i : Int)) L O)) := by
  obtain ⟨⟨y2, rfl, rfl⟩, gd⟩ := h
  obtain ⟨ln, hln⟩ : ∃ ln, ls[i]? = some ln := ⟨ls[i], List.getElem?_eq_getElem hi⟩
  have hl := hp ln (List.mem_of_getElem? hln)
  have ht : turnOf (bName 2) dT (.int (i : Int)) [some (.lst (ls.map .str)), some zp, y2] O = dT [some (.lst (ls.map .str)), some zp, some (.int (i : Int))] O := rfl
  rw [ht]
  have e1 := ix_line (O := O) hln
  have e2 := law_row_ok (O := O) hl
  have c : ((i + 1 : Nat) : Int) = (i : Int) + 1 := by omega
  unfold DR
  rw [c]
  have grow : ∀ L', L' = [some (.lst (ls.map .str)), some zp, some (.int (i : Int))] → goodL ls i = true → DI ls zp O (i + 1) L' O := fun L' e g => ⟨⟨_, e, rfl⟩, fun j hj => by
    by_cases hj2 : j = i
    · rw [hj2]; exact g
    · exact gd j (by omega)⟩
  cases hr : rowP (parts ln) with
  | none =>
    have gf : goodL ls i = false := by
      unfold goodL
      rw [hln]
      simp only [if_neg (show ¬ i = 0 by omega), hr]
    rw [gf]
    refine ⟨fun z => (by cases z), fun _ => ?_⟩
    rw [hr] at e2
    generalize ls.map D.str = zs at *
    simp [runF, sSeq, sIf, sNext, sDrop, sRet, sRetN, sAsg, ofRes, ofB, bName, bNil, bCons, bTup, bLst, bSubL, mTest, mOp, mVar, mC, mChain, mAnd, mOr, mNot, mIf, mAndV, mOrV, mNotV, mNeg, mCons, mNil, mTup, mLst, newL, mCall, mFn, arity, g1, g2, gLen, gInt, gAbs, gMax2, gMin2, seqOf, lsqOf, lstOf, Res.bind, ofO, gAdd_ok, gSub_ok, gEq_int, gNe_int, gLt_int, gLe_int, gGt_int, gGe_int, gEq_bl, gNe_bl, gEq_str, gNe_str, mIsi, mIsiT, tyD, kitL, kitTab, atI_c0, atI_c1, atI_c2, atI_c3, atI_c4, sForR1, int1, int2, mMeth, mMake, mFld, sFldM, gIs, gIsNot, isNon_t, sRaise, gList, newLO, e1, e2]
  | some r =>
    rw [hr] at e2
    have k2 := law_key_ok (O := O) hl hr
    have gdi : goodL ls i = (decide (i = 1) || afterR ((ls[i - 1]?).bind fun q => rowP (parts q)) r) := by
      unfold goodL
      rw [hln]
      simp only [if_neg (show ¬ i = 0 by omega), hr]
    by_cases hi1 : i = 1
    · have gt : goodL ls i = true := by rw [gdi, decide_eq_true hi1]; rfl
      have q := grow _ rfl gt
      rw [gt]
      refine ⟨fun _ => ⟨_, O, ?_, q⟩, fun z => (by cases z)⟩
      subst hi1
      clear q grow
      have e1 : gIx O (.lst (ls.map .str)) (.int 1) = some (.str ln, O) := e1
      generalize ls.map D.str = zs at *
      simp [runF, sSeq, sIf, sNext, sDrop, sRet, sRetN, sAsg, ofRes, ofB, bName, bNil, bCons, bTup, bLst, bSubL, mTest, mOp, mVar, mC, mChain, mAnd, mOr, mNot, mIf, mAndV, mOrV, mNotV, mNeg, mCons, mNil, mTup, mLst, newL, mCall, mFn, arity, g1, g2, gLen, gInt, gAbs, gMax2, gMin2, seqOf, lsqOf, lstOf, Res.bind, ofO, gAdd_ok, gSub_ok, gEq_int, gNe_int, gLt_int, gLe_int, gGt_int, gGe_int, gEq_bl, gNe_bl, gEq_str, gNe_str, mIsi, mIsiT, tyD, kitL, kitTab, atI_c0, atI_c1, atI_c2, atI_c3, atI_c4, sForR1, int1, int2, mMeth, mMake, mFld, sFldM, gIs, gIsNot, isNon_t, sRaise, gList, newLO, e1, e2]
    · obtain ⟨a, ln', hl', ha, hlast⟩ := last_row (i := i) (by omega) (by omega) gd
      have gdi : goodL ls i = ltK a r := by
        rw [gdi, decide_eq_false hi1, hl']
        simp [ha, afterR]
      have e3 := ix_line (O := O) hl'
      rw [show ((i - 1 : Nat) : Int) = (i : Int) - 1 by omega] at e3
      have k1 := law_key_ok (O := O) (hp ln' (List.mem_of_getElem? hl')) ha
      have ge := geK (O := O) a r
      have h1i : 1 < i := by omega
      have h1I : (1 : Int) < (i : Int) := by omega
      generalize k4D r = kr at *
      generalize k4D a = ka at *
      cases hlt : ltK a r with
      | true =>
        rw [hlt] at gdi
        have q := grow _ rfl gdi
        rw [gdi]
        refine ⟨fun _ => ⟨_, O, ?_, q⟩, fun z => (by cases z)⟩
        rw [hlt] at ge
        clear q grow
        generalize ls.map D.str = zs at *
        simp [runF, sSeq, sIf, sNext, sDrop, sRet, sRetN, sAsg, ofRes, ofB, bName, bNil, bCons, bTup, bLst, bSubL, mTest, mOp, mVar, mC, mChain, mAnd, mOr, mNot, mIf, mAndV, mOrV, mNotV, mNeg, mCons, mNil, mTup, mLst, newL, mCall, mFn, arity, g1, g2, gLen, gInt, gAbs, gMax2, gMin2, seqOf, lsqOf, lstOf, Res.bind, ofO, gAdd_ok, gSub_ok, gEq_int, gNe_int, gLt_int, gLe_int, gGt_int, gGe_int, gEq_bl, gNe_bl, gEq_str, gNe_str, mIsi, mIsiT, tyD, kitL, kitTab, atI_c0, atI_c1, atI_c2, atI_c3, atI_c4, sForR1, int1, int2, mMeth, mMake, mFld, sFldM, gIs, gIsNot, isNon_t, sRaise, gList, newLO, e1, e2, e3, k1, k2, ge, h1i, h1I]
      | false =>
        rw [hlt] at gdi
        rw [gdi]
        refine ⟨fun z => (by cases z), fun _ => ?_⟩
        rw [hlt] at ge
        clear grow
        generalize ls.map D.str = zs at *
        simp [runF, sSeq, sIf, sNext, sDrop, sRet, sRetN, sAsg, ofRes, ofB, bName, bNil, bCons, bTup, bLst, bSubL, mTest, mOp, mVar, mC, mChain, mAnd, mOr, mNot, mIf, mAndV, mOrV, mNotV, mNeg, mCons, mNil, mTup, mLst, newL, mCall, mFn, arity, g1, g2, gLen, gInt, gAbs, gMax2, gMin2, seqOf, lsqOf, lstOf, Res.bind, ofO, gAdd_ok, gSub_ok, gEq_int, gNe_int, gLt_int, gLe_int, gGt_int, gGe_int, gEq_bl, gNe_bl, gEq_str, gNe_str, mIsi, mIsiT, tyD, kitL, kitTab, atI_c0, atI_c1, atI_c2, atI_c3, atI_c4, sForR1, int1, int2, mMeth, mMake, mFld, sFldM, gIs, gIsNot, isNon_t, sRaise, gList, newLO, e1, e2, e3, k1, k2, ge, h1i, h1I]
theorem due_ok (hn : ls.length ≤ 800) (hp : ∀ p ∈ ls, p.length ≤ 900) (ok : ∀ p ∈ ls, PyData.strOk p = true) :
    (Fine ls ∧ f_law_due [.lst (ls.map .str)] O = .ok (.int 0) O) ∨ ∃ m : Nat, Bad ls m ∧ f_law_due [.lst (ls.map .str)] O = .ok (.int (m : Int)) O := by
  have run : f_law_due [.lst (ls.map .str)] O = (match b_law_due [some (.lst (ls.map .str)), none, none] O with
      | .next _ O1 => Res.ok D.non O1
      | .ret d O1 => .ok d O1
      | .exc x _ O1 => .exc x O1
      | _ => .bad) := rfl
  have en := eq_nil (O := O) ok
  by_cases hz : ls = []
  · right
    refine ⟨1, .inl ⟨hz, rfl⟩, ?_⟩
    rw [decide_eq_true hz] at en
    rw [run, due_is]
    generalize sForR2 (mCons (mC (.int 1)) (mCons (mCall (DK.g1 gLen) (mCons (mVar 0) mNil)) mNil)) (bName 2) dT = sf
    generalize ls.map D.str = zs at *
    simp [runF, sSeq, sIf, sNext, sDrop, sRet, sRetN, sAsg, ofRes, ofB, bName, bNil, bCons, bTup, bLst, bSubL, mTest, mOp, mVar, mC, mChain, mAnd, mOr, mNot, mIf, mAndV, mOrV, mNotV, mNeg, mCons, mNil, mTup, mLst, newL, mCall, mFn, arity, g1, g2, gLen, gInt, gAbs, gMax2, gMin2, gIx, seqOf, lsqOf, lstOf, Res.bind, ofO, gAdd_ok, gSub_ok, gEq_int, gNe_int, gLt_int, gLe_int, gGt_int, gGe_int, gEq_bl, gNe_bl, gEq_str, gNe_str, mIsi, mIsiT, tyD, kitL, kitTab, atI_c0, atI_c1, atI_c2, atI_c3, atI_c4, sForR1, int1, int2, mMeth, mMake, mFld, sFldM, gIs, gIsNot, isNon_t, sRaise, gList, newLO, en]
  · rw [decide_eq_false hz] at en
    obtain ⟨ln, hln⟩ : ∃ ln, ls[0]? = some ln := ⟨ls[0]'(List.length_pos_iff.mpr hz), List.getElem?_eq_getElem _⟩
    have hpos := List.length_pos_iff.mpr hz
    have hl := hp ln (List.mem_of_getElem? hln)
    have e0 : gIx O (.lst (ls.map .str)) (.int 0) = some (.str ln, O) := ix_line (i := 0) hln
    have a0 : atI (ls.map D.str) 0 = some (.str ln) := atI_nat (by omega) (by rw [List.getElem?_map]; show (ls[0]?).map D.str = _; rw [hln]; rfl)
    have g := Rd.gs32 (O := O) (x := ln) (by omega)
    have gd0 : goodL ls 0 = (headP (parts ln)).isSome := by
      unfold goodL
      rw [hln]
      rfl
    have bad : headP (parts ln) = none → Bad ls 1 := fun h => .inr ⟨0, hpos, fun j hj => absurd hj (Nat.not_lt_zero _), by rw [gd0, h]; rfl, rfl⟩
    have other : (parts ln).length ≠ 2 → f_law_due [.lst (ls.map .str)] O = .ok (.int 1) O := fun h2 => by
      rw [run, due_is]
      have hl2 : (((parts ln).map D.str).length : Int) = ((parts ln).length : Int) := by rw [List.length_map]
      have h2 : ¬ ((parts ln).length : Int) = 2 := by omega
      generalize sForR2 (mCons (mC (.int 1)) (mCons (mCall (DK.g1 gLen) (mCons (mVar 0) mNil)) mNil)) (bName 2) dT = sf
      generalize (parts ln).map D.str = zp at *
      generalize ls.map D.str = zs at *
      simp [mBS, runF, sSeq, sIf, sNext, sDrop, sRet, sRetN, sAsg, ofRes, ofB, bName, bNil, bCons, bTup, bLst, bSubL, mTest, mOp, mVar, mC, mChain, mAnd, mOr, mNot, mIf, mAndV, mOrV, mNotV, mNeg, mCons, mNil, mTup, mLst, newL, mCall, mFn, arity, g1, g2, gLen, gInt, gAbs, gMax2, gMin2, seqOf, lsqOf, lstOf, Res.bind, ofO, gAdd_ok, gSub_ok, gEq_int, gNe_int, gLt_int, gLe_int, gGt_int, gGe_int, gEq_bl, gNe_bl, gEq_str, gNe_str, mIsi, mIsiT, tyD, kitL, kitTab, atI_c0, atI_c1, atI_c2, atI_c3, atI_c4, sForR1, int1, int2, mMeth, mMake, mFld, sFldM, gIs, gIsNot, isNon_t, sRaise, gList, newLO, en, e0, g, hl2, h2]
    match hpp : parts ln with
    | [a, b] =>
      have hb := hp
      have hbl : b.length ≤ 900 := by have := split_part (c := 32) (x := ln) (p := b) (by rw [show Txt.split ln (one 32) = parts ln from rfl, hpp]; simp); omega
      have e2 := law_name_ok (O := O) hbl
      rw [← y_lname] at e2
      rw [show Txt.split ln (one 32) = parts ln from rfl, hpp] at g
      by_cases ha : a = "at"
      · cases hnb : nameB b
        · right
          refine ⟨1, bad (by rw [hpp]; simp [headP, hnb]), ?_⟩
          rw [run, due_is]
          rw [hnb] at e2
          generalize sForR2 (mCons (mC (.int 1)) (mCons (mCall (DK.g1 gLen) (mCons (mVar 0) mNil)) mNil)) (bName 2) dT = sf
          generalize ls.map D.str = zs at *
          simp [mBS, runF, sSeq, sIf, sNext, sDrop, sRet, sRetN, sAsg, ofRes, ofB, bName, bNil, bCons, bTup, bLst, bSubL, mTest, mOp, mVar, mC, mChain, mAnd, mOr, mNot, mIf, mAndV, mOrV, mNotV, mNeg, mCons, mNil, mTup, mLst, newL, mCall, mFn, arity, g1, g2, gLen, gInt, gAbs, gMax2, gMin2, gIx, seqOf, lsqOf, lstOf, Res.bind, ofO, gAdd_ok, gSub_ok, gEq_int, gNe_int, gLt_int, gLe_int, gGt_int, gGe_int, gEq_bl, gNe_bl, gEq_str, gNe_str, mIsi, mIsiT, tyD, kitL, kitTab, atI_c0, atI_c1, atI_c2, atI_c3, atI_c4, sForR1, int1, int2, mMeth, mMake, mFld, sFldM, gIs, gIsNot, isNon_t, sRaise, gList, newLO, en, a0, g, ha, e2]
        · have g0 : goodL ls 0 = true := by rw [gd0, hpp]; simp [headP, ha, hnb]
          have lenE : gLen O (.lst (ls.map .str)) = some (.int (ls.length : Int), O) := by simp [gLen, seqOf, lsqOf, lstOf]
          have lp := forR2_first (t := mCons (mC (.int 1)) (mCons (mCall (DK.g1 gLen) (mCons (mVar 0) mNil)) mNil)) (b := bName 2) (body := dT) (I := DI ls (.lst [.str a, .str b]) O) (good := goodL ls) (R := DR O) (L := [some (.lst (ls.map .str)), some (.lst [.str a, .str b]), none]) (O := O) (O1 := O) (a := 1) (n := ls.length)
            (by
              generalize ls.map D.str = zs at *
              simp [mCons, mNil, mCall, DK.g1, mVar, mC, Res.bind, ofO, lenE]) hpos (by omega) ⟨⟨none, rfl, rfl⟩, fun j hj => by obtain rfl : j = 0 := (by omega); exact g0⟩ (fun j r f e => by rw [show r = _ from e]; rfl) fun i L O h1 hi h => due_turn hp h1 hi h
          rw [hnb] at e2
          have start : f_law_due [.lst (ls.map .str)] O = (match sForR2 (mCons (mC (.int 1)) (mCons (mCall (DK.g1 gLen) (mCons (mVar 0) mNil)) mNil)) (bName 2) dT [some (.lst (ls.map .str)), some (.lst [.str a, .str b]), none] O with
              | .next _ O1 => .ok (.int 0) O1
              | .ret d O1 => .ok d O1
              | .exc x _ O1 => .exc x O1
              | _ => .bad) := by
            rw [run, due_is]
            generalize sForR2 (mCons (mC (.int 1)) (mCons (mCall (DK.g1 gLen) (mCons (mVar 0) mNil)) mNil)) (bName 2) dT = sf at *
            clear lp
            generalize ls.map D.str = zs at *
            simp [mBS, runF, sSeq, sIf, sNext, sDrop, sRet, sRetN, sAsg, ofRes, ofB, bName, bNil, bCons, bTup, bLst, bSubL, mTest, mOp, mVar, mC, mChain, mAnd, mOr, mNot, mIf, mAndV, mOrV, mNotV, mNeg, mCons, mNil, mTup, mLst, newL, mCall, mFn, arity, g1, g2, gLen, gInt, gAbs, gMax2, gMin2, gIx, seqOf, lsqOf, lstOf, Res.bind, ofO, gAdd_ok, gSub_ok, gEq_int, gNe_int, gLt_int, gLe_int, gGt_int, gGe_int, gEq_bl, gNe_bl, gEq_str, gNe_str, mIsi, mIsiT, tyD, kitL, kitTab, atI_c0, atI_c1, atI_c2, atI_c3, atI_c4, sForR1, int1, int2, mMeth, mMake, mFld, sFldM, gIs, gIsNot, isNon_t, sRaise, gList, newLO, en, a0, g, ha, e2]
            generalize sf _ _ = q
            cases q <;> rfl
          rcases lp with ⟨g1, L', O', e, ⟨⟨y2, rfl, rfl⟩, gd⟩⟩ | ⟨i, h1, hi, g1, g2, r⟩
          · left
            refine ⟨⟨hz, fun k hk => gd k hk⟩, ?_⟩
            rw [start, e]
          · right
            refine ⟨i + 1, .inr ⟨i, hi, fun j hj => ?_, g2, rfl⟩, ?_⟩
            · by_cases h0 : j = 0
              · rw [h0]; exact g0
              · exact g1 j (by omega) hj
            · rw [start, show sForR2 _ _ _ _ _ = _ from r]
      · right
        refine ⟨1, bad (by rw [hpp]; simp [headP, ha]), ?_⟩
        rw [run, due_is]
        generalize sForR2 (mCons (mC (.int 1)) (mCons (mCall (DK.g1 gLen) (mCons (mVar 0) mNil)) mNil)) (bName 2) dT = sf
        generalize ls.map D.str = zs at *
        simp [mBS, runF, sSeq, sIf, sNext, sDrop, sRet, sRetN, sAsg, ofRes, ofB, bName, bNil, bCons, bTup, bLst, bSubL, mTest, mOp, mVar, mC, mChain, mAnd, mOr, mNot, mIf, mAndV, mOrV, mNotV, mNeg, mCons, mNil, mTup, mLst, newL, mCall, mFn, arity, g1, g2, gLen, gInt, gAbs, gMax2, gMin2, gIx, seqOf, lsqOf, lstOf, Res.bind, ofO, gAdd_ok, gSub_ok, gEq_int, gNe_int, gLt_int, gLe_int, gGt_int, gGe_int, gEq_bl, gNe_bl, gEq_str, gNe_str, mIsi, mIsiT, tyD, kitL, kitTab, atI_c0, atI_c1, atI_c2, atI_c3, atI_c4, sForR1, int1, int2, mMeth, mMake, mFld, sFldM, gIs, gIsNot, isNon_t, sRaise, gList, newLO, en, a0, g, ha]
    | [] => exact .inr ⟨1, bad (by rw [hpp]; rfl), other (by rw [hpp]; simp)⟩
    | [a] => exact .inr ⟨1, bad (by rw [hpp]; rfl), other (by rw [hpp]; simp)⟩
    | a :: b :: c :: r => exact .inr ⟨1, bad (by rw [hpp]; rfl), other (by rw [hpp]; simp)⟩
end
end DK.k39
end
section
set_option Elab.async false
set_option linter.all false
set_option autoImplicit false
set_option maxRecDepth 100000
set_option maxHeartbeats 4000000
/-! K39E: rows told as lines, in plain Lean. -/
namespace DK.k39
open PySem L2 DK DK.Sp DK.Rd DK.Lc
def lineR (r : R4) : Str := match r.2.2.2 with
  | none => strN r.1 ++ " " ++ r.2.1 ++ " " ++ r.2.2.1
  | some f => strN r.1 ++ " " ++ r.2.1 ++ " " ++ r.2.2.1 ++ " to " ++ f
structure RowB (r : R4) : Prop where
  m0 : 0 ≤ r.1
  m1 : r.1 ≤ 1000000
  w : r.2.1.length ≤ 12
  nm : r.2.2.1.length ≤ 12
  far : ∀ f, r.2.2.2 = some f → f.length ≤ 12
theorem strN_len {v : Int} (h0 : 0 ≤ v) (h1 : v ≤ 1000000) : (strN v).length ≤ 7 := PyProof.Rows.toString_length_le h0 (k := 7) (by decide) (by omega)
theorem lit_len : (" " : Str).length = 1 ∧ (" to " : Str).length = 4 ∧ ("at " : Str).length = 3 ∧ ("" : Str).length = 0 := ⟨rfl, rfl, rfl, rfl⟩
theorem lineR_len {r : R4} (h : RowB r) : (lineR r).length ≤ 50 := by
  have := strN_len h.m0 h.m1
  have := h.w
  have := h.nm
  obtain ⟨l1, l2, _⟩ := lit_len
  unfold lineR
  split
  · simp only [Str.length_append]; omega
  · rename_i f e
    have := h.far f e
    simp only [Str.length_append]; omega
section
variable {O : Store} {ls : List Str} {ln s : Str}
theorem line_of_ok {r : R4} (h : RowB r) : f_line_of [r4D r] O = .ok (.str (lineR r)) O := by
  obtain ⟨m, w, nm, far⟩ := r
  obtain ⟨m0, m1, hw, hnm, hfar⟩ := h
  simp only at m0 m1 hw hnm hfar
  have l0 := strN_len m0 m1
  obtain ⟨l1, l2, _⟩ := lit_len
  have e0 := gStr_ok (O := O) m0 (by omega)
  have e1 := gAdd_str (O := O) (h := false) (a := strN m) (b := " ") (by omega)
  have e2 := gAdd_str (O := O) (h := false) (a := strN m ++ " ") (b := w) (by simp only [Str.length_append]; omega)
  have e3 := gAdd_str (O := O) (h := false) (a := strN m ++ " " ++ w) (b := " ") (by simp only [Str.length_append]; omega)
  have e4 := gAdd_str (O := O) (h := false) (a := strN m ++ " " ++ w ++ " ") (b := nm) (by simp only [Str.length_append]; omega)
  unfold lineR
  cases far with
  | none =>
    show f_line_of [.tup [.int m, .str w, .str nm, .non]] O = _
    simp only
    generalize strN m = sm at *
    simp [f_line_of, b_line_of, runF, sSeq, sIf, sNext, sDrop, sRet, sRetN, sAsg, ofRes, ofB, bName, bNil, bCons, bTup, bLst, bSubL, mTest, mOp, mVar, mC, mChain, mAnd, mOr, mNot, mIf, mAndV, mOrV, mNotV, mNeg, mCons, mNil, mTup, mLst, newL, mCall, mFn, arity, g1, g2, gLen, gInt, gAbs, gMax2, gMin2, gIx, seqOf, lsqOf, lstOf, Res.bind, ofO, gAdd_ok, gSub_ok, gEq_int, gNe_int, gLt_int, gLe_int, gGt_int, gGe_int, gEq_bl, gNe_bl, gEq_str, gNe_str, mIsi, mIsiT, tyD, kitL, kitTab, atI_c0, atI_c1, atI_c2, atI_c3, atI_c4, sForR1, int1, int2, mMeth, mMake, mFld, sFldM, gIs, gIsNot, isNon_t, sRaise, gList, newLO, e0, e1, e2, e3, e4]
  | some f =>
    have hf := hfar f rfl
    have e5 := gAdd_str (O := O) (h := false) (a := strN m ++ " " ++ w ++ " " ++ nm) (b := " to ") (by simp only [Str.length_append]; omega)
    have e6 := gAdd_str (O := O) (h := false) (a := strN m ++ " " ++ w ++ " " ++ nm ++ " to ") (b := f) (by simp only [Str.length_append]; omega)
    show f_line_of [.tup [.int m, .str w, .str nm, .str f]] O = _
    simp only
    generalize strN m = sm at *
    simp [f_line_of, b_line_of, runF, sSeq, sIf, sNext, sDrop, sRet, sRetN, sAsg, ofRes, ofB, bName, bNil, bCons, bTup, bLst, bSubL, mTest, mOp, mVar, mC, mChain, mAnd, mOr, mNot, mIf, mAndV, mOrV, mNotV, mNeg, mCons, mNil, mTup, mLst, newL, mCall, mFn, arity, g1, g2, gLen, gInt, gAbs, gMax2, gMin2, gIx, seqOf, lsqOf, lstOf, Res.bind, ofO, gAdd_ok, gSub_ok, gEq_int, gNe_int, gLt_int, gLe_int, gGt_int, gGe_int, gEq_bl, gNe_bl, gEq_str, gNe_str, mIsi, mIsiT, tyD, kitL, kitTab, atI_c0, atI_c1, atI_c2, atI_c3, atI_c4, sForR1, int1, int2, mMeth, mMake, mFld, sFldM, gIs, gIsNot, isNon_t, sRaise, gList, newLO, e0, e1, e2, e3, e4, e5, e6]
theorem rowP_B {r : R4} (h : rowP (parts ln) = some r) : RowB r := by
  unfold rowP at h
  split at h
  · split at h
    · rename_i q
      cases h
      obtain ⟨_, v0, v1, _⟩ := Rd.numW_val q.2.2.1
      exact ⟨v0, v1, by show ("close" : Str).length ≤ 12; decide +kernel, (nameB_len q.2.2.2.1).2, fun f hf => by cases hf; exact (nameB_len q.2.2.2.2).2⟩
    · cases h
  · split at h
    · rename_i q
      cases h
      obtain ⟨_, v0, v1, _⟩ := Rd.numW_val q.2.1
      refine ⟨v0, v1, ?_, (nameB_len q.2.2).2, fun f hf => by cases hf⟩
      have key : ∀ b : Str, b = "crank" ∨ b = "start" → b.length ≤ 12 := fun b h => by
        rcases h with rfl | rfl <;> decide +kernel
      exact key _ q.1
    · cases h
  · cases h
theorem jn5 {a b c d e : Str} : jn 32 [a, b, c, d, e] = a.cps.toList ++ 32 :: (b.cps.toList ++ 32 :: (c.cps.toList ++ 32 :: (d.cps.toList ++ 32 :: e.cps.toList))) := by
  rw [jn_cons, jn_cons, jn_cons, jn_cons, jn_one]
theorem jn3 {a b c : Str} : jn 32 [a, b, c] = a.cps.toList ++ 32 :: (b.cps.toList ++ 32 :: c.cps.toList) := by
  rw [jn_cons, jn_cons, jn_one]
theorem jn2 {a b : Str} : jn 32 [a, b] = a.cps.toList ++ 32 :: b.cps.toList := by
  rw [jn_cons, jn_one]
theorem app_list (a b : Str) : (a ++ b).cps.toList = a.cps.toList ++ b.cps.toList := by rw [Str.cps_append, Array.toList_append]
theorem lits : (" " : Str).cps.toList = [32] ∧ (" to " : Str).cps.toList = [32, 116, 111, 32] ∧ ("to" : Str).cps.toList = [116, 111] ∧ ("at " : Str).cps.toList = [97, 116, 32] ∧ ("at" : Str).cps.toList = [97, 116] := ⟨rfl, rfl, rfl, rfl, rfl⟩
theorem canon {r : R4} (h : rowP (parts ln) = some r) : lineR r = ln := by
  have j : jn 32 (parts ln) = ln.cps.toList := by
    unfold jn
    rw [show Str.join (one 32) (parts ln) = ln from StrLaws.join_split ln (one 32)]
  obtain ⟨t1, t2, t3, _⟩ := lits
  unfold rowP at h
  split at h
  · rename_i a b c d e hp
    split at h
    · rename_i q
      cases h
      obtain ⟨hb, hd, ha, _, _⟩ := q
      rw [hp, jn5, hb, hd] at j
      refine str_ext ?_
      rw [← j]
      show (strN (valW a) ++ " " ++ "close" ++ " " ++ c ++ " to " ++ e).cps.toList = _
      rw [str_val ha]
      simp only [app_list, t1, t2, t3, List.append_assoc, List.cons_append, List.nil_append]
    · cases h
  · rename_i a b c hp
    split at h
    · rename_i q
      cases h
      obtain ⟨_, ha, _⟩ := q
      rw [hp, jn3] at j
      refine str_ext ?_
      rw [← j]
      show (strN (valW a) ++ " " ++ b ++ " " ++ c).cps.toList = _
      rw [str_val ha]
      simp only [app_list, t1, List.append_assoc, List.cons_append, List.nil_append]
    · cases h
  · cases h
theorem canonH {s : Str} (h : headP (parts ln) = some s) : ("at " : Str) ++ s = ln ∧ nameB s = true := by
  have j : jn 32 (parts ln) = ln.cps.toList := by
    unfold jn
    rw [show Str.join (one 32) (parts ln) = ln from StrLaws.join_split ln (one 32)]
  obtain ⟨_, _, _, t4, t5⟩ := lits
  unfold headP at h
  split at h
  · rename_i a b hp
    split at h
    · rename_i q
      cases h
      rw [hp, jn2, q.1] at j
      refine ⟨str_ext ?_, q.2⟩
      rw [← j]
      simp only [app_list, t4, t5, List.cons_append, List.nil_append]
    · cases h
  · cases h
theorem fm_line : ∀ {t : List Str}, (∀ q ∈ t, ∃ r, rowP (parts q) = some r) → (t.filterMap fun q => rowP (parts q)).map lineR = t
  | [], _ => rfl
  | q :: t, h => by
    obtain ⟨r, hr⟩ := h q List.mem_cons_self
    rw [List.filterMap_cons, hr, List.map_cons, canon hr, fm_line fun p hp => h p (List.mem_cons_of_mem _ hp)]
theorem fine_lines (h : Fine ls) : (("at " : Str) ++ headS ls) :: (rowsTo ls ls.length).map lineR = ls ∧ nameB (headS ls) = true := by
  obtain ⟨hne, hg⟩ := h
  cases ls with
  | nil => exact absurd rfl hne
  | cons q t =>
    have g0 := hg 0 (by simp)
    unfold goodL at g0
    simp only [List.getElem?_cons_zero, if_true] at g0
    obtain ⟨s, hs⟩ := Option.isSome_iff_exists.mp g0
    have hh : headS (q :: t) = s := by
      unfold headS
      simp [hs]
    obtain ⟨c1, c2⟩ := canonH hs
    rw [hh]
    refine ⟨?_, c2⟩
    rw [c1]
    congr 1
    unfold rowsTo
    rw [List.take_length, List.drop_one, List.tail_cons]
    refine fm_line fun p hp => ?_
    obtain ⟨j, hj, e⟩ := List.getElem_of_mem hp
    have e2 : (q :: t)[j + 1]? = some p := by rw [List.getElem?_cons_succ, List.getElem?_eq_getElem hj, e]
    exact goodL_row (by omega) e2 (hg (j + 1) (by rw [List.length_cons]; omega))
theorem rows_B (i : Nat) : ∀ r ∈ rowsTo ls i, RowB r := fun r hr => by
  unfold rowsTo at hr
  obtain ⟨q, _, e⟩ := List.mem_filterMap.mp hr
  exact rowP_B e
/-- the text of a sheet -/
theorem format_ok {d : D} {rows : List R4} (hd : lsqOf O d = some (rows.map r4D)) (hB : ∀ r ∈ rows, RowB r) (hr : rows.length ≤ 900) (hs : s.length ≤ 12) : f_format_sheet [.str s, d] O = .ok (.str (txt ((("at " : Str) ++ s) :: rows.map lineR))) O := by
  have e1 := gAdd_str (O := O) (h := false) (a := "at ") (b := s) (by have := lit_len.2.2.1; omega)
  have e2 := lcL_pure (src := mVar 1) (vs := [2]) (b := bName 2) (tt := mYes) (el := mFn (arity 1 f_line_of) [] (mCons (mVar 2) mNil)) (L := [some (.str s), some d, none, none]) (O := O) (O1 := O) (d := d) (ds := rows.map r4D) (fun d => match d with | .tup [.int m, .str w, .str nm, .non] => some (.str (lineR (m, w, nm, none))) | .tup [.int m, .str w, .str nm, .str f] => some (.str (lineR (m, w, nm, some f))) | _ => none) rfl hd (by rw [List.length_map]; omega) fun d' hd' => by
    obtain ⟨r, hr, rfl⟩ := List.mem_map.mp hd'
    have e := line_of_ok (O := O) (hB r hr)
    refine ⟨[some (.str s), some d, some (r4D r), none], rfl, .inl ⟨.str (lineR r), rfl, ?_, ?_⟩⟩
    · generalize r4D r = dd at *
      simp [runF, sSeq, sIf, sNext, sDrop, sRet, sRetN, sAsg, ofRes, ofB, bName, bNil, bCons, bTup, bLst, bSubL, mTest, mOp, mVar, mC, mChain, mAnd, mOr, mNot, mIf, mAndV, mOrV, mNotV, mNeg, mCons, mNil, mTup, mLst, newL, mCall, mFn, arity, g1, g2, gLen, gInt, gAbs, gMax2, gMin2, gIx, seqOf, lsqOf, lstOf, Res.bind, ofO, gAdd_ok, gSub_ok, gEq_int, gNe_int, gLt_int, gLe_int, gGt_int, gGe_int, gEq_bl, gNe_bl, gEq_str, gNe_str, mIsi, mIsiT, tyD, kitL, kitTab, atI_c0, atI_c1, atI_c2, atI_c3, atI_c4, sForR1, int1, int2, mMeth, mMake, mFld, sFldM, gIs, gIsNot, isNon_t, sRaise, gList, newLO, e]
    · obtain ⟨m, w, nm, far⟩ := r
      cases far <;> rfl
  have e3 : (rows.map r4D).filterMap (fun d => match d with | .tup [.int m, .str w, .str nm, .non] => some (D.str (lineR (m, w, nm, none))) | .tup [.int m, .str w, .str nm, .str f] => some (.str (lineR (m, w, nm, some f))) | _ => none) = (rows.map lineR).map .str := by
    clear e2 hd hB hr
    induction rows with
    | nil => rfl
    | cons r rows ih =>
      rw [List.map_cons, List.filterMap_cons, List.map_cons, List.map_cons, ← ih]
      obtain ⟨m, w, nm, far⟩ := r
      cases far <;> rfl
  rw [e3] at e2
  have hA : ((("at " : Str) ++ s) :: rows.map lineR).length ≤ 1000 := by rw [List.length_cons, List.length_map]; omega
  have hp : ∀ p ∈ (("at " : Str) ++ s) :: rows.map lineR, p.length ≤ 1000 := fun p hp => by
    rcases List.mem_cons.mp hp with rfl | hp
    · rw [Str.length_append]; have := lit_len.2.2.1; omega
    · obtain ⟨r, hr, rfl⟩ := List.mem_map.mp hp
      have := lineR_len (hB r hr)
      omega
  have e4 := lcNl (src := mOp (gAdd false) (mLst false (mCons (mOp (gAdd false) (mC (.str "at ")) (mVar 0)) mNil)) (mLcL false (mVar 1) [2] (bName 2) mYes (mFn (arity 1 f_line_of) [] (mCons (mVar 2) mNil)))) (i := 3) (L := [some (.str s), some d, none, none]) (O := O) (O1 := O) (A := (("at " : Str) ++ s) :: rows.map lineR) (d := .lst (((("at " : Str) ++ s) :: rows.map lineR).map .str))
    (by
      have hl : (((rows.map lineR).map D.str).length : Nat) ≤ 1000 := by rw [List.length_map, List.length_map]; omega
      have e5 : ∀ zs : List D, zs.length ≤ 1000 → gAdd false O (.lst [.str ("at " ++ s)]) (.lst zs) = some (.lst (.str ("at " ++ s) :: zs), O) := fun zs hz => by
        show newLO false ([D.str ("at " ++ s)] ++ zs) O = _
        unfold newLO
        rw [if_pos (by simp; omega)]
        rfl
      have e5 := e5 _ hl
      rw [List.map_cons]
      generalize mLcL false (mVar 1) [2] (bName 2) mYes (mFn (arity 1 f_line_of) [] (mCons (mVar 2) mNil)) = lc at *
      generalize (rows.map lineR).map D.str = zs at *
      simp [runF, sSeq, sIf, sNext, sDrop, sRet, sRetN, sAsg, ofRes, ofB, bName, bNil, bCons, bTup, bLst, bSubL, mTest, mOp, mVar, mC, mChain, mAnd, mOr, mNot, mIf, mAndV, mOrV, mNotV, mNeg, mCons, mNil, mTup, mLst, newL, mCall, mFn, arity, g1, g2, gLen, gInt, gAbs, gMax2, gMin2, gIx, seqOf, lsqOf, lstOf, Res.bind, ofO, gAdd_ok, gSub_ok, gEq_int, gNe_int, gLt_int, gLe_int, gGt_int, gGe_int, gEq_bl, gNe_bl, gEq_str, gNe_str, mIsi, mIsiT, tyD, kitL, kitTab, atI_c0, atI_c1, atI_c2, atI_c3, atI_c4, sForR1, int1, int2, mMeth, mMake, mFld, sFldM, gIs, gIsNot, isNon_t, sRaise, gList, newLO, e1, e2, e5]) rfl (by simp) hA hp
  have e6 := join_txt (O := O) hA hp
  show runF 4 b_format_sheet [.str s, d] O = _
  unfold runF b_format_sheet
  generalize (mLcL false (mOp (gAdd false) (mLst false (mCons (mOp (gAdd false) (mC (.str "at ")) (mVar 0)) mNil)) (mLcL false (mVar 1) [2] (bName 2) mYes (mFn (arity 1 f_line_of) [] (mCons (mVar 2) mNil)))) [3] (bName 3) mYes (mOp (gAdd false) (mVar 3) (mC (.str "\n")))) = lc at *
  generalize (((("at " : Str) ++ s) :: rows.map lineR).map fun (p : Str) => p ++ one 10).map D.str = zs at *
  simp [mBS, runF, sSeq, sIf, sNext, sDrop, sRet, sRetN, sAsg, ofRes, ofB, bName, bNil, bCons, bTup, bLst, bSubL, mTest, mOp, mVar, mC, mChain, mAnd, mOr, mNot, mIf, mAndV, mOrV, mNotV, mNeg, mCons, mNil, mTup, mLst, newL, mCall, mFn, arity, g1, g2, gLen, gInt, gAbs, gMax2, gMin2, seqOf, lsqOf, lstOf, Res.bind, ofO, gAdd_ok, gSub_ok, gEq_int, gNe_int, gLt_int, gLe_int, gGt_int, gGe_int, gEq_bl, gNe_bl, gEq_str, gNe_str, mIsi, mIsiT, tyD, kitL, kitTab, atI_c0, atI_c1, atI_c2, atI_c3, atI_c4, sForR1, int1, int2, mMeth, mMake, mFld, sFldM, gIs, gIsNot, isNon_t, sRaise, gList, newLO, e4, e6]
end
end DK.k39
end
section
set_option Elab.async false
set_option linter.all false
set_option autoImplicit false
set_option maxRecDepth 100000
set_option maxHeartbeats 4000000
/-! K39F: the drawn rows, and their lines, in plain Lean. -/
namespace DK.k39
open PySem L2 DK DK.Sp DK.Rd DK.Lc
theorem y_take : f_law_take = fTake := rfl
structure RowOK (r : R4) : Prop where
  m0 : 0 ≤ r.1
  m1 : r.1 ≤ 1000000
  nm : nameB r.2.2.1 = true
  kd : (r.2.1 = "close" ∧ ∃ f, r.2.2.2 = some f ∧ nameB f = true) ∨ ((r.2.1 = "crank" ∨ r.2.1 = "start") ∧ r.2.2.2 = none)
theorem wlit : ("close" : Str).length ≤ 12 ∧ ("crank" : Str).length ≤ 12 ∧ ("start" : Str).length ≤ 12 := by decide +kernel
theorem RowOK.b {r : R4} (h : RowOK r) : RowB r := by
  refine ⟨h.m0, h.m1, ?_, (nameB_len h.nm).2, fun f hf => ?_⟩
  · rcases h.kd with ⟨e, _⟩ | ⟨e | e, _⟩ <;> rw [e]
    · exact wlit.1
    · exact wlit.2.1
    · exact wlit.2.2
  · rcases h.kd with ⟨_, f', e, q⟩ | ⟨_, e⟩
    · rw [hf] at e
      cases e
      exact (nameB_len q).2
    · rw [hf] at e; cases e
theorem kfree : (32 : Nat) ∉ ("close" : Str).cps.toList ∧ 32 ∉ ("crank" : Str).cps.toList ∧ 32 ∉ ("start" : Str).cps.toList ∧ 32 ∉ ("to" : Str).cps.toList ∧ 32 ∉ ("at" : Str).cps.toList := by decide +kernel
theorem rowP_line {r : R4} (h : RowOK r) : rowP (parts (lineR r)) = some r := by
  obtain ⟨m, w, nm, far⟩ := r
  obtain ⟨m0, m1, hn, kd⟩ := h
  simp only at m0 m1 hn kd
  obtain ⟨n1, n2⟩ := num_fig m0 m1
  have f1 := numW_free n1 (c := 32) (by omega)
  have f2 := nameB_free hn (c := 32) (by omega)
  obtain ⟨t1, t2, t3, _⟩ := lits
  obtain ⟨k1, k2, k3, k4, _⟩ := kfree
  rcases kd with ⟨rfl, f, rfl, hf⟩ | ⟨hw, rfl⟩
  · have f3 := nameB_free hf (c := 32) (by omega)
    have e : parts (lineR (m, "close", nm, some f)) = [strN m, "close", nm, "to", f] := split_is (by simp) (fun p hp => by
      simp only [List.mem_cons, List.not_mem_nil, or_false] at hp
      rcases hp with rfl | rfl | rfl | rfl | rfl
      · exact f1
      · exact k1
      · exact f2
      · exact k4
      · exact f3) (by
        rw [jn5]
        show _ = (strN m ++ " " ++ "close" ++ " " ++ nm ++ " to " ++ f).cps.toList
        simp only [app_list, t1, t2, t3, List.append_assoc, List.cons_append, List.nil_append])
    rw [e]
    simp [rowP, n1, n2, hn, hf]
  · have kw : 32 ∉ w.cps.toList := by rcases hw with rfl | rfl; exact k2; exact k3
    have e : parts (lineR (m, w, nm, none)) = [strN m, w, nm] := split_is (by simp) (fun p hp => by
      simp only [List.mem_cons, List.not_mem_nil, or_false] at hp
      rcases hp with rfl | rfl | rfl
      · exact f1
      · exact kw
      · exact f2) (by
        rw [jn3]
        show _ = (strN m ++ " " ++ w ++ " " ++ nm).cps.toList
        simp only [app_list, t1, List.append_assoc, List.cons_append, List.nil_append])
    rw [e]
    simp [rowP, n1, n2, hn, hw]
theorem head_line {s : Str} (h : nameB s = true) : headP (parts (("at " : Str) ++ s)) = some s := by
  have f2 := nameB_free h (c := 32) (by omega)
  obtain ⟨t1, t2, t3, t4, t5⟩ := lits
  have e : parts (("at " : Str) ++ s) = (["at", s] : List Str) := split_is (by simp) (fun p hp => by
    simp only [List.mem_cons, List.not_mem_nil, or_false] at hp
    rcases hp with rfl | rfl
    · exact kfree.2.2.2.2
    · exact f2) (by
      rw [jn2]
      simp only [app_list, t4, t5, List.cons_append, List.nil_append])
  rw [e]
  simp [headP, h]
theorem lt_min {a b : R4} (h : a.1 < b.1) : ltK a b = true := by
  show PyProof.Rows.lexLt PyProof.Rows.itemOrd (Sum.inl 1 :: Sum.inl a.1 :: _) (Sum.inl 1 :: Sum.inl b.1 :: _) = _
  rw [PyProof.Rows.lex_self, PyProof.Rows.lex_diff (fun z => by have := Sum.inl.inj z; omega)]
  exact decide_eq_true h
/-- rows, the minutes ascending -/
structure RowsOK (rows : List R4) : Prop where
  all : ∀ r ∈ rows, RowOK r
  asc : rows.Pairwise fun a b => a.1 < b.1
theorem fine_rows {s : Str} {rows : List R4} (hs : nameB s = true) (h : RowsOK rows) : Fine ((("at " : Str) ++ s) :: rows.map lineR) ∧ headS ((("at " : Str) ++ s) :: rows.map lineR) = s ∧ rowsTo ((("at " : Str) ++ s) :: rows.map lineR) ((("at " : Str) ++ s) :: rows.map lineR).length = rows := by
  have hh := head_line hs
  refine ⟨⟨by simp, fun k hk => ?_⟩, ?_, ?_⟩
  · unfold goodL
    cases k with
    | zero =>
      simp only [List.getElem?_cons_zero, if_true]
      rw [hh]
      rfl
    | succ k =>
      have hk2 : k < rows.length := by rw [List.length_cons, List.length_map] at hk; omega
      have e : ((("at " : Str) ++ s) :: rows.map lineR)[k + 1]? = some (lineR rows[k]) := by
        rw [List.getElem?_cons_succ, List.getElem?_map, List.getElem?_eq_getElem hk2]
        rfl
      have r1 := rowP_line (h.all _ (List.getElem_mem hk2))
      rw [e]
      simp only [if_neg (show ¬ k + 1 = 0 by omega), r1]
      cases k with
      | zero => rfl
      | succ j =>
        have e2 : ((("at " : Str) ++ s) :: rows.map lineR)[j + 1 + 1 - 1]? = some (lineR (rows[j]'(by omega))) := by
          rw [show j + 1 + 1 - 1 = j + 1 by omega, List.getElem?_cons_succ, List.getElem?_map, List.getElem?_eq_getElem (show j < rows.length by omega)]
          rfl
        have r2 := rowP_line (h.all _ (List.getElem_mem (show j < rows.length by omega)))
        rw [e2]
        have lt := List.pairwise_iff_getElem.mp h.asc j (j + 1) (by omega) hk2 (by omega)
        simp [r2, afterR, lt_min lt]
  · unfold headS
    simp [hh]
  · unfold rowsTo
    rw [List.take_length, List.drop_one, List.tail_cons]
    have key : ∀ rows : List R4, (∀ r ∈ rows, RowOK r) → (rows.map lineR).filterMap (fun q => rowP (parts q)) = rows := fun rows h => by
      induction rows with
      | nil => rfl
      | cons r rows ih =>
        rw [List.map_cons, List.filterMap_cons, rowP_line (h r List.mem_cons_self)]
        simp only
        rw [ih fun x hx => h x (List.mem_cons_of_mem _ hx)]
    exact key rows h.all
/-! ### the draws -/
section
variable {O : Store} {b n : Nat}
theorem pick5 {v : Int} (h0 : 0 ≤ v) (h1 : v < 5) : ∃ x : Str, (∀ O : Store, gIx O (.lst [.str "la", .str "lb", .str "pa", .str "abcdefghijkl", .str "q"]) (.int v) = some (.str x, O)) ∧ nameB x = true := by
  rcases (by omega : v = 0 ∨ v = 1 ∨ v = 2 ∨ v = 3 ∨ v = 4) with rfl | rfl | rfl | rfl | rfl
  · exact ⟨"la", fun _ => rfl, by decide +kernel⟩
  · exact ⟨"lb", fun _ => rfl, by decide +kernel⟩
  · exact ⟨"pa", fun _ => rfl, by decide +kernel⟩
  · exact ⟨"abcdefghijkl", fun _ => rfl, by decide +kernel⟩
  · exact ⟨"q", fun _ => rfl, by decide +kernel⟩
theorem pick3 {v : Int} (h0 : 0 ≤ v) (h1 : v < 3) : ∃ x : Str, (∀ O : Store, gIx O (.lst [.str "ash", .str "bay", .str "z"]) (.int v) = some (.str x, O)) ∧ nameB x = true := by
  rcases (by omega : v = 0 ∨ v = 1 ∨ v = 2) with rfl | rfl | rfl
  · exact ⟨"ash", fun _ => rfl, by decide +kernel⟩
  · exact ⟨"bay", fun _ => rfl, by decide +kernel⟩
  · exact ⟨"z", fun _ => rfl, by decide +kernel⟩
theorem pickS {v : Int} (h0 : 0 ≤ v) (h1 : v < 3) : ∃ x : Str, (∀ O : Store, gIx O (.lst [.str "ash", .str "bay", .str "abcdefghijkl"]) (.int v) = some (.str x, O)) ∧ nameB x = true := by
  rcases (by omega : v = 0 ∨ v = 1 ∨ v = 2) with rfl | rfl | rfl
  · exact ⟨"ash", fun _ => rfl, by decide +kernel⟩
  · exact ⟨"bay", fun _ => rfl, by decide +kernel⟩
  · exact ⟨"abcdefghijkl", fun _ => rfl, by decide +kernel⟩
theorem pickW {v : Int} (h0 : 0 < v) (h1 : v < 3) : ∃ x : Str, (∀ O : Store, gIx O (.lst [.str "", .str "crank", .str "start"]) (.int v) = some (.str x, O)) ∧ (x = "crank" ∨ x = "start") := by
  rcases (by omega : v = 1 ∨ v = 2) with rfl | rfl
  · exact ⟨"crank", fun _ => rfl, .inl rfl⟩
  · exact ⟨"start", fun _ => rfl, .inr rfl⟩
theorem take_at0 {O' : Store} (h : Take b 0 O) (e : O'[0]? = O[0]?) : Take b 0 O' := by
  obtain ⟨ns, z, la, h, r⟩ := h
  exact ⟨ns, z, la, e.trans h, r⟩
abbrev rwB : SM := (sSeq (sAsg (mOp (gAdd false) (mOp (gAdd false) (mVar 2) (mC (.int 1))) (mFn (arity 2 f_law_take) [] (mCons (mVar 0) (mCons (mC (.int 20)) mNil)))) (bName 2))
    (sSeq (sAsg (mOp gIx (mLst false (mCons (mC (.str "la")) (mCons (mC (.str "lb")) (mCons (mC (.str "pa")) (mCons (mC (.str "abcdefghijkl")) (mCons (mC (.str "q")) mNil)))))) (mFn (arity 2 f_law_take) [] (mCons (mVar 0) (mCons (mC (.int 5)) mNil)))) (bName 4))
    (sSeq (sAsg (mFn (arity 2 f_law_take) [] (mCons (mVar 0) (mCons (mC (.int 3)) mNil))) (bName 5))
    (sIf (mTest (mOp gEq (mVar 5) (mC (.int 0)))) (sDrop (mApp (mVar 1) (mTup (mCons (mVar 2) (mCons (mC (.str "close")) (mCons (mVar 4) (mCons (mOp gIx (mLst false (mCons (mC (.str "ash")) (mCons (mC (.str "bay")) (mCons (mC (.str "z")) mNil)))) (mFn (arity 2 f_law_take) [] (mCons (mVar 0) (mCons (mC (.int 3)) mNil)))) mNil))))))) (sDrop (mApp (mVar 1) (mTup (mCons (mVar 2) (mCons (mOp gIx (mLst false (mCons (mC (.str "")) (mCons (mC (.str "crank")) (mCons (mC (.str "start")) mNil)))) (mVar 5)) (mCons (mVar 4) (mCons (mC .non) mNil)))))))))))
def RI (b n i : Nat) (L : Loc) (O : Store) : Prop := ∃ (rows : List R4) (m : Int) (y3 y4 y5 : Option D), L = [some (.hdl 0), some (.hdl n), some (.int m), y3, y4, y5] ∧ O[n]? = some (.lst (rows.map r4D)) ∧ rows.length = i ∧ RowsOK rows ∧ 0 ≤ m ∧ m ≤ 30 * i ∧ (∀ r ∈ rows, r.1 ≤ m) ∧ Take (b + 5 * i) 0 O
theorem rows_snoc {rows : List R4} {r : R4} (h : RowsOK rows) (hr : RowOK r) (hm : ∀ a ∈ rows, a.1 < r.1) : RowsOK (rows ++ [r]) := ⟨fun x hx => by
  rcases List.mem_append.mp hx with hx | hx
  · exact h.all x hx
  · rw [List.mem_singleton.mp hx]; exact hr, List.pairwise_append.mpr ⟨h.asc, List.pairwise_singleton _ _, fun a ha c hc => by rw [List.mem_singleton.mp hc]; exact hm a ha⟩⟩
theorem rows_turn {i : Nat} {L : Loc} (hn : 0 < n) (hi : i < 9) (hb : b ≤ 2 ^ 20) (h : RI b n i L O) : ∃ L' O', turnOf (bName 3) rwB (.int (i : Int)) L O = .next L' O' ∧ RI b n (i + 1) L' O' := by
  obtain ⟨rows, m, y3, y4, y5, rfl, g, hl, ok, m0, m1, mm, tk⟩ := h
  obtain ⟨u, O1, e1, u0, u1, t1, f1, _⟩ := tk1 (m := 20) tk (by omega) (by omega) (by omega)
  obtain ⟨v, O2, e2, v0, v1, t2, f2, _⟩ := tk1 (m := 5) t1 (by omega) (by omega) (by omega)
  obtain ⟨p, O3, e3, p0, p1, t3, f3, _⟩ := tk1 (m := 3) t2 (by omega) (by omega) (by omega)
  rw [← y_take] at e1 e2 e3
  obtain ⟨nm, hnm, hok⟩ := pick5 v0 v1
  have hnm := hnm O2
  have g3 := f3.at hn (f2.at hn (f1.at hn g))
  have hz : (rows.map r4D).length ≤ 1000000 := by rw [List.length_map]; omega
  by_cases hp : p = 0
  · obtain ⟨q, O4, e4, q0, q1, t4, f4, _⟩ := tk1 (m := 3) t3 (by omega) (by omega) (by omega)
    rw [← y_take] at e4
    obtain ⟨fr, hfr, fok⟩ := pick3 q0 q1
    have hfr := hfr O4
    have g4 := f4.at hn g3
    have hlt := (List.getElem?_eq_some_iff.mp g4).1
    refine ⟨_, O4.set n (.lst ((rows ++ [((m + 1 + u, ("close" : Str), nm, some fr) : R4)]).map r4D)), ?_, rows ++ [((m + 1 + u, ("close" : Str), nm, some fr) : R4)], m + 1 + u, some (.int i), some (.str nm), some (.int p), rfl, ?_, by rw [List.length_append, hl]; rfl, ?_, by omega, by omega, ?_, ?_⟩
    · show rwB [some (.hdl 0), some (.hdl n), some (.int m), some (.int (i : Int)), y4, y5] O = _
      have ea : (rows ++ [((m + 1 + u, ("close" : Str), nm, some fr) : R4)]).map r4D = rows.map r4D ++ [.tup [.int (m + 1 + u), .str "close", .str nm, .str fr]] := by simp [optS]
      rw [ea]
      generalize rows.map r4D = zs at *
      simp [mApp, runF, sSeq, sIf, sNext, sDrop, sRet, sRetN, sAsg, ofRes, ofB, bName, bNil, bCons, bTup, bLst, bSubL, mTest, mOp, mVar, mC, mChain, mAnd, mOr, mNot, mIf, mAndV, mOrV, mNotV, mNeg, mCons, mNil, mTup, mLst, newL, mCall, mFn, arity, g1, g2, gLen, gInt, gAbs, gMax2, gMin2, seqOf, lsqOf, lstOf, Res.bind, ofO, gAdd_ok, gSub_ok, gEq_int, gNe_int, gLt_int, gLe_int, gGt_int, gGe_int, gEq_bl, gNe_bl, gEq_str, gNe_str, mIsi, mIsiT, tyD, kitL, kitTab, atI_c0, atI_c1, atI_c2, atI_c3, atI_c4, sForR1, int1, int2, mMeth, mMake, mFld, sFldM, gIs, gIsNot, isNon_t, sRaise, gList, newLO, e1, e2, e3, e4, hnm, hfr, hp, g3, g4, hz]
    · rw [List.getElem?_set_self hlt]
    · exact rows_snoc ok ⟨by show 0 ≤ m + 1 + u; omega, by show m + 1 + u ≤ 1000000; omega, hok, .inl ⟨rfl, fr, rfl, fok⟩⟩ fun a ha => by have := mm a ha; show a.1 < m + 1 + u; omega
    · intro a ha
      rcases List.mem_append.mp ha with ha | ha
      · have := mm a ha; omega
      · rw [List.mem_singleton.mp ha]; exact Int.le_refl _
    · exact take_at0 (tmono (show b + 5 * i + 1 + 1 + 1 + 1 ≤ b + 5 * (i + 1) by omega) t4) (by rw [List.getElem?_set_ne (by omega)])
  · obtain ⟨w, hw, wok⟩ := pickW (v := p) (by omega) p1
    have hw := hw O3
    have hlt := (List.getElem?_eq_some_iff.mp g3).1
    refine ⟨_, O3.set n (.lst ((rows ++ [((m + 1 + u, w, nm, none) : R4)]).map r4D)), ?_, rows ++ [((m + 1 + u, w, nm, none) : R4)], m + 1 + u, some (.int i), some (.str nm), some (.int p), rfl, ?_, by rw [List.length_append, hl]; rfl, ?_, by omega, by omega, ?_, ?_⟩
    · show rwB [some (.hdl 0), some (.hdl n), some (.int m), some (.int (i : Int)), y4, y5] O = _
      have ea : (rows ++ [((m + 1 + u, w, nm, none) : R4)]).map r4D = rows.map r4D ++ [.tup [.int (m + 1 + u), .str w, .str nm, .non]] := by simp [optS]
      rw [ea]
      generalize rows.map r4D = zs at *
      simp [mApp, runF, sSeq, sIf, sNext, sDrop, sRet, sRetN, sAsg, ofRes, ofB, bName, bNil, bCons, bTup, bLst, bSubL, mTest, mOp, mVar, mC, mChain, mAnd, mOr, mNot, mIf, mAndV, mOrV, mNotV, mNeg, mCons, mNil, mTup, mLst, newL, mCall, mFn, arity, g1, g2, gLen, gInt, gAbs, gMax2, gMin2, seqOf, lsqOf, lstOf, Res.bind, ofO, gAdd_ok, gSub_ok, gEq_int, gNe_int, gLt_int, gLe_int, gGt_int, gGe_int, gEq_bl, gNe_bl, gEq_str, gNe_str, mIsi, mIsiT, tyD, kitL, kitTab, atI_c0, atI_c1, atI_c2, atI_c3, atI_c4, sForR1, int1, int2, mMeth, mMake, mFld, sFldM, gIs, gIsNot, isNon_t, sRaise, gList, newLO, e1, e2, e3, hnm, hw, hp, g3, hz]
    · rw [List.getElem?_set_self hlt]
    · exact rows_snoc ok ⟨by show 0 ≤ m + 1 + u; omega, by show m + 1 + u ≤ 1000000; omega, hok, .inr ⟨wok, rfl⟩⟩ fun a ha => by have := mm a ha; show a.1 < m + 1 + u; omega
    · intro a ha
      rcases List.mem_append.mp ha with ha | ha
      · have := mm a ha; omega
      · rw [List.mem_singleton.mp ha]; exact Int.le_refl _
    · exact take_at0 (tmono (show b + 5 * i + 1 + 1 + 1 ≤ b + 5 * (i + 1) by omega) t3) (by rw [List.getElem?_set_ne (by omega)])
theorem law_rows_ok (tk : Take b 0 O) (hb : b ≤ 1000) : ∃ (rows : List R4) (O' : Store), f_law_rows [.hdl 0] O = .ok (.hdl O.length) O' ∧ O'[O.length]? = some (.lst (rows.map r4D)) ∧ rows.length ≤ 8 ∧ RowsOK rows ∧ Take (b + 50) 0 O' := by
  have tk0 : Take b 0 (O ++ [.lst []]) := tk.fz fz_app
  have hO : 0 < O.length := by obtain ⟨ns, z, la, h, _⟩ := tk; exact (List.getElem?_eq_some_iff.mp h).1
  obtain ⟨v, O1, e1, v0, v1, t1, f1, _⟩ := tk1 (m := 9) tk0 (by omega) (by omega) (by omega)
  rw [← y_take] at e1
  have g1 := f1.at hO (show (O ++ [Ob.lst []])[O.length]? = some (.lst []) by simp)
  obtain ⟨L', O', e, rows, m, y3, y4, y5, rfl, g, hl, ok, m0, m1, mm, t⟩ := forR1_keeps (t := mCons (mFn (arity 2 f_law_take) [] (mCons (mVar 0) (mCons (mC (.int 9)) mNil))) mNil) (b := bName 3) (body := rwB) (I := RI (b + 1) O.length) (L := [some (.hdl 0), some (.hdl O.length), some (.int 0), none, none, none]) (O := O ++ [.lst []]) (O1 := O1) (j := v)
    (by simp [runF, sSeq, sIf, sNext, sDrop, sRet, sRetN, sAsg, ofRes, ofB, bName, bNil, bCons, bTup, bLst, bSubL, mTest, mOp, mVar, mC, mChain, mAnd, mOr, mNot, mIf, mAndV, mOrV, mNotV, mNeg, mCons, mNil, mTup, mLst, newL, mCall, mFn, arity, g1, g2, gLen, gInt, gAbs, gMax2, gMin2, gIx, seqOf, lsqOf, lstOf, Res.bind, ofO, gAdd_ok, gSub_ok, gEq_int, gNe_int, gLt_int, gLe_int, gGt_int, gGe_int, gEq_bl, gNe_bl, gEq_str, gNe_str, mIsi, mIsiT, tyD, kitL, kitTab, atI_c0, atI_c1, atI_c2, atI_c3, atI_c4, sForR1, int1, int2, mMeth, mMake, mFld, sFldM, gIs, gIsNot, isNon_t, sRaise, gList, newLO, e1]) v0 (by omega) ⟨[], 0, none, none, none, rfl, g1, rfl, ⟨fun r hr => absurd hr List.not_mem_nil, List.Pairwise.nil⟩, by omega, by omega, fun r hr => absurd hr List.not_mem_nil, t1⟩ fun i L O hi h => rows_turn hO (by omega) (by omega) h
  refine ⟨rows, O', ?_, g, by omega, ok, tmono (by omega) t⟩
  have hb : b_law_rows = sSeq (sAsg (mLst true mNil) (bName 1)) (sSeq (sAsg (mC (.int 0)) (bName 2)) (sSeq (sForR1 (mCons (mFn (arity 2 f_law_take) [] (mCons (mVar 0) (mCons (mC (.int 9)) mNil))) mNil) (bName 3) rwB) (sRet (mVar 1)))) := rfl
  show runF 6 b_law_rows [.hdl 0] O = _
  unfold runF
  rw [hb, show ([D.hdl 0].map some ++ List.replicate (6 - [D.hdl 0].length) none : Loc) = [some (.hdl 0), none, none, none, none, none] from rfl]
  generalize sForR1 (mCons (mFn (arity 2 f_law_take) [] (mCons (mVar 0) (mCons (mC (.int 9)) mNil))) mNil) (bName 3) rwB = sf at *
  simp [runF, sSeq, sIf, sNext, sDrop, sRet, sRetN, sAsg, ofRes, ofB, bName, bNil, bCons, bTup, bLst, bSubL, mTest, mOp, mVar, mC, mChain, mAnd, mOr, mNot, mIf, mAndV, mOrV, mNotV, mNeg, mCons, mNil, mTup, mLst, newL, mCall, mFn, arity, g1, g2, gLen, gInt, gAbs, gMax2, gMin2, gIx, seqOf, lsqOf, lstOf, Res.bind, ofO, gAdd_ok, gSub_ok, gEq_int, gNe_int, gLt_int, gLe_int, gGt_int, gGe_int, gEq_bl, gNe_bl, gEq_str, gNe_str, mIsi, mIsiT, tyD, kitL, kitTab, atI_c0, atI_c1, atI_c2, atI_c3, atI_c4, sForR1, int1, int2, mMeth, mMake, mFld, sFldM, gIs, gIsNot, isNon_t, sRaise, gList, newLO, e]
end
end DK.k39
end
section
set_option Elab.async false
set_option linter.all false
set_option autoImplicit false
set_option maxRecDepth 100000
set_option maxHeartbeats 4000000
/-! K39G: the law's lines, and lines spoilt, in plain Lean. -/
namespace DK.k39
open PySem L2 DK DK.Sp DK.Rd DK.Lc
/-- a line: short, of signs that can be seen, and blanks -/
structure LineOK (m : Nat) (q : Str) : Prop where
  len : q.length ≤ m
  sg : ∀ c ∈ q.cps.toList, 32 ≤ c ∧ c ≤ 126
theorem LineOK.mono {m m' : Nat} {q : Str} (h : LineOK m q) (hm : m ≤ m') : LineOK m' q := ⟨Nat.le_trans h.len hm, h.sg⟩
theorem LineOK.free {m : Nat} {q : Str} (h : LineOK m q) : 10 ∉ q.cps.toList := fun hc => by have := h.sg _ hc; omega
theorem LineOK.ok {m : Nat} {q : Str} (h : LineOK m q) : PyData.strOk q = true := strOk_iff.mpr fun c hc => by have := h.sg c hc; omega
theorem LineOK.app {m n : Nat} {p q : Str} (h : LineOK m p) (g : LineOK n q) : LineOK (m + n) (p ++ q) := ⟨by rw [Str.length_append]; have := h.len; have := g.len; omega, fun c hc => by
  rw [app_list] at hc
  rcases List.mem_append.mp hc with hc | hc
  · exact h.sg c hc
  · exact g.sg c hc⟩
def seen (q : Str) : Bool := q.cps.toList.all fun c => decide (32 ≤ c) && decide (c ≤ 126)
theorem lit_ok {q : Str} (h : seen q = true) : LineOK q.length q := ⟨Nat.le_refl _, fun c hc => by
  have := List.all_eq_true.mp h c hc
  simpa using this⟩
theorem name_sg {w : Str} (h : nameB w = true) : LineOK 12 w := ⟨(nameB_len h).2, fun c hc => by
  unfold nameB at h
  have h3 := (Bool.and_eq_true_iff.mp (Bool.and_eq_true_iff.mp h).2).2
  have := of_decide_eq_true (List.all_eq_true.mp h3 c hc)
  rw [show LET.cps.toList = [97, 98, 99, 100, 101, 102, 103, 104, 105, 106, 107, 108, 109, 110, 111, 112, 113, 114, 115, 116, 117, 118, 119, 120, 121, 122] from rfl] at this
  simp at this
  omega⟩
theorem num_sg {v : Int} (h0 : 0 ≤ v) (h1 : v ≤ 1000000) : LineOK 7 (strN v) := ⟨strN_len h0 h1, fun c hc => by
  have n := (num_fig h0 h1).1
  unfold numW figB at n
  simp only [Bool.and_eq_true, decide_eq_true_eq] at n
  have := all_digits n.1.2.2.1 c hc
  omega⟩
theorem line_ok {r : R4} (h : RowOK r) : LineOK 50 (lineR r) := by
  obtain ⟨m, w, nm, far⟩ := r
  obtain ⟨m0, m1, hn, kd⟩ := h
  simp only at m0 m1 hn kd
  have a := num_sg m0 m1
  have b := lit_ok (q := " ") (by decide +kernel)
  have d := name_sg hn
  rcases kd with ⟨rfl, f, rfl, hf⟩ | ⟨hw, rfl⟩
  · have c := lit_ok (q := "close") (by decide +kernel)
    have e := lit_ok (q := " to ") (by decide +kernel)
    have z := (((((a.app b).app c).app b).app d).app (e.app (name_sg hf))).mono (m' := 50) (by decide +kernel)
    have q : lineR (m, ("close" : Str), nm, some f) = strN m ++ " " ++ ("close" : Str) ++ " " ++ nm ++ (" to " ++ f) := by
      show strN m ++ " " ++ ("close" : Str) ++ " " ++ nm ++ " to " ++ f = _
      refine str_ext ?_
      simp only [app_list, List.append_assoc]
    rw [q]
    exact z
  · have c : LineOK 5 w := by
      rcases hw with rfl | rfl
      · exact (lit_ok (q := "crank") (by decide +kernel)).mono (by decide +kernel)
      · exact (lit_ok (q := "start") (by decide +kernel)).mono (by decide +kernel)
    exact ((((a.app b).app c).app b).app d).mono (by decide +kernel)
theorem head_ok {s : Str} (h : nameB s = true) : LineOK 50 (("at " : Str) ++ s) := ((lit_ok (q := "at ") (by decide +kernel)).app (name_sg h)).mono (by decide +kernel)
section
variable {O O0 : Store} {b n : Nat} {ls : List Str} {s : Str}
theorem app_empty (a : Str) : a ++ ("" : Str) = a := str_ext (by rw [app_list]; show a.cps.toList ++ [] = _; simp)
abbrev llB : SM := (sDrop (mApp (mVar 2) (mOp (gAdd false) (mOp (gAdd false) (mOp (gAdd false) (mOp (gAdd false) (mOp (gAdd false) (mCall (DK.g1 gStr) (mCons (mVar 3) mNil)) (mC (.str " "))) (mVar 4)) (mC (.str " "))) (mVar 5)) (mIf (mTest (mOp gIs (mVar 6) (mC .non))) (mC (.str "")) (mOp (gAdd false) (mC (.str " to ")) (mVar 6))))))
abbrev b4 : BM := (bTup 4 (bCons (bName 3) (bCons (bName 4) (bCons (bName 5) (bCons (bName 6) bNil)))))
theorem ll_turn {r : R4} {zs : List D} {d0 d1 : D} {y3 y4 y5 y6 : Option D} (h : RowB r) (g : O[n]? = some (.lst zs)) (hz : zs.length ≤ 1000) : ∃ y3 y4 y5 y6, turnOf b4 llB (r4D r) [some d0, some d1, some (.hdl n), y3, y4, y5, y6] O = .next [some d0, some d1, some (.hdl n), y3, y4, y5, y6] (O.set n (.lst (zs ++ [.str (lineR r)]))) := by
  obtain ⟨m, w, nm, far⟩ := r
  obtain ⟨m0, m1, hw, hnm, hfar⟩ := h
  simp only at m0 m1 hw hnm hfar
  have l0 := strN_len m0 m1
  obtain ⟨l1, l2, _, l3⟩ := lit_len
  have e0 := gStr_ok (O := O) m0 (by omega)
  have e1 := gAdd_str (O := O) (h := false) (a := strN m) (b := " ") (by omega)
  have e2 := gAdd_str (O := O) (h := false) (a := strN m ++ " ") (b := w) (by simp only [Str.length_append]; omega)
  have e3 := gAdd_str (O := O) (h := false) (a := strN m ++ " " ++ w) (b := " ") (by simp only [Str.length_append]; omega)
  have e4 := gAdd_str (O := O) (h := false) (a := strN m ++ " " ++ w ++ " ") (b := nm) (by simp only [Str.length_append]; omega)
  have hz2 : zs.length ≤ 1000000 := by omega
  cases far with
  | none =>
    refine ⟨some (.int m), some (.str w), some (.str nm), some .non, ?_⟩
    have e5 := gAdd_str (O := O) (h := false) (a := strN m ++ " " ++ w ++ " " ++ nm) (b := "") (by simp only [Str.length_append]; omega)
    rw [app_empty] at e5
    show turnOf b4 llB (.tup [.int m, .str w, .str nm, .non]) _ O = _
    show _ = SR.next _ (O.set n (.lst (zs ++ [.str (strN m ++ " " ++ w ++ " " ++ nm)])))
    generalize strN m = sm at *
    simp [turnOf, mApp, runF, sSeq, sIf, sNext, sDrop, sRet, sRetN, sAsg, ofRes, ofB, bName, bNil, bCons, bTup, bLst, bSubL, mTest, mOp, mVar, mC, mChain, mAnd, mOr, mNot, mIf, mAndV, mOrV, mNotV, mNeg, mCons, mNil, mTup, mLst, newL, mCall, mFn, arity, g1, g2, gLen, gInt, gAbs, gMax2, gMin2, gIx, seqOf, lsqOf, lstOf, Res.bind, ofO, gAdd_ok, gSub_ok, gEq_int, gNe_int, gLt_int, gLe_int, gGt_int, gGe_int, gEq_bl, gNe_bl, gEq_str, gNe_str, mIsi, mIsiT, tyD, kitL, kitTab, atI_c0, atI_c1, atI_c2, atI_c3, atI_c4, sForR1, int1, int2, mMeth, mMake, mFld, sFldM, gIs, gIsNot, isNon_t, sRaise, gList, newLO, e0, e1, e2, e3, e4, e5, g, hz2]
  | some f =>
    have hf := hfar f rfl
    refine ⟨some (.int m), some (.str w), some (.str nm), some (.str f), ?_⟩
    have e5 := gAdd_str (O := O) (h := false) (a := " to ") (b := f) (by omega)
    have e6 := gAdd_str (O := O) (h := false) (a := strN m ++ " " ++ w ++ " " ++ nm) (b := " to " ++ f) (by simp only [Str.length_append]; omega)
    have q : strN m ++ " " ++ w ++ " " ++ nm ++ (" to " ++ f) = strN m ++ " " ++ w ++ " " ++ nm ++ " to " ++ f := str_ext (by simp only [app_list, List.append_assoc])
    rw [q] at e6
    show turnOf b4 llB (.tup [.int m, .str w, .str nm, .str f]) _ O = _
    show _ = SR.next _ (O.set n (.lst (zs ++ [.str (strN m ++ " " ++ w ++ " " ++ nm ++ " to " ++ f)])))
    generalize strN m = sm at *
    simp [turnOf, mApp, runF, sSeq, sIf, sNext, sDrop, sRet, sRetN, sAsg, ofRes, ofB, bName, bNil, bCons, bTup, bLst, bSubL, mTest, mOp, mVar, mC, mChain, mAnd, mOr, mNot, mIf, mAndV, mOrV, mNotV, mNeg, mCons, mNil, mTup, mLst, newL, mCall, mFn, arity, g1, g2, gLen, gInt, gAbs, gMax2, gMin2, gIx, seqOf, lsqOf, lstOf, Res.bind, ofO, gAdd_ok, gSub_ok, gEq_int, gNe_int, gLt_int, gLe_int, gGt_int, gGe_int, gEq_bl, gNe_bl, gEq_str, gNe_str, mIsi, mIsiT, tyD, kitL, kitTab, atI_c0, atI_c1, atI_c2, atI_c3, atI_c4, sForR1, int1, int2, mMeth, mMake, mFld, sFldM, gIs, gIsNot, isNon_t, sRaise, gList, newLO, e0, e1, e2, e3, e4, e5, e6, g, hz2]
theorem law_lines_ok {rows : List R4} (g : O[n]? = some (.lst (rows.map r4D))) (hB : ∀ r ∈ rows, RowB r) (hr : rows.length ≤ 100) (hs : s.length ≤ 12) : f_law_lines [.str s, .hdl n] O = .ok (.hdl O.length) (O ++ [.lst (((("at " : Str) ++ s) :: rows.map lineR).map .str)]) := by
  have hn := (List.getElem?_eq_some_iff.mp g).1
  have a1 := gAdd_str (O := O) (h := false) (a := "at ") (b := s) (by have := lit_len.2.2.1; omega)
  obtain ⟨L', O', e, y3, y4, y5, y6, rfl, rfl⟩ := forH_keeps (m := mVar 1) (b := b4) (body := llB) (n := n) (xs := rows.map r4D) (L := [some (.str s), some (.hdl n), some (.hdl O.length), none, none, none, none]) (O := O ++ [.lst [.str (("at " : Str) ++ s)]]) (O1 := O ++ [.lst [.str (("at " : Str) ++ s)]])
    (I := fun i L O' => ∃ y3 y4 y5 y6, L = [some (.str s), some (.hdl n), some (.hdl O.length), y3, y4, y5, y6] ∧ O' = O ++ [.lst (((("at " : Str) ++ s) :: (rows.take i).map lineR).map .str)])
    rfl (by rw [List.getElem?_append_left hn]; exact g) (fun i L O' ⟨_, _, _, _, _, h⟩ => by rw [h, List.getElem?_append_left hn]; exact g) ⟨none, none, none, none, rfl, rfl⟩ fun i d L O' hd ⟨y3, y4, y5, y6, hL, hO⟩ => by
      subst hL hO
      rw [List.getElem?_map] at hd
      obtain ⟨r, hr', rfl⟩ := Option.map_eq_some_iff.mp hd
      obtain ⟨z3, z4, z5, z6, e⟩ := ll_turn (n := O.length) (zs := ((("at " : Str) ++ s) :: (rows.take i).map lineR).map .str) (d0 := .str s) (d1 := .hdl n) (y3 := y3) (y4 := y4) (y5 := y5) (y6 := y6) (O := O ++ [.lst (((("at " : Str) ++ s) :: (rows.take i).map lineR).map .str)]) (hB r (List.mem_of_getElem? hr')) (by simp) (by rw [List.length_map, List.length_cons, List.length_map, List.length_take]; omega)
      refine ⟨_, _, e, z3, z4, z5, z6, rfl, ?_⟩
      rw [set_last, List.take_succ, hr']
      simp
  rw [List.length_map, List.take_length] at e
  have hb : b_law_lines = sSeq (sAsg (mLst true (mCons (mOp (gAdd false) (mC (.str "at ")) (mVar 0)) mNil)) (bName 2)) (sSeq (sForL (mVar 1) b4 llB) (sRet (mVar 2))) := rfl
  show runF 7 b_law_lines [.str s, .hdl n] O = _
  unfold runF
  rw [hb, show ([D.str s, .hdl n].map some ++ List.replicate (7 - [D.str s, .hdl n].length) none : Loc) = [some (.str s), some (.hdl n), none, none, none, none, none] from rfl]
  generalize sForL (mVar 1) b4 llB = sf at *
  generalize ((("at " : Str) ++ s) :: rows.map lineR).map D.str = zs at *
  simp [runF, sSeq, sIf, sNext, sDrop, sRet, sRetN, sAsg, ofRes, ofB, bName, bNil, bCons, bTup, bLst, bSubL, mTest, mOp, mVar, mC, mChain, mAnd, mOr, mNot, mIf, mAndV, mOrV, mNotV, mNeg, mCons, mNil, mTup, mLst, newL, mCall, mFn, arity, g1, g2, gLen, gInt, gAbs, gMax2, gMin2, gIx, seqOf, lsqOf, lstOf, Res.bind, ofO, gAdd_ok, gSub_ok, gEq_int, gNe_int, gLt_int, gLe_int, gGt_int, gGe_int, gEq_bl, gNe_bl, gEq_str, gNe_str, mIsi, mIsiT, tyD, kitL, kitTab, atI_c0, atI_c1, atI_c2, atI_c3, atI_c4, sForR1, int1, int2, mMeth, mMake, mFld, sFldM, gIs, gIsNot, isNon_t, sRaise, gList, newLO, a1, e]
end
end DK.k39
end
section
set_option Elab.async false
set_option linter.all false
set_option autoImplicit false
set_option maxRecDepth 100000
set_option maxHeartbeats 4000000
/-! K39H: lines spoilt, in plain Lean. -/
namespace DK.k39
open PySem L2 DK DK.Sp DK.Rd DK.Lc
theorem join_mem {z : Str} {q : Nat} : ∀ {ps : List Str}, q ∈ (Str.join z ps).cps.toList → q ∈ z.cps.toList ∨ ∃ p ∈ ps, q ∈ p.cps.toList
  | [], h => by cases h
  | [x], h => .inr ⟨x, List.mem_cons_self, h⟩
  | x :: y :: r, h => by
    have h : q ∈ (x ++ z ++ Str.join z (y :: r)).cps.toList := h
    rw [app_list, app_list] at h
    rcases List.mem_append.mp h with h | h
    · rcases List.mem_append.mp h with h | h
      · exact .inr ⟨x, List.mem_cons_self, h⟩
      · exact .inl h
    · rcases join_mem (ps := y :: r) h with h | ⟨p, hp, h⟩
      · exact .inl h
      · exact .inr ⟨p, List.mem_cons_of_mem _ hp, h⟩
theorem repl_line {m : Nat} {q : Str} (h : LineOK m q) : LineOK (3 * m + 2) (Txt.replace q " " "  ") := by
  refine ⟨?_, fun c hc => ?_⟩
  · have := TK.replace_len q " " "  "
    rw [show (("  " : Str)).length = 2 from rfl] at this
    have := h.len
    omega
  · rw [show Txt.replace q " " "  " = Str.join "  " (Txt.split q (one 32)) from StrLaws.replace_one q "  " 32] at hc
    rcases join_mem hc with hc | ⟨p, hp, hc⟩
    · rw [show (("  " : Str)).cps.toList = [32, 32] from rfl] at hc
      simp at hc
      omega
    · refine h.sg c ?_
      have := part_in (c := 32) hp hc
      unfold jn at this
      rwa [show Str.join (one 32) (Txt.split q (one 32)) = q from StrLaws.join_split q (one 32)] at this
section
variable {O O0 : Store} {b n : Nat} {ls : List Str} {s : Str} {d : D}
/-- lines, as a value or a list of the store -/
def IsL (O : Store) (d : D) (ls : List Str) : Prop := d = .lst (ls.map .str) ∨ ∃ n, 0 < n ∧ d = .hdl n ∧ O[n]? = some (.lst (ls.map .str))
theorem IsL.fr {O' : Store} (h : IsL O d ls) (f : Fr O O') : IsL O' d ls := by
  rcases h with h | ⟨n, hn, h, g⟩
  · exact .inl h
  · exact .inr ⟨n, hn, h, f.at hn g⟩
theorem IsL.fz {O' : Store} (h : IsL O d ls) (f : Fz O O') : IsL O' d ls := h.fr f.fr
theorem IsL.lsq (h : IsL O d ls) : lsqOf O d = some (ls.map .str) := by
  rcases h with rfl | ⟨n, _, rfl, g⟩
  · rfl
  · exact lsq_h g
theorem IsL.gl (h : IsL O d ls) : gLen O d = some (.int (ls.length : Int), O) := by
  have e := h.lsq
  rcases h with rfl | ⟨n, _, rfl, g⟩
  · simp [gLen, seqOf, e]
  · simp [gLen, g]
theorem IsL.ix {i : Nat} {ln : Str} (h : IsL O d ls) (hi : ls[i]? = some ln) : gIx O d (.int (i : Int)) = some (.str ln, O) := by
  have a : atI (ls.map D.str) (i : Int) = some (.str ln) := atI_nat (by omega) (by rw [Int.toNat_natCast, List.getElem?_map, hi]; rfl)
  rcases h with rfl | ⟨n, _, rfl, g⟩
  · show (match atI (ls.map D.str) (i : Int) with | some d => some (d, O) | none => none) = _
    rw [a]
  · show (match lsqOf O (.hdl n) with | some zs => (match atI zs (i : Int) with | some d => some (d, O) | none => none) | none => none) = _
    rw [lsq_h g]
    simp only [a]
theorem newF {zs : List D} (h : zs.length ≤ 1000) : newL false zs O = .ok (.lst zs) O := by
  unfold newL
  rw [if_pos (by omega)]
  rfl
theorem IsL.to {a : Nat} (h : IsL O d ls) (ha : a ≤ ls.length) (hl : ls.length ≤ 900) : gSl false d none (some (a : Int)) O = .ok (.lst ((ls.take a).map .str)) O := by
  have c : cutD (ls.map D.str) none (some (a : Int)) = (ls.take a).map .str := by
    unfold cutD
    rw [HT.sIx_none, HT.sIx_nat, List.length_map, List.drop_zero, Nat.sub_zero, List.map_take]
    congr 1
    omega
  have nl := newF (O := O) (zs := (ls.take a).map .str) (by rw [List.length_map, List.length_take]; omega)
  rcases h with rfl | ⟨n, _, rfl, g⟩
  · show newL false (cutD (ls.map D.str) none (some (a : Int))) O = _
    rw [c, nl]
  · show (match lsqOf O (.hdl n) with | some zs => newL false (cutD zs none (some (a : Int))) O | none => .bad) = _
    rw [lsq_h g]
    show newL false (cutD (ls.map D.str) none (some (a : Int))) O = _
    rw [c, nl]
theorem IsL.from {a : Nat} (h : IsL O d ls) (ha : a ≤ ls.length) (hl : ls.length ≤ 900) : gSl false d (some (a : Int)) none O = .ok (.lst ((ls.drop a).map .str)) O := by
  have c : cutD (ls.map D.str) (some (a : Int)) none = (ls.drop a).map .str := by
    unfold cutD
    rw [HT.sIx_none, HT.sIx_nat, List.length_map, Nat.min_eq_left ha, List.take_of_length_le (by rw [List.length_drop, List.length_map]; exact Nat.le_refl _), List.map_drop]
  have nl := newF (O := O) (zs := (ls.drop a).map .str) (by rw [List.length_map, List.length_drop]; omega)
  rcases h with rfl | ⟨n, _, rfl, g⟩
  · show newL false (cutD (ls.map D.str) (some (a : Int)) none) O = _
    rw [c, nl]
  · show (match lsqOf O (.hdl n) with | some zs => newL false (cutD zs (some (a : Int)) none) O | none => .bad) = _
    rw [lsq_h g]
    show newL false (cutD (ls.map D.str) (some (a : Int)) none) O = _
    rw [c, nl]
theorem addL {xs ys : List D} (h : xs.length + ys.length ≤ 1000) : gAdd false O (.lst xs) (.lst ys) = some (.lst (xs ++ ys), O) := by
  show newLO false (xs ++ ys) O = _
  unfold newLO
  rw [if_pos (by rw [List.length_append]; omega)]
  rfl
abbrev sp0 : SM := (sAsg (mFn (arity 2 f_law_take) [] (mCons (mVar 0) (mCons (mCall (g1 gLen) (mCons (mVar 1) mNil)) mNil))) (bName 2))
abbrev sp1 : SM := (sAsg (mOp gIx (mVar 1) (mVar 2)) (bName 3))
abbrev sp2 : SM := (sAsg (mLst false (mCons (mC (.str "")) (mCons (mC (.str "at Ash")) (mCons (mC (.str "at")) (mCons (mC (.str "5 close la to")) (mCons (mC (.str "5 close la at ash")) (mCons (mC (.str "05 crank pa")) (mCons (mC (.str "5 crank p-a")) (mCons (mC (.str "5 stop pa")) (mCons (mC (.str "1000001 start pa")) mNil)))))))))) (bName 4))
abbrev sp3 : SM := (sAsg (mFn (arity 2 f_law_take) [] (mCons (mVar 0) (mCons (mC (.int 14)) mNil))) (bName 5))
abbrev sp4 : SM := (sIf (mTest (mOp gLt (mVar 5) (mC (.int 9)))) (sAsg (mOp gIx (mVar 4) (mVar 5)) (bName 3)) (sIf (mTest (mOp gEq (mVar 5) (mC (.int 9)))) (sAsg (mOp (gAdd false) (mVar 3) (mC (.str " x"))) (bName 3)) (sIf (mTest (mOp gEq (mVar 5) (mC (.int 10)))) (sAsg (mRepl " " "  " (mVar 3)) (bName 3)) (sIf (mTest (mOp gEq (mVar 5) (mC (.int 11)))) (sRet (mOp (gAdd false) (mOp (gAdd false) (mSl false (mVar 1) oNone (oSome (mVar 2))) (mLst false (mCons (mVar 3) mNil))) (mSl false (mVar 1) (oSome (mVar 2)) oNone))) (sIf (mTest (mOp gEq (mVar 5) (mC (.int 12)))) (sRet (mOp (gAdd false) (mSl false (mVar 1) oNone (oSome (mVar 2))) (mSl false (mVar 1) (oSome (mOp (gAdd false) (mVar 2) (mC (.int 1)))) oNone))) (sAsg (mC (.str "0 crank a")) (bName 3)))))))
abbrev sp5 : SM := (sRet (mOp (gAdd false) (mOp (gAdd false) (mSl false (mVar 1) oNone (oSome (mVar 2))) (mLst false (mCons (mVar 3) mNil))) (mSl false (mVar 1) (oSome (mOp (gAdd false) (mVar 2) (mC (.int 1)))) oNone)))
theorem sp_is : b_law_spoilt = sSeq sp0 (sSeq sp1 (sSeq sp2 (sSeq sp3 (sSeq sp4 sp5)))) := rfl
abbrev fixD : D := .lst [.str "", .str "at Ash", .str "at", .str "5 close la to", .str "5 close la at ash", .str "05 crank pa", .str "5 crank p-a", .str "5 stop pa", .str "1000001 start pa"]
theorem fix_at {v : Int} (h0 : 0 ≤ v) (h1 : v < 9) : ∃ x : Str, (∀ O : Store, gIx O fixD (.int v) = some (.str x, O)) ∧ LineOK 20 x := by
  rcases (by omega : v = 0 ∨ v = 1 ∨ v = 2 ∨ v = 3 ∨ v = 4 ∨ v = 5 ∨ v = 6 ∨ v = 7 ∨ v = 8) with rfl | rfl | rfl | rfl | rfl | rfl | rfl | rfl | rfl
  · exact ⟨"", fun _ => rfl, (lit_ok (by decide +kernel)).mono (by decide +kernel)⟩
  · exact ⟨"at Ash", fun _ => rfl, (lit_ok (by decide +kernel)).mono (by decide +kernel)⟩
  · exact ⟨"at", fun _ => rfl, (lit_ok (by decide +kernel)).mono (by decide +kernel)⟩
  · exact ⟨"5 close la to", fun _ => rfl, (lit_ok (by decide +kernel)).mono (by decide +kernel)⟩
  · exact ⟨"5 close la at ash", fun _ => rfl, (lit_ok (by decide +kernel)).mono (by decide +kernel)⟩
  · exact ⟨"05 crank pa", fun _ => rfl, (lit_ok (by decide +kernel)).mono (by decide +kernel)⟩
  · exact ⟨"5 crank p-a", fun _ => rfl, (lit_ok (by decide +kernel)).mono (by decide +kernel)⟩
  · exact ⟨"5 stop pa", fun _ => rfl, (lit_ok (by decide +kernel)).mono (by decide +kernel)⟩
  · exact ⟨"1000001 start pa", fun _ => rfl, (lit_ok (by decide +kernel)).mono (by decide +kernel)⟩
/-- the locals of _law_spoilt -/
abbrev SL (d : D) (a : Nat) (ln : Str) (f : D) (p : Int) : Loc := [some (.hdl 0), some d, some (.int (a : Int)), some (.str ln), some f, some (.int p)]
theorem sp5_ok {a : Nat} {ln : Str} {f : D} {p : Int} (h : IsL O d ls) (ha : a < ls.length) (hl : ls.length ≤ 900) : sp5 (SL d a ln f p) O = .ret (.lst ((ls.take a ++ ln :: ls.drop (a + 1)).map .str)) O := by
  have e1 := h.to (a := a) (by omega) hl
  have e2 := h.from (a := a + 1) (by omega) hl
  rw [show ((a + 1 : Nat) : Int) = (a : Int) + 1 by omega] at e2
  have e3 := addL (O := O) (xs := (ls.take a).map .str) (ys := [.str ln]) (by rw [List.length_map, List.length_take]; simp; omega)
  have e4 := addL (O := O) (xs := (ls.take a).map .str ++ [.str ln]) (ys := (ls.drop (a + 1)).map .str) (by rw [List.length_append, List.length_map, List.length_map, List.length_take, List.length_drop]; simp; omega)
  have e5 : (ls.take a ++ ln :: ls.drop (a + 1)).map D.str = (ls.take a).map .str ++ [.str ln] ++ (ls.drop (a + 1)).map .str := by simp
  rw [e5]
  generalize (ls.take a).map D.str = z1 at *
  generalize (ls.drop (a + 1)).map D.str = z2 at *
  simp [mSl, oNone, oSome, runF, sSeq, sIf, sNext, sDrop, sRet, sRetN, sAsg, ofRes, ofB, bName, bNil, bCons, bTup, bLst, bSubL, mTest, mOp, mVar, mC, mChain, mAnd, mOr, mNot, mIf, mAndV, mOrV, mNotV, mNeg, mCons, mNil, mTup, mLst, newL, mCall, mFn, arity, g1, g2, gLen, gInt, gAbs, gMax2, gMin2, seqOf, lsqOf, lstOf, Res.bind, ofO, gAdd_ok, gSub_ok, gEq_int, gNe_int, gLt_int, gLe_int, gGt_int, gGe_int, gEq_bl, gNe_bl, gEq_str, gNe_str, mIsi, mIsiT, tyD, kitL, kitTab, atI_c0, atI_c1, atI_c2, atI_c3, atI_c4, sForR1, int1, int2, mMeth, mMake, mFld, sFldM, gIs, gIsNot, isNon_t, sRaise, gList, newLO, e1, e2, e3, e4]
theorem sp4_11 {a : Nat} {ln : Str} {f : D} (h : IsL O d ls) (ha : a < ls.length) (hl : ls.length ≤ 900) : sp4 (SL d a ln f 11) O = .ret (.lst ((ls.take a ++ ln :: ls.drop a).map .str)) O := by
  have e1 := h.to (a := a) (by omega) hl
  have e2 := h.from (a := a) (by omega) hl
  have e3 := addL (O := O) (xs := (ls.take a).map .str) (ys := [.str ln]) (by rw [List.length_map, List.length_take]; simp; omega)
  have e4 := addL (O := O) (xs := (ls.take a).map .str ++ [.str ln]) (ys := (ls.drop a).map .str) (by rw [List.length_append, List.length_map, List.length_map, List.length_take, List.length_drop]; simp; omega)
  have e5 : (ls.take a ++ ln :: ls.drop a).map D.str = (ls.take a).map .str ++ [.str ln] ++ (ls.drop a).map .str := by simp
  rw [e5]
  generalize (ls.take a).map D.str = z1 at *
  generalize (ls.drop a).map D.str = z2 at *
  simp [mSl, oNone, oSome, runF, sSeq, sIf, sNext, sDrop, sRet, sRetN, sAsg, ofRes, ofB, bName, bNil, bCons, bTup, bLst, bSubL, mTest, mOp, mVar, mC, mChain, mAnd, mOr, mNot, mIf, mAndV, mOrV, mNotV, mNeg, mCons, mNil, mTup, mLst, newL, mCall, mFn, arity, g1, g2, gLen, gInt, gAbs, gMax2, gMin2, seqOf, lsqOf, lstOf, Res.bind, ofO, gAdd_ok, gSub_ok, gEq_int, gNe_int, gLt_int, gLe_int, gGt_int, gGe_int, gEq_bl, gNe_bl, gEq_str, gNe_str, mIsi, mIsiT, tyD, kitL, kitTab, atI_c0, atI_c1, atI_c2, atI_c3, atI_c4, sForR1, int1, int2, mMeth, mMake, mFld, sFldM, gIs, gIsNot, isNon_t, sRaise, gList, newLO, e1, e2, e3, e4]
theorem sp4_12 {a : Nat} {ln : Str} {f : D} (h : IsL O d ls) (ha : a < ls.length) (hl : ls.length ≤ 900) : sp4 (SL d a ln f 12) O = .ret (.lst ((ls.take a ++ ls.drop (a + 1)).map .str)) O := by
  have e1 := h.to (a := a) (by omega) hl
  have e2 := h.from (a := a + 1) (by omega) hl
  rw [show ((a + 1 : Nat) : Int) = (a : Int) + 1 by omega] at e2
  have e4 := addL (O := O) (xs := (ls.take a).map .str) (ys := (ls.drop (a + 1)).map .str) (by rw [List.length_map, List.length_map, List.length_take, List.length_drop]; omega)
  have e5 : (ls.take a ++ ls.drop (a + 1)).map D.str = (ls.take a).map .str ++ (ls.drop (a + 1)).map .str := by simp
  rw [e5]
  generalize (ls.take a).map D.str = z1 at *
  generalize (ls.drop (a + 1)).map D.str = z2 at *
  simp [mSl, oNone, oSome, runF, sSeq, sIf, sNext, sDrop, sRet, sRetN, sAsg, ofRes, ofB, bName, bNil, bCons, bTup, bLst, bSubL, mTest, mOp, mVar, mC, mChain, mAnd, mOr, mNot, mIf, mAndV, mOrV, mNotV, mNeg, mCons, mNil, mTup, mLst, newL, mCall, mFn, arity, g1, g2, gLen, gInt, gAbs, gMax2, gMin2, seqOf, lsqOf, lstOf, Res.bind, ofO, gAdd_ok, gSub_ok, gEq_int, gNe_int, gLt_int, gLe_int, gGt_int, gGe_int, gEq_bl, gNe_bl, gEq_str, gNe_str, mIsi, mIsiT, tyD, kitL, kitTab, atI_c0, atI_c1, atI_c2, atI_c3, atI_c4, sForR1, int1, int2, mMeth, mMake, mFld, sFldM, gIs, gIsNot, isNon_t, sRaise, gList, newLO, e1, e2, e4]
/-- the line itself is changed -/
theorem sp4_ln {m a : Nat} {ln : Str} {p : Int} (h0 : 0 ≤ p) (h1 : p < 14) (h11 : p ≠ 11) (h12 : p ≠ 12) (hm : 20 ≤ m) (hm2 : m ≤ 1000) (q : LineOK m ln) : ∃ ln', sp4 (SL d a ln fixD p) O = .next (SL d a ln' fixD p) O ∧ LineOK (3 * m + 2) ln' := by
  by_cases c : p < 9
  · obtain ⟨x, hx, ok⟩ := fix_at h0 c
    have hx := hx O
    refine ⟨x, ?_, ok.mono (by omega)⟩
    generalize fixD = f at *
    simp [runF, sSeq, sIf, sNext, sDrop, sRet, sRetN, sAsg, ofRes, ofB, bName, bNil, bCons, bTup, bLst, bSubL, mTest, mOp, mVar, mC, mChain, mAnd, mOr, mNot, mIf, mAndV, mOrV, mNotV, mNeg, mCons, mNil, mTup, mLst, newL, mCall, mFn, arity, g1, g2, gLen, gInt, gAbs, gMax2, gMin2, seqOf, lsqOf, lstOf, Res.bind, ofO, gAdd_ok, gSub_ok, gEq_int, gNe_int, gLt_int, gLe_int, gGt_int, gGe_int, gEq_bl, gNe_bl, gEq_str, gNe_str, mIsi, mIsiT, tyD, kitL, kitTab, atI_c0, atI_c1, atI_c2, atI_c3, atI_c4, sForR1, int1, int2, mMeth, mMake, mFld, sFldM, gIs, gIsNot, isNon_t, sRaise, gList, newLO, c, hx]
  · rcases (by omega : p = 9 ∨ p = 10 ∨ p = 13) with rfl | rfl | rfl
    · have e := gAdd_str (O := O) (h := false) (a := ln) (b := " x") (by have := q.len; show _ + 2 ≤ _; omega)
      refine ⟨ln ++ " x", ?_, (q.app (lit_ok (q := " x") (by decide +kernel))).mono (by show m + 2 ≤ _; omega)⟩
      generalize fixD = f at *
      simp [runF, sSeq, sIf, sNext, sDrop, sRet, sRetN, sAsg, ofRes, ofB, bName, bNil, bCons, bTup, bLst, bSubL, mTest, mOp, mVar, mC, mChain, mAnd, mOr, mNot, mIf, mAndV, mOrV, mNotV, mNeg, mCons, mNil, mTup, mLst, newL, mCall, mFn, arity, g1, g2, gLen, gInt, gAbs, gMax2, gMin2, seqOf, lsqOf, lstOf, Res.bind, ofO, gAdd_ok, gSub_ok, gEq_int, gNe_int, gLt_int, gLe_int, gGt_int, gGe_int, gEq_bl, gNe_bl, gEq_str, gNe_str, mIsi, mIsiT, tyD, kitL, kitTab, atI_c0, atI_c1, atI_c2, atI_c3, atI_c4, sForR1, int1, int2, mMeth, mMake, mFld, sFldM, gIs, gIsNot, isNon_t, sRaise, gList, newLO, e]
    · refine ⟨Txt.replace ln " " "  ", ?_, repl_line q⟩
      have rp : ∀ f, mRepl " " "  " (mVar 3) (SL d a ln f 10) O = .ok (.str (Txt.replace ln " " "  ")) O := fun f => by
        show (if ln.length + (ln.length + 1) * ("  " : Str).length ≤ 16777216 then Res.ok (D.str (Txt.replace ln " " "  ")) O else .bad) = _
        rw [if_pos (by have := q.len; show ln.length + (ln.length + 1) * 2 ≤ _; omega)]
      generalize fixD = f at *
      have rp := rp f
      show sIf (mTest (mOp gLt (mVar 5) (mC (.int 9)))) (sAsg (mOp gIx (mVar 4) (mVar 5)) (bName 3)) (sIf (mTest (mOp gEq (mVar 5) (mC (.int 9)))) (sAsg (mOp (gAdd false) (mVar 3) (mC (.str " x"))) (bName 3)) (sIf (mTest (mOp gEq (mVar 5) (mC (.int 10)))) (sAsg (mRepl " " "  " (mVar 3)) (bName 3)) _)) _ _ = _
      generalize mRepl " " "  " (mVar 3) = mr at *
      simp [runF, sSeq, sIf, sNext, sDrop, sRet, sRetN, sAsg, ofRes, ofB, bName, bNil, bCons, bTup, bLst, bSubL, mTest, mOp, mVar, mC, mChain, mAnd, mOr, mNot, mIf, mAndV, mOrV, mNotV, mNeg, mCons, mNil, mTup, mLst, newL, mCall, mFn, arity, g1, g2, gLen, gInt, gAbs, gMax2, gMin2, seqOf, lsqOf, lstOf, Res.bind, ofO, gAdd_ok, gSub_ok, gEq_int, gNe_int, gLt_int, gLe_int, gGt_int, gGe_int, gEq_bl, gNe_bl, gEq_str, gNe_str, mIsi, mIsiT, tyD, kitL, kitTab, atI_c0, atI_c1, atI_c2, atI_c3, atI_c4, sForR1, int1, int2, mMeth, mMake, mFld, sFldM, gIs, gIsNot, isNon_t, sRaise, gList, newLO, rp]
    · refine ⟨"0 crank a", ?_, (lit_ok (by decide +kernel)).mono (by show 9 ≤ _; omega)⟩
      generalize fixD = f at *
      simp [runF, sSeq, sIf, sNext, sDrop, sRet, sRetN, sAsg, ofRes, ofB, bName, bNil, bCons, bTup, bLst, bSubL, mTest, mOp, mVar, mC, mChain, mAnd, mOr, mNot, mIf, mAndV, mOrV, mNotV, mNeg, mCons, mNil, mTup, mLst, newL, mCall, mFn, arity, g1, g2, gLen, gInt, gAbs, gMax2, gMin2, seqOf, lsqOf, lstOf, Res.bind, ofO, gAdd_ok, gSub_ok, gEq_int, gNe_int, gLt_int, gLe_int, gGt_int, gGe_int, gEq_bl, gNe_bl, gEq_str, gNe_str, mIsi, mIsiT, tyD, kitL, kitTab, atI_c0, atI_c1, atI_c2, atI_c3, atI_c4, sForR1, int1, int2, mMeth, mMake, mFld, sFldM, gIs, gIsNot, isNon_t, sRaise, gList, newLO]
theorem spoilt_ok {m : Nat} (tk : Take b 0 O) (hb : b ≤ 1000) (h : IsL O d ls) (h0 : ls ≠ []) (hl : ls.length ≤ 800) (hm : 20 ≤ m) (hm2 : m ≤ 1000) (ok : ∀ p ∈ ls, LineOK m p) :
    ∃ (ls' : List Str) (O' : Store), f_law_spoilt [.hdl 0, d] O = .ok (.lst (ls'.map .str)) O' ∧ ls'.length ≤ ls.length + 1 ∧ (∀ p ∈ ls', LineOK (3 * m + 2) p) ∧ Take (b + 2) 0 O' ∧ Fr O O' := by
  have hpos := List.length_pos_iff.mpr h0
  obtain ⟨v, O1, e1, v0, v1, t1, f1, _⟩ := tk1 (m := (ls.length : Int)) tk (by omega) (by omega) (by omega)
  obtain ⟨p, O2, e2, p0, p1, t2, f2, _⟩ := tk1 (m := 14) t1 (by omega) (by omega) (by omega)
  rw [← y_take] at e1 e2
  obtain ⟨a, rfl⟩ := Int.eq_ofNat_of_zero_le v0
  have ha : a < ls.length := by omega
  obtain ⟨ln, hln⟩ : ∃ ln, ls[a]? = some ln := ⟨ls[a], List.getElem?_eq_getElem ha⟩
  have h1 := h.fr f1
  have h2 := h1.fr f2
  have gl := h.gl
  have ix := h1.ix hln
  have s0 : sp0 [some (.hdl 0), some d, none, none, none, none] O = .next [some (.hdl 0), some d, some (.int (a : Int)), none, none, none] O1 := by
    simp [sAsg, mFn, arity, mCons, mNil, mCall, DK.g1, mVar, mC, ofRes, ofB, ofO, Res.bind, bName, gl, e1]
  have s1 : sp1 [some (.hdl 0), some d, some (.int (a : Int)), none, none, none] O1 = .next [some (.hdl 0), some d, some (.int (a : Int)), some (.str ln), none, none] O1 := by
    simp [runF, sSeq, sIf, sNext, sDrop, sRet, sRetN, sAsg, ofRes, ofB, bName, bNil, bCons, bTup, bLst, bSubL, mTest, mOp, mVar, mC, mChain, mAnd, mOr, mNot, mIf, mAndV, mOrV, mNotV, mNeg, mCons, mNil, mTup, mLst, newL, mCall, mFn, arity, g1, g2, gLen, gInt, gAbs, gMax2, gMin2, seqOf, lsqOf, lstOf, Res.bind, ofO, gAdd_ok, gSub_ok, gEq_int, gNe_int, gLt_int, gLe_int, gGt_int, gGe_int, gEq_bl, gNe_bl, gEq_str, gNe_str, mIsi, mIsiT, tyD, kitL, kitTab, atI_c0, atI_c1, atI_c2, atI_c3, atI_c4, sForR1, int1, int2, mMeth, mMake, mFld, sFldM, gIs, gIsNot, isNon_t, sRaise, gList, newLO, ix]
  have s2 : sp2 [some (.hdl 0), some d, some (.int (a : Int)), some (.str ln), none, none] O1 = .next [some (.hdl 0), some d, some (.int (a : Int)), some (.str ln), some fixD, none] O1 := by
    simp [runF, sSeq, sIf, sNext, sDrop, sRet, sRetN, sAsg, ofRes, ofB, bName, bNil, bCons, bTup, bLst, bSubL, mTest, mOp, mVar, mC, mChain, mAnd, mOr, mNot, mIf, mAndV, mOrV, mNotV, mNeg, mCons, mNil, mTup, mLst, newL, mCall, mFn, arity, g1, g2, gLen, gInt, gAbs, gMax2, gMin2, seqOf, lsqOf, lstOf, Res.bind, ofO, gAdd_ok, gSub_ok, gEq_int, gNe_int, gLt_int, gLe_int, gGt_int, gGe_int, gEq_bl, gNe_bl, gEq_str, gNe_str, mIsi, mIsiT, tyD, kitL, kitTab, atI_c0, atI_c1, atI_c2, atI_c3, atI_c4, sForR1, int1, int2, mMeth, mMake, mFld, sFldM, gIs, gIsNot, isNon_t, sRaise, gList, newLO]
  have s3 : sp3 [some (.hdl 0), some d, some (.int (a : Int)), some (.str ln), some fixD, none] O1 = .next (SL d a ln fixD p) O2 := by
    generalize fixD = f
    simp [runF, sSeq, sIf, sNext, sDrop, sRet, sRetN, sAsg, ofRes, ofB, bName, bNil, bCons, bTup, bLst, bSubL, mTest, mOp, mVar, mC, mChain, mAnd, mOr, mNot, mIf, mAndV, mOrV, mNotV, mNeg, mCons, mNil, mTup, mLst, newL, mCall, mFn, arity, g1, g2, gLen, gInt, gAbs, gMax2, gMin2, seqOf, lsqOf, lstOf, Res.bind, ofO, gAdd_ok, gSub_ok, gEq_int, gNe_int, gLt_int, gLe_int, gGt_int, gGe_int, gEq_bl, gNe_bl, gEq_str, gNe_str, mIsi, mIsiT, tyD, kitL, kitTab, atI_c0, atI_c1, atI_c2, atI_c3, atI_c4, sForR1, int1, int2, mMeth, mMake, mFld, sFldM, gIs, gIsNot, isNon_t, sRaise, gList, newLO, e2]
  have run : ∀ r O', sSeq sp4 sp5 (SL d a ln fixD p) O2 = .ret r O' → f_law_spoilt [.hdl 0, d] O = .ok r O' := fun r O' e => by
    show (match b_law_spoilt [some (.hdl 0), some d, none, none, none, none] O with
      | .next _ O1 => Res.ok D.non O1
      | .ret d O1 => .ok d O1
      | .exc x _ O1 => .exc x O1
      | _ => .bad) = _
    rw [sp_is, seq_next s0, seq_next s1, seq_next s2, seq_next s3, e]
  have okl := ok ln (List.mem_of_getElem? hln)
  have fr := f1.trans f2
  have t3 := tmono (show b + 1 + 1 ≤ b + 2 by omega) t2
  have tk' : ∀ i, ∀ q ∈ ls.take i, LineOK (3 * m + 2) q := fun i q hq => (ok q (List.mem_of_mem_take hq)).mono (by omega)
  have dr' : ∀ i, ∀ q ∈ ls.drop i, LineOK (3 * m + 2) q := fun i q hq => (ok q (List.mem_of_mem_drop hq)).mono (by omega)
  have mid : ∀ (ln' : Str) (j : Nat), LineOK (3 * m + 2) ln' → ∀ q ∈ ls.take a ++ ln' :: ls.drop j, LineOK (3 * m + 2) q := fun ln' j hq q hm => by
    rcases List.mem_append.mp hm with hm | hm
    · exact tk' _ q hm
    · rcases List.mem_cons.mp hm with rfl | hm
      · exact hq
      · exact dr' _ q hm
  by_cases c11 : p = 11
  · subst c11
    exact ⟨_, O2, run _ _ (by rw [seq_ret (sp4_11 h2 ha (by omega))]), by rw [List.length_append, List.length_cons, List.length_take, List.length_drop]; omega, mid ln a (okl.mono (by omega)), t3, fr⟩
  · by_cases c12 : p = 12
    · subst c12
      refine ⟨_, O2, run _ _ (by rw [seq_ret (sp4_12 h2 ha (by omega))]), by rw [List.length_append, List.length_take, List.length_drop]; omega, fun q hq => ?_, t3, fr⟩
      rcases List.mem_append.mp hq with hq | hq
      · exact tk' _ q hq
      · exact dr' _ q hq
    · obtain ⟨ln', e, okn⟩ := sp4_ln (d := d) (a := a) (O := O2) p0 p1 c11 c12 hm hm2 okl
      exact ⟨_, O2, run _ _ (by rw [seq_next e, sp5_ok h2 ha (by omega)]), by rw [List.length_append, List.length_cons, List.length_take, List.length_drop]; omega, mid ln' (a + 1) okn, t3, fr⟩
end
end DK.k39
end
section
set_option Elab.async false
set_option linter.all false
set_option autoImplicit false
set_option maxRecDepth 100000
set_option maxHeartbeats 4000000
/-! K39I: a text read, by the law's try, in plain Lean. -/
namespace DK.k39
open PySem L2 DK DK.Sp DK.Rd DK.Lc
section
variable {O O0 O1 : Store} {b n : Nat} {ls : List Str} {s x l : Str} {d : D}
theorem y_lines_ok {m : Nat} (ok : ∀ p ∈ ls, LineOK m p) (hm : m ≤ 900) (hl : ls.length ≤ 400) : f_lines_of [.str (txt ls)] O = .ok (.lst (ls.map .str)) O := by
  rw [y_lines]
  exact Rd.lines_ok (fun p hp => (ok p hp).free) (by omega) fun p hp => by have := (ok p hp).len; omega
theorem read_of_ok {y : D} (h : f_parse_sheet [.str x] O = .ok y O1) : f_law_read [.str x] O = .ok y O1 := by
  simp [f_law_read, b_law_read, sTryE, runF, sSeq, sIf, sNext, sDrop, sRet, sRetN, sAsg, ofRes, ofB, bName, bNil, bCons, bTup, bLst, bSubL, mTest, mOp, mVar, mC, mChain, mAnd, mOr, mNot, mIf, mAndV, mOrV, mNotV, mNeg, mCons, mNil, mTup, mLst, newL, mCall, mFn, arity, g1, g2, gLen, gInt, gAbs, gMax2, gMin2, gIx, seqOf, lsqOf, lstOf, Res.bind, ofO, gAdd_ok, gSub_ok, gEq_int, gNe_int, gLt_int, gLe_int, gGt_int, gGe_int, gEq_bl, gNe_bl, gEq_str, gNe_str, mIsi, mIsiT, tyD, kitL, kitTab, atI_c0, atI_c1, atI_c2, atI_c3, atI_c4, sForR1, int1, int2, mMeth, mMake, mFld, sFldM, gIs, gIsNot, isNon_t, sRaise, gList, newLO, h]
theorem read_of_exc {k : Nat} (h : f_parse_sheet [.str x] O = .exc (errL k) O1) : f_law_read [.str x] O = .ok (.lst [.int (k : Int)]) O1 := by
  unfold errL at h
  have sb : sub_law_read_166 "InvalidLine" = some true := rfl
  have lk : List.lookup ("line" : Str) [(("line" : Str), D.int (k : Int))] = some (.int (k : Int)) := rfl
  have fl : (flatFs [(("line" : Str), D.int (k : Int))]).isSome = true := rfl
  generalize (k : Int) = kk at *
  simp [f_law_read, b_law_read, sTryE, okX, mXf, runF, sSeq, sIf, sNext, sDrop, sRet, sRetN, sAsg, ofRes, ofB, bName, bNil, bCons, bTup, bLst, bSubL, mTest, mOp, mVar, mC, mChain, mAnd, mOr, mNot, mIf, mAndV, mOrV, mNotV, mNeg, mCons, mNil, mTup, mLst, newL, mCall, mFn, arity, g1, g2, gLen, gInt, gAbs, gMax2, gMin2, gIx, seqOf, lsqOf, lstOf, Res.bind, ofO, gAdd_ok, gSub_ok, gEq_int, gNe_int, gLt_int, gLe_int, gGt_int, gGe_int, gEq_bl, gNe_bl, gEq_str, gNe_str, mIsi, mIsiT, tyD, kitL, kitTab, atI_c0, atI_c1, atI_c2, atI_c3, atI_c4, sForR1, int1, int2, mMeth, mMake, mFld, sFldM, gIs, gIsNot, isNon_t, sRaise, gList, newLO, h, sb, lk, fl]
theorem read_ok {m : Nat} (ok : ∀ p ∈ ls, LineOK m p) (hm : m ≤ 900) (hl : ls.length ≤ 400) :
    (Fine ls ∧ f_law_read [.str (txt ls)] O = .ok (.tup [.str (headS ls), .hdl O.length]) (O ++ [.lst ((rowsTo ls ls.length).map r4D)])) ∨ ∃ k O', Bad ls k ∧ f_law_read [.str (txt ls)] O = .ok (.lst [.int ((k : Nat) : Int)]) O' ∧ Fz O O' := by
  rcases parse_ok (O0 := O) (x := txt ls) (by omega) (fun p hp => by have := (ok p hp).len; omega) (y_lines_ok ok hm hl) with ⟨f, e⟩ | ⟨k, O', bd, e, f⟩
  · exact .inl ⟨f, read_of_ok e⟩
  · exact .inr ⟨k, O', bd, read_of_exc e, f⟩
theorem parse_exc {y : Exn} (h : f_lines_of [.str x] O = .exc y O) : f_parse_sheet [.str x] O = .exc y O := by
  show (match b_parse_sheet [some (.str x), none, none, none, none, none, none] O with
      | .next _ O1 => Res.ok D.non O1
      | .ret d O1 => .ok d O1
      | .exc x _ O1 => .exc x O1
      | _ => .bad) = _
  have s0 : sAsg (mFn (arity 1 f_lines_of) [] (mCons (mVar 0) mNil)) (bName 1) [some (.str x), none, none, none, none, none, none] O = .exc y [some (.str x), none, none, none, none, none, none] O := by
    simp [runF, sSeq, sIf, sNext, sDrop, sRet, sRetN, sAsg, ofRes, ofB, bName, bNil, bCons, bTup, bLst, bSubL, mTest, mOp, mVar, mC, mChain, mAnd, mOr, mNot, mIf, mAndV, mOrV, mNotV, mNeg, mCons, mNil, mTup, mLst, newL, mCall, mFn, arity, g1, g2, gLen, gInt, gAbs, gMax2, gMin2, gIx, seqOf, lsqOf, lstOf, Res.bind, ofO, gAdd_ok, gSub_ok, gEq_int, gNe_int, gLt_int, gLe_int, gGt_int, gGe_int, gEq_bl, gNe_bl, gEq_str, gNe_str, mIsi, mIsiT, tyD, kitL, kitTab, atI_c0, atI_c1, atI_c2, atI_c3, atI_c4, sForR1, int1, int2, mMeth, mMake, mFld, sFldM, gIs, gIsNot, isNon_t, sRaise, gList, newLO, h]
  rw [parse_is, seq_exc s0]
/-- a text of lines without its last newline -/
theorem cut_txt {A : List Str} {l : Str} : cutS (txt (A ++ [l])) none (some (-1)) = Str.join (one 10) (A ++ [l]) := by
  refine str_ext ?_
  show (((txt (A ++ [l])).cps.toList.drop 0).take _).toArray.toList = _
  rw [List.drop_zero]
  have hll := len_list (txt (A ++ [l]))
  have key : (txt (A ++ [l])).cps.toList = (Str.join (one 10) (A ++ [l])).cps.toList ++ [10] := by
    rw [txt_list]
    have := jn_flat (c := 10) (A := A ++ [l])
    rw [← this]
    show jn 10 (A ++ [l] ++ [Str.empty]) = jn 10 (A ++ [l]) ++ [10]
    rw [show A ++ [l] ++ [Str.empty] = A ++ [l, Str.empty] by simp, jn_new]
  have hi : HT.sIx (txt (A ++ [l])).length (txt (A ++ [l])).length (some (-1)) - HT.sIx (txt (A ++ [l])).length 0 none = (Str.join (one 10) (A ++ [l])).cps.toList.length := by
    rw [HT.sIx_none, Nat.sub_zero]
    show (if (-1 : Int) < 0 then ((-1 : Int) + ((txt (A ++ [l])).length : Int)).toNat else min (-1 : Int).toNat (txt (A ++ [l])).length) = _
    rw [if_pos (by decide), ← hll, key, List.length_append, List.length_singleton]
    omega
  rw [hi, key, List.take_left]
theorem read_open {m : Nat} {A : List Str} {l : Str} (ok : ∀ p ∈ A ++ [l], LineOK m p) (hm : m ≤ 900) (hl : A.length ≤ 400) (h0 : l ≠ "") : f_law_read [.str (cutS (txt (A ++ [l])) none (some (-1)))] O = .ok (.lst [.int (((A.length + 1 : Nat)) : Int)]) O := by
  have hf : free 10 (A ++ [l]) := fun p hp => (ok p hp).free
  have hs : Txt.split (cutS (txt (A ++ [l])) none (some (-1))) (one 10) = A ++ [l] := by
    rw [cut_txt]
    exact split_is (by simp) hf rfl
  have hlen : (cutS (txt (A ++ [l])) none (some (-1))).length ≤ 900000 := by
    have h1 := txt_len (A := A ++ [l]) (m := m) fun p hp => (ok p hp).len
    have h2 : (cutS (txt (A ++ [l])) none (some (-1))).length ≤ (txt (A ++ [l])).length := by
      rw [← len_list, ← len_list]
      show (((txt (A ++ [l])).cps.toList.drop 0).take _).toArray.toList.length ≤ _
      rw [List.drop_zero]
      show (List.take _ _).length ≤ _
      rw [List.length_take]
      exact Nat.min_le_right _ _
    rw [List.length_append, List.length_singleton] at h1
    have : (A.length + 1) * (m + 1) ≤ 401 * 901 := Nat.mul_le_mul (by omega) (by omega)
    omega
  have hne : cutS (txt (A ++ [l])) none (some (-1)) ≠ "" := fun e => by
    rw [e] at hs
    have : Txt.split ("" : Str) (one 10) = [("" : Str)] := rfl
    rw [this] at hs
    cases A with
    | nil => exact h0 (List.cons.inj hs).1.symm
    | cons a A => have := congrArg List.length hs; simp at this
  have e := Rd.lines_open (O := O) hlen hne h0 hs (by omega)
  rw [← y_lines] at e
  exact read_of_exc (parse_exc e)
theorem read_nil : ∃ O', f_law_read [.str ""] O = .ok (.lst [.int 1]) O' ∧ Fz O O' := by
  rcases read_ok (O := O) (ls := []) (m := 0) (fun p hp => absurd hp List.not_mem_nil) (by omega) (by simp) with ⟨f, _⟩ | ⟨k, O', bd, e, f⟩
  · exact absurd rfl f.1
  · have : k = 1 := bad_uniq bd (.inl ⟨rfl, rfl⟩)
    subst this
    exact ⟨O', e, f⟩
theorem IsL.neNil (h : IsL O d ls) (ok : ∀ p ∈ ls, PyData.strOk p = true) : gNe O d (.lst []) = some (.bl (!decide (ls = [])), O) := by
  have q : eqD O (.lst (ls.map .str)) (.lst []) = some (decide (ls = [])) := by
    rw [eqD_pd (okV_strs ok) (by rfl) (.inl rfl)]
    cases ls with
    | nil => rfl
    | cons x xs => rfl
  rcases h with rfl | ⟨n, _, rfl, g⟩
  · exact gNe_of q
  · exact gNe_of (by rw [eqD_hl g]; exact q)
theorem eqLI {v : Int} : gEq O (.lst [.int v]) (.lst [.int v]) = some (.bl true, O) := gEq_self rfl rfl
theorem neLI {v : Int} : gNe O (.lst [.int v]) (.lst [.int v]) = some (.bl false, O) := gNe_self rfl rfl
/-- the same sheet, its rows two lists of the store -/
theorem neSheet {p : Nat} {rows : List R4} (h1 : O[p]? = some (.lst (rows.map r4D))) (h2 : O[n]? = some (.lst (rows.map r4D))) (hs : PyData.strOk s = true) (hr : ∀ r ∈ rows, PyData.strOk r.2.1 = true ∧ PyData.strOk r.2.2.1 = true ∧ ∀ f, r.2.2.2 = some f → PyData.strOk f = true) : gNe O (.tup [.str s, .hdl p]) (.tup [.str s, .hdl n]) = some (.bl false, O) := by
  have dp : ∀ k, O[k]? = some (.lst (rows.map r4D)) → deep O 30 (.tup [.str s, .hdl k]) = deep O 30 (.tup [.str s, .lst (rows.map r4D)]) := fun k h => by
    have e : deep O 29 (.hdl k) = deep O 29 (.lst (rows.map r4D)) := by
      show (match O[k]? with | some (.lst xs) => (xs.mapM (deep O 28)).map PyData.list | _ => none) = _
      rw [h]
      rfl
    show (List.mapM (deep O 29) [D.str s, .hdl k]).map PyData.tuple = (List.mapM (deep O 29) [D.str s, .lst (rows.map r4D)]).map PyData.tuple
    rw [mapM_cons, mapM_cons, mapM_cons, mapM_cons, e]
  have ok : okV (.tup [.str s, .lst (rows.map r4D)]) 29 = true := okV_tup fun x hx => by
    simp only [List.mem_cons, List.not_mem_nil, or_false] at hx
    rcases hx with rfl | rfl
    · exact hs
    · refine okV_lst fun y hy => ?_
      obtain ⟨r, hr', rfl⟩ := List.mem_map.mp hy
      obtain ⟨q1, q2, q3⟩ := hr r hr'
      refine okV_tup fun z hz => ?_
      simp only [List.mem_cons, List.not_mem_nil, or_false] at hz
      rcases hz with rfl | rfl | rfl | rfl
      · rfl
      · exact q1
      · exact q2
      · cases hf : r.2.2.2 with
        | none => rfl
        | some f => exact q3 f hf
  have e : eqD O (.tup [.str s, .hdl p]) (.tup [.str s, .hdl n]) = eqD O (.tup [.str s, .lst (rows.map r4D)]) (.tup [.str s, .lst (rows.map r4D)]) := by
    unfold eqD
    rw [dp p h1, dp n h2]
    rfl
  have q : eqD O (.tup [.str s, .hdl p]) (.tup [.str s, .hdl n]) = some true := by rw [e, eqD_pd ok ok (.inl rfl), eqv_self ok]
  rw [gNe_of q]
  rfl
end
end DK.k39
end
section
set_option Elab.async false
set_option linter.all false
set_option autoImplicit false
set_option maxRecDepth 100000
set_option maxHeartbeats 4000000
/-! K39Law: the law holds. -/
namespace DK.k39
open PySem L2 DK DK.Sp DK.Rd DK.Lc
abbrev jnE : EM := (mBS (gJoin) (mC (.str "")) (mCons (mLcL false (mVar 4) [10] (bName 10) mYes (mOp (gAdd false) (mVar 10) (mC (.str "\n")))) mNil))
abbrev lw1 : SM := (sAsg (mOp gIx (mLst false (mCons (mC (.str "ash")) (mCons (mC (.str "bay")) (mCons (mC (.str "abcdefghijkl")) mNil)))) (mFn (arity 2 f_law_take) [] (mCons (mVar 1) (mCons (mC (.int 3)) mNil)))) (bName 2))
abbrev lw2 : SM := (sAsg (mFn (arity 1 f_law_rows) [] (mCons (mVar 1) mNil)) (bName 3))
abbrev lw3 : SM := (sAsg (mFn (arity 2 f_law_lines) [] (mCons (mVar 2) (mCons (mVar 3) mNil))) (bName 4))
abbrev lw4 : SM := (sAsg (mFn (arity 2 f_format_sheet) [] (mCons (mVar 2) (mCons (mCall (g1 (gList false)) (mCons (mVar 3) mNil)) mNil))) (bName 5))
abbrev lw5 : SM := sIf (mOr (mTest (mOp gNe (mVar 5) jnE)) (mTest (mOp gNe (mFn (arity 1 f_law_read) [] (mCons (mVar 5) mNil)) (mTup (mCons (mVar 2) (mCons (mVar 3) mNil)))))) (sRet (mC (.bl false))) sNext
abbrev lw7 : SM := (sRet (mAndV (mOp gEq (mFn (arity 1 f_law_read) [] (mCons (mSl false (mVar 5) oNone (oSome (mNeg (mC (.int 1))))) mNil)) (mLst false (mCons (mOp (gAdd false) (mCall (g1 gLen) (mCons (mVar 3) mNil)) (mC (.int 1))) mNil))) (mOp gEq (mFn (arity 1 f_law_read) [] (mCons (mC (.str "")) mNil)) (mLst false (mCons (mC (.int 1)) mNil)))))
abbrev t0 : SM := (sIf (mTest (mOp gNe (mVar 4) (mLst false mNil))) (sAsg (mFn (arity 2 f_law_spoilt) [] (mCons (mVar 1) (mCons (mVar 4) mNil))) (bName 4)) sNext)
abbrev t1 : SM := sAsg jnE (bName 7)
abbrev t2 : SM := (sAsg (mFn (arity 1 f_law_due) [] (mCons (mVar 4) mNil)) (bName 8))
abbrev t3 : SM := (sAsg (mFn (arity 1 f_law_read) [] (mCons (mVar 7) mNil)) (bName 9))
abbrev t4 : SM := (sIf (mOr (mAnd (mTest (mOp gGt (mVar 8) (mC (.int 0)))) (mTest (mOp gNe (mVar 9) (mLst false (mCons (mVar 8) mNil))))) (mAnd (mTest (mOp gEq (mVar 8) (mC (.int 0)))) (mOr (mTest (mIsi "list" (mVar 9))) (mTest (mOp gNe (mFn (arity 2 f_format_sheet) [] (mCons (mOp gIx (mVar 9) (mC (.int 0))) (mCons (mOp gIx (mVar 9) (mC (.int 1))) mNil))) (mVar 7)))))) (sRet (mC (.bl false))) sNext)
abbrev tT : SM := sSeq t0 (sSeq t1 (sSeq t2 (sSeq t3 t4)))
theorem law_is : b_law = sSeq (sAsg (mLst true (mCons (mVar 0) (mCons (mC (.int 0)) (mCons (mC (.int 0)) mNil)))) (bName 1)) (sSeq lw1 (sSeq lw2 (sSeq lw3 (sSeq lw4 (sSeq lw5 (sSeq (sForR1 (mCons (mC (.int 2)) mNil) (bName 6) tT) lw7)))))) := rfl
abbrev LL (c : D) (s : Str) (n : Nat) (d : D) (t : Str) (y6 y7 y8 y9 y10 : Option D) : Loc := [some c, some (.hdl 0), some (.str s), some (.hdl n), some d, some (.str t), y6, y7, y8, y9, y10]
section
variable {O : Store} {b n : Nat} {ls : List Str} {s t : Str} {c d : D} {y6 y7 y8 y9 y10 : Option D} {rows : List R4}
theorem jnE_ok {m : Nat} (h : IsL O d ls) (hl : ls.length ≤ 400) (ok : ∀ p ∈ ls, LineOK m p) (hm : m ≤ 900) : jnE (LL c s n d t y6 y7 y8 y9 y10) O = .ok (.str (txt ls)) O := by
  have hp : ∀ p ∈ ls, p.length ≤ 1000 := fun p hp => by have := (ok p hp).len; omega
  have e := lcNl (src := mVar 4) (i := 10) (L := LL c s n d t y6 y7 y8 y9 y10) (O := O) (O1 := O) (d := d) rfl h.lsq (by simp) (by omega) hp
  have j := join_txt (O := O) (A := ls) (by omega) hp
  unfold jnE
  generalize mLcL false (mVar 4) [10] (bName 10) mYes (mOp (gAdd false) (mVar 10) (mC (.str "\n"))) = lc at *
  generalize (ls.map fun (p : Str) => p ++ one 10).map D.str = zs at *
  generalize txt ls = tt at *
  simp [mBS, runF, sSeq, sIf, sNext, sDrop, sRet, sRetN, sAsg, ofRes, ofB, bName, bNil, bCons, bTup, bLst, bSubL, mTest, mOp, mVar, mC, mChain, mAnd, mOr, mNot, mIf, mAndV, mOrV, mNotV, mNeg, mCons, mNil, mTup, mLst, newL, mCall, mFn, arity, g1, g2, gLen, gInt, gAbs, gMax2, gMin2, seqOf, lsqOf, lstOf, Res.bind, ofO, gAdd_ok, gSub_ok, gEq_int, gNe_int, gLt_int, gLe_int, gGt_int, gGe_int, gEq_bl, gNe_bl, gEq_str, gNe_str, mIsi, mIsiT, tyD, kitL, kitTab, atI_c0, atI_c1, atI_c2, atI_c3, atI_c4, sForR1, int1, int2, mMeth, mMake, mFld, sFldM, gIs, gIsNot, isNon_t, sRaise, gList, newLO, e, j]
def bd : Nat → Nat
  | 0 => 50
  | k + 1 => 3 * bd k + 2
structure TI (b : Nat) (c : D) (s : Str) (n : Nat) (t : Str) (rows : List R4) (j : Nat) (L : Loc) (O : Store) : Prop where
  ex : ∃ d ls y6 y7 y8 y9 y10, L = LL c s n d t y6 y7 y8 y9 y10 ∧ IsL O d ls ∧ (d = .lst (ls.map .str) ∨ ls ≠ []) ∧ ls.length ≤ 9 + j ∧ ∀ p ∈ ls, LineOK (bd j) p
  rw : O[n]? = some (.lst (rows.map r4D))
  tk : Take (b + 2 * j) 0 O
theorem law_turn {j : Nat} {L : Loc} (hn : 0 < n) (hj : j < 2) (hb : b ≤ 900) (h : TI b c s n t rows j L O) : ∃ L' O', turnOf (bName 6) tT (.int (j : Int)) L O = .next L' O' ∧ TI b c s n t rows (j + 1) L' O' := by
  obtain ⟨⟨d, ls, y6, y7, y8, y9, y10, rfl, il, hd, hl, ok⟩, g, tk⟩ := h
  have hbd : 20 ≤ bd j ∧ bd j ≤ 152 ∧ bd (j + 1) = 3 * bd j + 2 := by
    rcases (by omega : j = 0 ∨ j = 1) with rfl | rfl
    · exact ⟨by decide, by decide, rfl⟩
    · exact ⟨by decide, by decide, rfl⟩
  have ne := il.neNil fun p hp => (ok p hp).ok
  have s0 : ∃ (ls' : List Str) (O1 : Store), t0 (LL c s n d t (some (.int (j : Int))) y7 y8 y9 y10) O = .next (LL c s n (.lst (ls'.map .str)) t (some (.int (j : Int))) y7 y8 y9 y10) O1 ∧ ls'.length ≤ 9 + (j + 1) ∧ (∀ p ∈ ls', LineOK (bd (j + 1)) p) ∧ Take (b + 2 * (j + 1)) 0 O1 ∧ Fr O O1 := by
    by_cases h0 : ls = []
    · subst h0
      obtain rfl : d = .lst [] := by
        rcases hd with h | h
        · exact h
        · exact absurd rfl h
      refine ⟨[], O, ?_, by simp, fun p hp => absurd hp List.not_mem_nil, tmono (by omega) tk, Fr.refl O⟩
      simp [runF, sSeq, sIf, sNext, sDrop, sRet, sRetN, sAsg, ofRes, ofB, bName, bNil, bCons, bTup, bLst, bSubL, mTest, mOp, mVar, mC, mChain, mAnd, mOr, mNot, mIf, mAndV, mOrV, mNotV, mNeg, mCons, mNil, mTup, mLst, newL, mCall, mFn, arity, g1, g2, gLen, gInt, gAbs, gMax2, gMin2, gIx, seqOf, lsqOf, lstOf, Res.bind, ofO, gAdd_ok, gSub_ok, gEq_int, gNe_int, gLt_int, gLe_int, gGt_int, gGe_int, gEq_bl, gNe_bl, gEq_str, gNe_str, mIsi, mIsiT, tyD, kitL, kitTab, atI_c0, atI_c1, atI_c2, atI_c3, atI_c4, sForR1, int1, int2, mMeth, mMake, mFld, sFldM, gIs, gIsNot, isNon_t, sRaise, gList, newLO, ne]
    · obtain ⟨ls', O1, e, h1, h2, h3, h4⟩ := spoilt_ok (m := bd j) tk (by omega) il h0 (by omega) hbd.1 (by omega) ok
      rw [decide_eq_false h0] at ne
      refine ⟨ls', O1, ?_, by omega, fun p hp => by rw [hbd.2.2]; exact h2 p hp, h3, h4⟩
      generalize ls'.map D.str = zs at *
      simp [runF, sSeq, sIf, sNext, sDrop, sRet, sRetN, sAsg, ofRes, ofB, bName, bNil, bCons, bTup, bLst, bSubL, mTest, mOp, mVar, mC, mChain, mAnd, mOr, mNot, mIf, mAndV, mOrV, mNotV, mNeg, mCons, mNil, mTup, mLst, newL, mCall, mFn, arity, g1, g2, gLen, gInt, gAbs, gMax2, gMin2, gIx, seqOf, lsqOf, lstOf, Res.bind, ofO, gAdd_ok, gSub_ok, gEq_int, gNe_int, gLt_int, gLe_int, gGt_int, gGe_int, gEq_bl, gNe_bl, gEq_str, gNe_str, mIsi, mIsiT, tyD, kitL, kitTab, atI_c0, atI_c1, atI_c2, atI_c3, atI_c4, sForR1, int1, int2, mMeth, mMake, mFld, sFldM, gIs, gIsNot, isNon_t, sRaise, gList, newLO, ne, e]
  obtain ⟨ls', O1, s0, hl', ok', tk1, fr⟩ := s0
  have il' : IsL O1 (.lst (ls'.map .str)) ls' := .inl rfl
  have m9 : bd (j + 1) ≤ 900 := by omega
  have s1 : t1 (LL c s n (.lst (ls'.map .str)) t (some (.int (j : Int))) y7 y8 y9 y10) O1 = .next (LL c s n (.lst (ls'.map .str)) t (some (.int (j : Int))) (some (.str (txt ls'))) y8 y9 y10) O1 := by
    have e := jnE_ok (c := c) (s := s) (n := n) (t := t) (y6 := some (.int (j : Int))) (y7 := y7) (y8 := y8) (y9 := y9) (y10 := y10) il' (by omega) ok' m9
    show sAsg jnE (bName 7) _ _ = _
    generalize jnE = je at *
    generalize ls'.map D.str = zs at *
    simp [runF, sSeq, sIf, sNext, sDrop, sRet, sRetN, sAsg, ofRes, ofB, bName, bNil, bCons, bTup, bLst, bSubL, mTest, mOp, mVar, mC, mChain, mAnd, mOr, mNot, mIf, mAndV, mOrV, mNotV, mNeg, mCons, mNil, mTup, mLst, newL, mCall, mFn, arity, g1, g2, gLen, gInt, gAbs, gMax2, gMin2, gIx, seqOf, lsqOf, lstOf, Res.bind, ofO, gAdd_ok, gSub_ok, gEq_int, gNe_int, gLt_int, gLe_int, gGt_int, gGe_int, gEq_bl, gNe_bl, gEq_str, gNe_str, mIsi, mIsiT, tyD, kitL, kitTab, atI_c0, atI_c1, atI_c2, atI_c3, atI_c4, sForR1, int1, int2, mMeth, mMake, mFld, sFldM, gIs, gIsNot, isNon_t, sRaise, gList, newLO, e]
  have len9 : ∀ p ∈ ls', p.length ≤ 900 := fun p hp => by have := (ok' p hp).len; omega
  have fin : ∃ y8' y9' O2, sSeq t2 (sSeq t3 t4) (LL c s n (.lst (ls'.map .str)) t (some (.int (j : Int))) (some (.str (txt ls'))) y8 y9 y10) O1 = .next (LL c s n (.lst (ls'.map .str)) t (some (.int (j : Int))) (some (.str (txt ls'))) y8' y9' y10) O2 ∧ Fz O1 O2 := by
    rcases due_ok (O := O1) (ls := ls') (by omega) len9 (fun p hp => (ok' p hp).ok) with ⟨f, e1⟩ | ⟨m, bm, e1⟩ <;> rcases DK.k39.read_ok (O := O1) ok' m9 (by omega) with ⟨f', e2⟩ | ⟨k, O', bk, e2, fz⟩
    · obtain ⟨q1, q2⟩ := fine_lines f
      have hr := rowsTo_len (ls := ls') ls'.length
      have e3 := format_ok (O := O1 ++ [.lst ((rowsTo ls' ls'.length).map r4D)]) (s := headS ls') (d := .hdl O1.length) (rows := rowsTo ls' ls'.length) (lsq_h (by simp)) (rows_B _) (by omega) (nameB_len q2).2
      rw [q1] at e3
      refine ⟨some (.int 0), some (.tup [.str (headS ls'), .hdl O1.length]), O1 ++ [.lst ((rowsTo ls' ls'.length).map r4D)], ?_, fz_app⟩
      generalize headS ls' = hs at *
      generalize (rowsTo ls' ls'.length).map r4D = zr at *
      generalize txt ls' = tx at *
      generalize ls'.map D.str = zs at *
      generalize O1 ++ [Ob.lst zr] = O2 at *
      have a1 : t2 (LL c s n (.lst zs) t (some (.int (j : Int))) (some (.str tx)) y8 y9 y10) O1 = .next (LL c s n (.lst zs) t (some (.int (j : Int))) (some (.str tx)) (some (.int 0)) y9 y10) O1 := by simp [runF, sSeq, sIf, sNext, sDrop, sRet, sRetN, sAsg, ofRes, ofB, bName, bNil, bCons, bTup, bLst, bSubL, mTest, mOp, mVar, mC, mChain, mAnd, mOr, mNot, mIf, mAndV, mOrV, mNotV, mNeg, mCons, mNil, mTup, mLst, newL, mCall, mFn, arity, g1, g2, gLen, gInt, gAbs, gMax2, gMin2, gIx, seqOf, lsqOf, lstOf, Res.bind, ofO, gAdd_ok, gSub_ok, gEq_int, gNe_int, gLt_int, gLe_int, gGt_int, gGe_int, gEq_bl, gNe_bl, gEq_str, gNe_str, mIsi, mIsiT, tyD, kitL, kitTab, atI_c0, atI_c1, atI_c2, atI_c3, atI_c4, sForR1, int1, int2, mMeth, mMake, mFld, sFldM, gIs, gIsNot, isNon_t, sRaise, gList, newLO, e1]
      have a2 : t3 (LL c s n (.lst zs) t (some (.int (j : Int))) (some (.str tx)) (some (.int 0)) y9 y10) O1 = .next (LL c s n (.lst zs) t (some (.int (j : Int))) (some (.str tx)) (some (.int 0)) (some (.tup [.str hs, .hdl O1.length])) y10) O2 := by simp [runF, sSeq, sIf, sNext, sDrop, sRet, sRetN, sAsg, ofRes, ofB, bName, bNil, bCons, bTup, bLst, bSubL, mTest, mOp, mVar, mC, mChain, mAnd, mOr, mNot, mIf, mAndV, mOrV, mNotV, mNeg, mCons, mNil, mTup, mLst, newL, mCall, mFn, arity, g1, g2, gLen, gInt, gAbs, gMax2, gMin2, gIx, seqOf, lsqOf, lstOf, Res.bind, ofO, gAdd_ok, gSub_ok, gEq_int, gNe_int, gLt_int, gLe_int, gGt_int, gGe_int, gEq_bl, gNe_bl, gEq_str, gNe_str, mIsi, mIsiT, tyD, kitL, kitTab, atI_c0, atI_c1, atI_c2, atI_c3, atI_c4, sForR1, int1, int2, mMeth, mMake, mFld, sFldM, gIs, gIsNot, isNon_t, sRaise, gList, newLO, e2]
      rw [seq_next a1, seq_next a2]
      simp [runF, sSeq, sIf, sNext, sDrop, sRet, sRetN, sAsg, ofRes, ofB, bName, bNil, bCons, bTup, bLst, bSubL, mTest, mOp, mVar, mC, mChain, mAnd, mOr, mNot, mIf, mAndV, mOrV, mNotV, mNeg, mCons, mNil, mTup, mLst, newL, mCall, mFn, arity, g1, g2, gLen, gInt, gAbs, gMax2, gMin2, gIx, seqOf, lsqOf, lstOf, Res.bind, ofO, gAdd_ok, gSub_ok, gEq_int, gNe_int, gLt_int, gLe_int, gGt_int, gGe_int, gEq_bl, gNe_bl, gEq_str, gNe_str, mIsi, mIsiT, tyD, kitL, kitTab, atI_c0, atI_c1, atI_c2, atI_c3, atI_c4, sForR1, int1, int2, mMeth, mMake, mFld, sFldM, gIs, gIsNot, isNon_t, sRaise, gList, newLO, e3]
    · exact absurd f (fun f => bad_fine bk f)
    · exact absurd f' (fun f => bad_fine bm f)
    · have hk : m = k := bad_uniq bm bk
      subst hk
      have hp := (bad_pos bm).1
      have hp2 : (0 : Int) < (m : Int) := by omega
      have hp3 : ¬ (m : Int) = 0 := by omega
      have ne2 := neLI (O := O') (v := (m : Int))
      refine ⟨some (.int (m : Int)), some (.lst [.int (m : Int)]), O', ?_, fz⟩
      generalize (m : Int) = mm at *
      generalize txt ls' = tx at *
      generalize ls'.map D.str = zs at *
      have a1 : t2 (LL c s n (.lst zs) t (some (.int (j : Int))) (some (.str tx)) y8 y9 y10) O1 = .next (LL c s n (.lst zs) t (some (.int (j : Int))) (some (.str tx)) (some (.int mm)) y9 y10) O1 := by simp [runF, sSeq, sIf, sNext, sDrop, sRet, sRetN, sAsg, ofRes, ofB, bName, bNil, bCons, bTup, bLst, bSubL, mTest, mOp, mVar, mC, mChain, mAnd, mOr, mNot, mIf, mAndV, mOrV, mNotV, mNeg, mCons, mNil, mTup, mLst, newL, mCall, mFn, arity, g1, g2, gLen, gInt, gAbs, gMax2, gMin2, gIx, seqOf, lsqOf, lstOf, Res.bind, ofO, gAdd_ok, gSub_ok, gEq_int, gNe_int, gLt_int, gLe_int, gGt_int, gGe_int, gEq_bl, gNe_bl, gEq_str, gNe_str, mIsi, mIsiT, tyD, kitL, kitTab, atI_c0, atI_c1, atI_c2, atI_c3, atI_c4, sForR1, int1, int2, mMeth, mMake, mFld, sFldM, gIs, gIsNot, isNon_t, sRaise, gList, newLO, e1]
      have a2 : t3 (LL c s n (.lst zs) t (some (.int (j : Int))) (some (.str tx)) (some (.int mm)) y9 y10) O1 = .next (LL c s n (.lst zs) t (some (.int (j : Int))) (some (.str tx)) (some (.int mm)) (some (.lst [.int mm])) y10) O' := by simp [runF, sSeq, sIf, sNext, sDrop, sRet, sRetN, sAsg, ofRes, ofB, bName, bNil, bCons, bTup, bLst, bSubL, mTest, mOp, mVar, mC, mChain, mAnd, mOr, mNot, mIf, mAndV, mOrV, mNotV, mNeg, mCons, mNil, mTup, mLst, newL, mCall, mFn, arity, g1, g2, gLen, gInt, gAbs, gMax2, gMin2, gIx, seqOf, lsqOf, lstOf, Res.bind, ofO, gAdd_ok, gSub_ok, gEq_int, gNe_int, gLt_int, gLe_int, gGt_int, gGe_int, gEq_bl, gNe_bl, gEq_str, gNe_str, mIsi, mIsiT, tyD, kitL, kitTab, atI_c0, atI_c1, atI_c2, atI_c3, atI_c4, sForR1, int1, int2, mMeth, mMake, mFld, sFldM, gIs, gIsNot, isNon_t, sRaise, gList, newLO, e2]
      rw [seq_next a1, seq_next a2]
      simp [runF, sSeq, sIf, sNext, sDrop, sRet, sRetN, sAsg, ofRes, ofB, bName, bNil, bCons, bTup, bLst, bSubL, mTest, mOp, mVar, mC, mChain, mAnd, mOr, mNot, mIf, mAndV, mOrV, mNotV, mNeg, mCons, mNil, mTup, mLst, newL, mCall, mFn, arity, g1, g2, gLen, gInt, gAbs, gMax2, gMin2, gIx, seqOf, lsqOf, lstOf, Res.bind, ofO, gAdd_ok, gSub_ok, gEq_int, gNe_int, gLt_int, gLe_int, gGt_int, gGe_int, gEq_bl, gNe_bl, gEq_str, gNe_str, mIsi, mIsiT, tyD, kitL, kitTab, atI_c0, atI_c1, atI_c2, atI_c3, atI_c4, sForR1, int1, int2, mMeth, mMake, mFld, sFldM, gIs, gIsNot, isNon_t, sRaise, gList, newLO, hp2, hp3, ne2]
  obtain ⟨y8', y9', O2, e, f⟩ := fin
  refine ⟨LL c s n (.lst (ls'.map .str)) t (some (.int (j : Int))) (some (.str (txt ls'))) y8' y9' y10, O2, ?_, ⟨⟨_, ls', _, _, _, _, _, rfl, .inl rfl, .inl rfl, hl', ok'⟩, f.at (fr.at hn g), tk1.fz f⟩⟩
  show sSeq t0 (sSeq t1 (sSeq t2 (sSeq t3 t4))) (LL c s n d t (some (.int (j : Int))) y7 y8 y9 y10) O = _
  rw [seq_next s0, seq_next s1, e]
end
theorem law_holds (ns : List Int) (hl : ns.length ≤ 63) : ∃ O, f_law [.rol (ns.map D.int)] [] = .ok (.bl true) O := by
  generalize hcc : D.rol (ns.map D.int) = c
  have tk0 : Take 0 0 [.lst [c, .int 0, .int 0]] := ⟨ns, 0, 0, by rw [← hcc]; rfl, by omega, by omega, by omega, by omega⟩
  obtain ⟨v, O1, e1, v0, v1, t1, f1, l1⟩ := tk1 (m := 3) tk0 (by omega) (by omega) (by omega)
  rw [← y_take] at e1
  obtain ⟨s, hs, sok⟩ := pickS v0 v1
  have hs := hs O1
  obtain ⟨rows, O2, e2, g2, hr, rok, t2⟩ := law_rows_ok (O := O1) t1 (by omega)
  have hn : 0 < O1.length := by rw [l1]; simp
  have hB : ∀ r ∈ rows, RowB r := fun r h => (rok.all r h).b
  have hs12 := (nameB_len sok).2
  have e3 := law_lines_ok (O := O2) (n := O1.length) (s := s) g2 hB (by omega) hs12
  obtain ⟨fine, hh, hrr⟩ := fine_rows sok rok
  have okl : ∀ p ∈ ((("at " : Str) ++ s) :: rows.map lineR), LineOK 50 p := fun p hp => by
    rcases List.mem_cons.mp hp with rfl | hp
    · exact head_ok sok
    · obtain ⟨r, hr, rfl⟩ := List.mem_map.mp hp
      exact line_ok (rok.all r hr)
  have hlen : ((("at " : Str) ++ s) :: rows.map lineR).length ≤ 9 := by rw [List.length_cons, List.length_map]; omega
  have lenA : ((("at " : Str) ++ s) :: rows.map lineR).length = rows.length + 1 := by rw [List.length_cons, List.length_map]
  obtain ⟨A, l, hA⟩ : ∃ A l, ((("at " : Str) ++ s) :: rows.map lineR) = A ++ [l] := by
    rcases List.eq_nil_or_concat ((("at " : Str) ++ s) :: rows.map lineR) with h | ⟨A, l, h⟩
    · cases h
    · exact ⟨A, l, by rw [h, List.concat_eq_append]⟩
  have l0 : l ≠ "" := fun z => by
    have : l ∈ ((("at " : Str) ++ s) :: rows.map lineR) := by rw [hA]; simp
    rcases List.mem_cons.mp this with h | h
    · rw [z] at h
      have := congrArg Str.length h
      rw [Str.length_append] at this
      have h3 : ("at " : Str).length = 3 := rfl
      have h0 : ("" : Str).length = 0 := rfl
      omega
    · obtain ⟨r, hr, e⟩ := List.mem_map.mp h
      have := rowP_line (rok.all r hr)
      rw [e, z] at this
      exact absurd this (by show rowP [("" : Str)] ≠ some r; intro q; cases q)
  have e4 := format_ok (O := O2 ++ [.lst (((("at " : Str) ++ s) :: rows.map lineR).map .str)]) (s := s) (d := .lst (rows.map r4D)) (rows := rows) rfl hB (by omega) hs12
  generalize hLS : ((("at " : Str) ++ s) :: rows.map lineR) = ls at *
  have g3 : (O2 ++ [.lst (ls.map .str)])[O1.length]? = some (.lst (rows.map r4D)) := by rw [List.getElem?_append_left (List.getElem?_eq_some_iff.mp g2).1]; exact g2
  have t3 : Take 51 0 (O2 ++ [.lst (ls.map .str)]) := t2.fz fz_app
  have h2pos : 0 < O2.length := Nat.lt_of_le_of_lt (Nat.zero_le _) (List.getElem?_eq_some_iff.mp g2).1
  have il : IsL (O2 ++ [.lst (ls.map .str)]) (.hdl O2.length) ls := .inr ⟨_, h2pos, rfl, by simp⟩
  have j1 := jnE_ok (c := c) (s := s) (n := O1.length) (t := txt ls) (y6 := none) (y7 := none) (y8 := none) (y9 := none) (y10 := none) il (by omega) okl (by omega)
  have rd : f_law_read [.str (txt ls)] (O2 ++ [.lst (ls.map .str)]) = .ok (.tup [.str s, .hdl (O2 ++ [Ob.lst (ls.map D.str)]).length]) ((O2 ++ [.lst (ls.map .str)]) ++ [.lst (rows.map r4D)]) := by
    rcases DK.k39.read_ok (O := O2 ++ [.lst (ls.map .str)]) okl (by omega) (by omega) with ⟨f, e⟩ | ⟨k, O', bk, _⟩
    · rw [hh, hrr] at e
      exact e
    · exact absurd fine (fun f => bad_fine bk f)
  have gl3 : gList false (O2 ++ [.lst (ls.map .str)]) (.hdl O1.length) = some (.lst (rows.map r4D), O2 ++ [.lst (ls.map .str)]) := by
    have hz : (rows.map r4D).length ≤ 1000000 := by rw [List.length_map]; omega
    generalize O2 ++ [.lst (ls.map .str)] = Q at *
    generalize rows.map r4D = zr at *
    simp [gList, newLO, seqOf, lsqOf, lstOf, g3, hz]
  have nesh : gNe ((O2 ++ [.lst (ls.map .str)]) ++ [.lst (rows.map r4D)]) (.tup [.str s, .hdl (O2 ++ [Ob.lst (ls.map D.str)]).length]) (.tup [.str s, .hdl O1.length]) = some (.bl false, (O2 ++ [.lst (ls.map .str)]) ++ [.lst (rows.map r4D)]) :=
    neSheet (rows := rows) (by simp) (by rw [List.getElem?_append_left (List.getElem?_eq_some_iff.mp g3).1]; exact g3) (name_sg sok).ok fun r hr => by
      have q := rok.all r hr
      refine ⟨?_, (name_sg q.nm).ok, fun f hf => ?_⟩
      · rcases q.kd with ⟨e, _⟩ | ⟨e | e, _⟩ <;> rw [e] <;> decide +kernel
      · rcases q.kd with ⟨_, f', e, q'⟩ | ⟨_, e⟩
        · rw [hf] at e; cases e; exact (name_sg q').ok
        · rw [hf] at e; cases e
  have g4 : ((O2 ++ [.lst (ls.map .str)]) ++ [.lst (rows.map r4D)])[O1.length]? = some (.lst (rows.map r4D)) := by rw [List.getElem?_append_left (List.getElem?_eq_some_iff.mp g3).1]; exact g3
  have t4' : Take 51 0 ((O2 ++ [.lst (ls.map .str)]) ++ [.lst (rows.map r4D)]) := t3.fz fz_app
  have il4 : IsL ((O2 ++ [.lst (ls.map .str)]) ++ [.lst (rows.map r4D)]) (.hdl O2.length) ls := il.fz fz_app
  obtain ⟨L5, O5, e5, ti⟩ := loopD_keeps (turn := turnOf (bName 6) tT) (I := TI 51 c s O1.length (txt ls) rows) (rangeD 0 2) 0 (LL c s O1.length (.hdl O2.length) (txt ls) none none none none none) ((O2 ++ [.lst (ls.map .str)]) ++ [.lst (rows.map r4D)])
    ⟨⟨_, ls, _, _, _, _, _, rfl, il4, .inr (by rw [hA]; simp), by omega, okl⟩, g4, t4'⟩ fun j d L O hd h => by
      obtain ⟨hj, rfl⟩ := range_at hd
      rw [Nat.zero_add] at h ⊢
      rw [Int.zero_add]
      exact law_turn hn hj (by omega) h
  obtain ⟨⟨d, ls', y6, y7, y8, y9, y10, rfl, _⟩, g5, _⟩ := ti
  have ro := read_open (O := O5) (m := 50) (A := A) (l := l) (by rw [← hA]; exact okl) (by omega) (by rw [hA, List.length_append, List.length_singleton] at hlen; omega) l0
  rw [← hA] at ro
  have hAl : A.length + 1 = rows.length + 1 := by rw [hA, List.length_append, List.length_singleton] at lenA; omega
  rw [hAl] at ro
  obtain ⟨O6, e6, _⟩ := read_nil (O := O5)
  have tl : (txt ls).length ≤ 1000000 := by
    have := txt_len (A := ls) (m := 50) fun p hp => (okl p hp).len
    have : ls.length * 51 ≤ 9 * 51 := Nat.mul_le_mul_right _ hlen
    omega
  have gls : gLen O5 (.hdl O1.length) = some (.int (rows.length : Int), O5) := by simp [gLen, g5]
  have q1 := eqLI (O := O5) (v := (rows.length : Int) + 1)
  have q2 := eqLI (O := O6) (v := 1)
  rw [show (((rows.length + 1 : Nat)) : Int) = (rows.length : Int) + 1 by omega] at ro
  refine ⟨O6, ?_⟩
  have a0 : sAsg (mLst true (mCons (mVar 0) (mCons (mC (.int 0)) (mCons (mC (.int 0)) mNil)))) (bName 1) [some c, none, none, none, none, none, none, none, none, none, none] [] = .next [some c, some (.hdl 0), none, none, none, none, none, none, none, none, none] [.lst [c, .int 0, .int 0]] := by simp [runF, sSeq, sIf, sNext, sDrop, sRet, sRetN, sAsg, ofRes, ofB, bName, bNil, bCons, bTup, bLst, bSubL, mTest, mOp, mVar, mC, mChain, mAnd, mOr, mNot, mIf, mAndV, mOrV, mNotV, mNeg, mCons, mNil, mTup, mLst, newL, mCall, mFn, arity, g1, g2, gLen, gInt, gAbs, gMax2, gMin2, gIx, seqOf, lsqOf, lstOf, Res.bind, ofO, gAdd_ok, gSub_ok, gEq_int, gNe_int, gLt_int, gLe_int, gGt_int, gGe_int, gEq_bl, gNe_bl, gEq_str, gNe_str, mIsi, mIsiT, tyD, kitL, kitTab, atI_c0, atI_c1, atI_c2, atI_c3, atI_c4, sForR1, int1, int2, mMeth, mMake, mFld, sFldM, gIs, gIsNot, isNon_t, sRaise, gList, newLO]
  have a1 : lw1 [some c, some (.hdl 0), none, none, none, none, none, none, none, none, none] [.lst [c, .int 0, .int 0]] = .next [some c, some (.hdl 0), some (.str s), none, none, none, none, none, none, none, none] O1 := by simp [runF, sSeq, sIf, sNext, sDrop, sRet, sRetN, sAsg, ofRes, ofB, bName, bNil, bCons, bTup, bLst, bSubL, mTest, mOp, mVar, mC, mChain, mAnd, mOr, mNot, mIf, mAndV, mOrV, mNotV, mNeg, mCons, mNil, mTup, mLst, newL, mCall, mFn, arity, g1, g2, gLen, gInt, gAbs, gMax2, gMin2, seqOf, lsqOf, lstOf, Res.bind, ofO, gAdd_ok, gSub_ok, gEq_int, gNe_int, gLt_int, gLe_int, gGt_int, gGe_int, gEq_bl, gNe_bl, gEq_str, gNe_str, mIsi, mIsiT, tyD, kitL, kitTab, atI_c0, atI_c1, atI_c2, atI_c3, atI_c4, sForR1, int1, int2, mMeth, mMake, mFld, sFldM, gIs, gIsNot, isNon_t, sRaise, gList, newLO, e1, hs]
  have a2 : lw2 [some c, some (.hdl 0), some (.str s), none, none, none, none, none, none, none, none] O1 = .next [some c, some (.hdl 0), some (.str s), some (.hdl O1.length), none, none, none, none, none, none, none] O2 := by simp [runF, sSeq, sIf, sNext, sDrop, sRet, sRetN, sAsg, ofRes, ofB, bName, bNil, bCons, bTup, bLst, bSubL, mTest, mOp, mVar, mC, mChain, mAnd, mOr, mNot, mIf, mAndV, mOrV, mNotV, mNeg, mCons, mNil, mTup, mLst, newL, mCall, mFn, arity, g1, g2, gLen, gInt, gAbs, gMax2, gMin2, gIx, seqOf, lsqOf, lstOf, Res.bind, ofO, gAdd_ok, gSub_ok, gEq_int, gNe_int, gLt_int, gLe_int, gGt_int, gGe_int, gEq_bl, gNe_bl, gEq_str, gNe_str, mIsi, mIsiT, tyD, kitL, kitTab, atI_c0, atI_c1, atI_c2, atI_c3, atI_c4, sForR1, int1, int2, mMeth, mMake, mFld, sFldM, gIs, gIsNot, isNon_t, sRaise, gList, newLO, e2]
  have a3 : lw3 [some c, some (.hdl 0), some (.str s), some (.hdl O1.length), none, none, none, none, none, none, none] O2 = .next [some c, some (.hdl 0), some (.str s), some (.hdl O1.length), some (.hdl O2.length), none, none, none, none, none, none] (O2 ++ [.lst (ls.map .str)]) := by
    generalize ls.map D.str = zs at *
    simp [runF, sSeq, sIf, sNext, sDrop, sRet, sRetN, sAsg, ofRes, ofB, bName, bNil, bCons, bTup, bLst, bSubL, mTest, mOp, mVar, mC, mChain, mAnd, mOr, mNot, mIf, mAndV, mOrV, mNotV, mNeg, mCons, mNil, mTup, mLst, newL, mCall, mFn, arity, g1, g2, gLen, gInt, gAbs, gMax2, gMin2, gIx, seqOf, lsqOf, lstOf, Res.bind, ofO, gAdd_ok, gSub_ok, gEq_int, gNe_int, gLt_int, gLe_int, gGt_int, gGe_int, gEq_bl, gNe_bl, gEq_str, gNe_str, mIsi, mIsiT, tyD, kitL, kitTab, atI_c0, atI_c1, atI_c2, atI_c3, atI_c4, sForR1, int1, int2, mMeth, mMake, mFld, sFldM, gIs, gIsNot, isNon_t, sRaise, gList, newLO, e3]
  have a4 : lw4 [some c, some (.hdl 0), some (.str s), some (.hdl O1.length), some (.hdl O2.length), none, none, none, none, none, none] (O2 ++ [.lst (ls.map .str)]) = .next (LL c s O1.length (.hdl O2.length) (txt ls) none none none none none) (O2 ++ [.lst (ls.map .str)]) := by
    clear j1 rd nesh il il4 e5
    generalize O2 ++ [.lst (ls.map .str)] = Q at *
    generalize rows.map r4D = zr at *
    generalize txt ls = tx at *
    simp [sAsg, mFn, arity, mCons, mNil, mCall, DK.g1, mVar, mC, ofRes, ofB, ofO, Res.bind, bName, gl3, e4]
  have a5 : lw5 (LL c s O1.length (.hdl O2.length) (txt ls) none none none none none) (O2 ++ [.lst (ls.map .str)]) = .next (LL c s O1.length (.hdl O2.length) (txt ls) none none none none none) ((O2 ++ [.lst (ls.map .str)]) ++ [.lst (rows.map r4D)]) := by
    clear il il4 e5 e4
    show sIf (mOr (mTest (mOp gNe (mVar 5) jnE)) (mTest (mOp gNe (mFn (arity 1 f_law_read) [] (mCons (mVar 5) mNil)) (mTup (mCons (mVar 2) (mCons (mVar 3) mNil)))))) (sRet (mC (.bl false))) sNext _ _ = _
    generalize jnE = je at *
    generalize (O2 ++ [.lst (ls.map .str)]) ++ [.lst (rows.map r4D)] = Q2 at *
    generalize (O2 ++ [Ob.lst (ls.map D.str)]).length = q at *
    generalize O2 ++ [.lst (ls.map .str)] = Q at *
    generalize txt ls = tx at *
    simp [runF, sSeq, sIf, sNext, sDrop, sRet, sRetN, sAsg, ofRes, ofB, bName, bNil, bCons, bTup, bLst, bSubL, mTest, mOp, mVar, mC, mChain, mAnd, mOr, mNot, mIf, mAndV, mOrV, mNotV, mNeg, mCons, mNil, mTup, mLst, newL, mCall, mFn, arity, g1, g2, gLen, gInt, gAbs, gMax2, gMin2, gIx, seqOf, lsqOf, lstOf, Res.bind, ofO, gAdd_ok, gSub_ok, gEq_int, gNe_int, gLt_int, gLe_int, gGt_int, gGe_int, gEq_bl, gNe_bl, gEq_str, gNe_str, mIsi, mIsiT, tyD, kitL, kitTab, atI_c0, atI_c1, atI_c2, atI_c3, atI_c4, sForR1, int1, int2, mMeth, mMake, mFld, sFldM, gIs, gIsNot, isNon_t, sRaise, gList, newLO, j1, rd, nesh]
  have a6 : sForR1 (mCons (mC (.int 2)) mNil) (bName 6) tT (LL c s O1.length (.hdl O2.length) (txt ls) none none none none none) ((O2 ++ [.lst (ls.map .str)]) ++ [.lst (rows.map r4D)]) = .next (LL c s O1.length d (txt ls) y6 y7 y8 y9 y10) O5 := e5
  have a7 : lw7 (LL c s O1.length d (txt ls) y6 y7 y8 y9 y10) O5 = .ret (.bl true) O6 := by
    clear a0 a1 a2 a3 a4 a5 a6 e5 j1 rd e4
    have sl : gSl false (.str (txt ls)) none (some (-1)) O5 = .ok (.str (cutS (txt ls) none (some (-1)))) O5 := by
      show (if (txt ls).length ≤ 1000000 then Res.ok (D.str (cutS (txt ls) none (some (-1)))) O5 else .bad) = _
      rw [if_pos tl]
    generalize cutS (txt ls) none (some (-1)) = cx at *
    generalize txt ls = tx at *
    generalize (rows.length : Int) = rn at *
    simp [mSl, oNone, oSome, sAsg, sRet, mAndV, truD, mOp, mNeg, mLst, newL, mFn, arity, mCons, mNil, mCall, DK.g1, mVar, mC, ofRes, ofB, ofO, Res.bind, gAdd_ok, sl, ro, gls, q1, q2, e6]
  show (match b_law [some c, none, none, none, none, none, none, none, none, none, none] [] with
    | .next _ O1 => Res.ok D.non O1
    | .ret d O1 => .ok d O1
    | .exc x _ O1 => .exc x O1
    | _ => .bad) = _
  rw [law_is, seq_next a0, seq_next a1, seq_next a2, seq_next a3, seq_next a4, seq_next a5, seq_next a6, a7]
end DK.k39
end
theorem PySem.Challenge.cw_darkrise_k39_sheet_texts_there_and_back_holds : PySem.Challenge.rw_darkrise_k39_sheet_texts_there_and_back.Holds := by
  exact DK.k39.core DK.k39.law_holds
