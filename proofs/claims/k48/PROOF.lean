import PyProof.Rows.All
import Wide.All
import OpenK.AllK
import Wide.FinOn
import HandS.ForMost
import HandS.ForExc
import HandS.IsInst
import HandS.Wide
import HandS.CallSlots
import HandS.ExcIs
import HandS.Small
import HandS.RaiseMore
import HandS.TupAny
import HandS.SortOrd
import HandS.Flow
import HandS.Deep
import HandS.Defaults
import HandS.Head0
import HandS.Head1
import HandS.Head2
import HandS.HeadEnd
import HandS.HeadHook1
import HandS.HeadHook2
import HandS.HeadHook3
import HandS.HeadHook4
import KE.KExcSuper
import HandS.ExcInit
import HandS.ExcField
import PyProof.ExcBaseAll.ValueError
import HandS.Text
import HandS.Iter
import HandS.Replace
import HandS.StrMore
import HandS.More
import HandS.Dict
import HandS.Conv
import HandS.SortInts
import HandS.DictTup
import HandS.Rev
import PyProof.ListRange
import HandS.OwnEq
import KE.DataFind
import HandS.TryMany
import KE.SortData
import KE.DataMinMax
import HandS.DictComp
import HandS.Strs
import HandS.SetBool
import HandS.Style
import KE.DataCmp
import KE.DataEq
import HandS.DeepEq
import HandS.SetKeys
import PyProof.NeKinds
import HandS.ListEq
import HandS.ExcCtx
import HandS.ExcInitHot
import HandS.SuiteRaise
import HandS.RaiseFrom
import KE.KAsSuite
import HandS.ReplaceLit
import KE.IntTextLaws
import PyProof.StrLaws
import PyProof.StrLawsChain
import PyProof.StrLawsTight
import PyProof.StrLawsReplace
import KE.KIntText
import KE.IntTextText
import PyProof.Rows.StrJoinMade
import PySem.Challenge.RW_darkrise_k48_notice_texts_there_and_back
section
set_option Elab.async false
set_option linter.all false
set_option autoImplicit false
set_option maxRecDepth 100000
set_option maxHeartbeats 4000000
/-! DKCore: values D, stores of objects, results; readings that are told by functions (mirrors). -/
namespace DK
open PySem L2
/-- a value of the mirror: lst, tup stand as they are for good; hdl n is the n-th object of the store -/
inductive D where
  | non
  | bl (b : Bool)
  | int (i : Int)
  | str (s : Str)
  | lst (xs : List D)
  | rol (xs : List D)
  | tup (xs : List D)
  | hdl (n : Nat)
inductive Ob where
  | lst (xs : List D)
  | dct (kvs : List (Key × D))
  | ins (c : Str) (fs : List (Str × D))
  | dead
  | fdc (kvs : List (Key × D))
abbrev Store := List Ob
abbrev Loc := List (Option D)
structure Exn where
  cls : Str
  fs : Option (List (Str × D)) := none
inductive Res (α : Type) where
  | ok (a : α) (O : Store)
  | exc (x : Exn) (O : Store)
  | bad
def Res.bind {α β : Type} (x : Res α) (f : α → Store → Res β) : Res β := match x with
  | .ok a O => f a O
  | .exc e O => .exc e O
  | .bad => .bad
abbrev EM := Loc → Store → Res D
abbrev TM := Loc → Store → Res Bool
abbrev AM := Loc → Store → Res (List D)
abbrev FM := List D → Store → Res D
inductive SR where
  | next (L : Loc) (O : Store)
  | ret (d : D) (O : Store)
  | brk (L : Loc) (O : Store)
  | cnt (L : Loc) (O : Store)
  | exc (x : Exn) (L : Loc) (O : Store)
  | bad
abbrev SM := Loc → Store → SR
/-- where the objects of the store stand; what else is kept -/
structure Rg where
  l : List Addr
  fr : Hp
def Rg.push (r : Rg) (p : Addr) : Rg := ⟨r.l ++ [p], r.fr⟩
/-! ### what stands for what -/
section
variable (K : PySem.W.Frag) (S : Hp) (r : Rg)
mutual
def Rp : D → V → Prop
  | .non, v => v = .non
  | .bl b, v => v = .bl b
  | .int i, v => v = .int i
  | .str s, v => v = .str s
  | .lst ds, v => ∃ a vs, v = .ref a ∧ S a = some (.lst vs) ∧ RpAll ds vs
  | .rol ds, v => ∃ a vs, v = .ref a ∧ SqL K S a vs ∧ RpAll ds vs
  | .tup ds, v => ∃ a vs, v = .ref a ∧ SqT K S a vs ∧ RpAll ds vs
  | .hdl n, v => ∃ a, v = .ref a ∧ r.l[n]? = some a
def RpAll : List D → List V → Prop
  | [], vs => vs = []
  | d :: ds, vs => ∃ v vr, vs = v :: vr ∧ Rp d v ∧ RpAll ds vr
end
def RpP {κ : Type} : List (κ × D) → List (κ × V) → Prop
  | [], ks => ks = []
  | kd :: kds, ks => ∃ v kr, ks = (kd.1, v) :: kr ∧ Rp K S r kd.2 v ∧ RpP kds kr
end
/-- the state grows -/
structure Ext (S : Hp) (r : Rg) (S' : Hp) (r' : Rg) : Prop where
  s : Same S S'
  f : r'.fr = r.fr
  r : r.l <+: r'.l
theorem Ext.refl (S : Hp) (r : Rg) : Ext S r S r := ⟨Same.refl S, rfl, List.prefix_rfl⟩
theorem Ext.trans {S S1 S2 : Hp} {r r1 r2 : Rg} (a : Ext S r S1 r1) (b : Ext S1 r1 S2 r2) : Ext S r S2 r2 := ⟨a.s.trans b.s, b.f.trans a.f, a.r.trans b.r⟩
theorem Ext.new {S : Hp} {r : Rg} {p : Addr} {o : HO} (h : S p = none) : Ext S r (upd S p o) r :=
  ⟨fun b u e => by rw [upd_ne (ne_of_none e h)]; exact e, rfl, List.prefix_rfl⟩
theorem rd_same {S S' : Hp} {a : Addr} {u : HO} (e : Same S S') (h : Rd S a u) : Rd S' a u := by
  rcases h with h | ⟨o, h⟩
  · exact .inl (e _ _ h)
  · exact .inr ⟨o, e _ _ h⟩
theorem sqL_same {K : PySem.W.Frag} {S S' : Hp} {a : Addr} {xs : List V} (e : Same S S') (h : SqL K S a xs) : SqL K S' a xs := by
  rcases h with h | h
  · exact .inl (rd_same e h)
  · exact .inr h
theorem sqT_same {K : PySem.W.Frag} {S S' : Hp} {a : Addr} {xs : List V} (e : Same S S') (h : SqT K S a xs) : SqT K S' a xs := by
  rcases h with h | h
  · exact .inl (rd_same e h)
  · exact .inr h
theorem pre_get {α : Type} {l m : List α} {n : Nat} {x : α} (p : l <+: m) (h : l[n]? = some x) : m[n]? = some x := by
  obtain ⟨t, rfl⟩ := p
  rw [List.getElem?_append_left (List.getElem?_eq_some_iff.mp h).1]
  exact h
section
variable {K : PySem.W.Frag} {S S' : Hp} {r r' : Rg}
mutual
theorem Rp.monoW (s : Same S S') (l : r.l <+: r'.l) : ∀ (d : D) (v : V), Rp K S r d v → Rp K S' r' d v
  | .non, v, h => h
  | .bl b, v, h => h
  | .int i, v, h => h
  | .str z, v, h => h
  | .lst ds, v, h => by
    obtain ⟨a, vs, q1, q2, q3⟩ := h
    exact ⟨a, vs, q1, s _ _ q2, RpAll.monoW s l ds vs q3⟩
  | .rol ds, v, h => by
    obtain ⟨a, vs, q1, q2, q3⟩ := h
    exact ⟨a, vs, q1, sqL_same s q2, RpAll.monoW s l ds vs q3⟩
  | .tup ds, v, h => by
    obtain ⟨a, vs, q1, q2, q3⟩ := h
    exact ⟨a, vs, q1, sqT_same s q2, RpAll.monoW s l ds vs q3⟩
  | .hdl n, v, h => by
    obtain ⟨a, q1, q2⟩ := h
    exact ⟨a, q1, pre_get l q2⟩
theorem RpAll.monoW (s : Same S S') (l : r.l <+: r'.l) : ∀ (ds : List D) (vs : List V), RpAll K S r ds vs → RpAll K S' r' ds vs
  | [], vs, h => h
  | d :: ds, vs, h => by
    obtain ⟨v, vr, q1, q2, q3⟩ := h
    exact ⟨v, vr, q1, Rp.monoW s l d v q2, RpAll.monoW s l ds vr q3⟩
end
theorem Rp.mono (e : Ext S r S' r') (d : D) (v : V) (h : Rp K S r d v) : Rp K S' r' d v := Rp.monoW e.s e.r d v h
theorem RpAll.mono (e : Ext S r S' r') (ds : List D) (vs : List V) (h : RpAll K S r ds vs) : RpAll K S' r' ds vs := RpAll.monoW e.s e.r ds vs h
theorem RpP.monoW {κ : Type} (s : Same S S') (l : r.l <+: r'.l) : ∀ (ds : List (κ × D)) (vs : List (κ × V)), RpP K S r ds vs → RpP K S' r' ds vs
  | [], vs, h => h
  | d :: ds, vs, h => by
    obtain ⟨v, vr, q1, q2, q3⟩ := h
    exact ⟨v, vr, q1, Rp.monoW s l d.2 v q2, RpP.monoW s l ds vr q3⟩
theorem RpP.mono {κ : Type} (e : Ext S r S' r') (ds : List (κ × D)) (vs : List (κ × V)) (h : RpP K S r ds vs) : RpP K S' r' ds vs := RpP.monoW e.s e.r ds vs h
theorem RpAll.length : ∀ {ds : List D} {vs : List V}, RpAll K S r ds vs → vs.length = ds.length
  | [], vs, h => by rw [show vs = [] from h]; rfl
  | d :: ds, vs, h => by
    obtain ⟨v, vr, rfl, _, q3⟩ := h
    rw [List.length_cons, List.length_cons, RpAll.length q3]
theorem RpAll.get : ∀ {ds : List D} {vs : List V} {i : Nat} {d : D}, RpAll K S r ds vs → ds[i]? = some d → ∃ v, vs[i]? = some v ∧ Rp K S r d v
  | [], _, i, d, _, e => by simp at e
  | x :: ds, vs, 0, d, h, e => by
    obtain ⟨v, vr, rfl, q, _⟩ := h
    obtain rfl : x = d := by simpa using e
    exact ⟨v, rfl, q⟩
  | x :: ds, vs, i + 1, d, h, e => by
    obtain ⟨v, vr, rfl, _, q⟩ := h
    exact RpAll.get (i := i) q (by simpa using e)
/-- from the other side -/
theorem RpAll.back : ∀ {ds : List D} {vs : List V} {i : Nat} {v : V}, RpAll K S r ds vs → vs[i]? = some v → ∃ d, ds[i]? = some d ∧ Rp K S r d v
  | [], vs, i, v, h, e => by
    rw [show vs = [] from h] at e
    simp at e
  | x :: ds, vs, 0, d, h, e => by
    obtain ⟨v, vr, rfl, q, _⟩ := h
    obtain rfl : v = d := by simpa using e
    exact ⟨x, rfl, q⟩
  | x :: ds, vs, i + 1, d, h, e => by
    obtain ⟨v, vr, rfl, _, q⟩ := h
    exact RpAll.back (i := i) q (by simpa using e)
theorem RpAll.append : ∀ {ds es : List D} {vs us : List V}, RpAll K S r ds vs → RpAll K S r es us → RpAll K S r (ds ++ es) (vs ++ us)
  | [], es, vs, us, h, g => by
    rw [show vs = [] from h]
    exact g
  | d :: ds, es, vs, us, h, g => by
    obtain ⟨v, vr, rfl, q, q2⟩ := h
    exact ⟨v, vr ++ us, rfl, q, q2.append g⟩
theorem RpAll.take : ∀ {ds : List D} {vs : List V} (n : Nat), RpAll K S r ds vs → RpAll K S r (ds.take n) (vs.take n)
  | ds, vs, 0, h => by
    rw [List.take_zero, List.take_zero]
    exact rfl
  | [], vs, n + 1, h => by
    rw [show vs = [] from h]
    exact rfl
  | d :: ds, vs, n + 1, h => by
    obtain ⟨v, vr, rfl, q, q2⟩ := h
    exact ⟨v, vr.take n, rfl, q, q2.take n⟩
theorem RpAll.drop : ∀ {ds : List D} {vs : List V} (n : Nat), RpAll K S r ds vs → RpAll K S r (ds.drop n) (vs.drop n)
  | ds, vs, 0, h => by
    rw [List.drop_zero, List.drop_zero]
    exact h
  | [], vs, n + 1, h => by
    rw [show vs = [] from h]
    exact rfl
  | d :: ds, vs, n + 1, h => by
    obtain ⟨v, vr, rfl, q, q2⟩ := h
    exact q2.drop n
theorem RpAll.set : ∀ {ds : List D} {vs : List V} {d : D} {v : V} (i : Nat), RpAll K S r ds vs → Rp K S r d v → RpAll K S r (ds.set i d) (vs.set i v)
  | [], vs, d, v, i, h, _ => by
    rw [show vs = [] from h]
    exact rfl
  | x :: ds, vs, d, v, 0, h, g => by
    obtain ⟨u, vr, rfl, q, q2⟩ := h
    exact ⟨v, vr, rfl, g, q2⟩
  | x :: ds, vs, d, v, i + 1, h, g => by
    obtain ⟨u, vr, rfl, q, q2⟩ := h
    exact ⟨u, vr.set i v, rfl, q, q2.set i g⟩
theorem RpAll.nil : RpAll K S r [] [] := rfl
theorem RpAll.cons {d : D} {v : V} {ds : List D} {vs : List V} (h : Rp K S r d v) (g : RpAll K S r ds vs) : RpAll K S r (d :: ds) (v :: vs) := ⟨v, vs, rfl, h, g⟩
end
/-! ### the state -/
section
variable (K : PySem.W.Frag) (ad : Str → Addr) (S : Hp) (r : Rg)
def RO (H : Hp) (a : Addr) : Ob → Prop
  | .lst ds => S a = none ∧ ∃ vs, H a = some (.lst vs) ∧ RpAll K S r ds vs
  | .dct kvs => S a = none ∧ ∃ ks, H a = some (.dK ks) ∧ RpP K S r kvs ks
  | .ins c fs => S a = none ∧ ∃ dx gs, H a = some (.ins (ad c) dx gs) ∧ RpP K S r fs gs
  | .dead => ∃ o, H a = some o
  | .fdc kvs => ∃ od ks, S a = some (.frz od (.dK ks)) ∧ H a = some (.frz od (.dK ks)) ∧ RpP K S r kvs ks
structure Rs (O : Store) (H : Hp) : Prop where
  sub : Same S H
  len : r.l.length = O.length
  nd : r.l.Nodup
  ob : ∀ (n : Nat) (a : Addr) (o : Ob), r.l[n]? = some a → O[n]? = some o → RO K ad S r H a o
  fr : Same r.fr H
  off : ∀ (a : Addr) (o : HO), r.fr a = some o → S a = none ∧ a ∉ r.l
/-- the slots -/
structure Rl (L : Loc) (σ : St) : Prop where
  len : σ.length = L.length
  at_ : ∀ (i : Nat) (d : D), L[i]? = some (some d) → ∃ v, σ[i]? = some (some v) ∧ Rp K S r d v
/-- an exception: its own dict stands for good -/
def ExR (x : Exn) (d : Option Addr) : Prop := match x.fs with
  | none => d = none
  | some fs => ∃ dd gs, d = some dd ∧ S dd = some (.xd gs) ∧ RpP K S r fs gs
end
section
variable {K : PySem.W.Frag} {ad : Str → Addr} {S S' : Hp} {r r' : Rg} {L : Loc} {σ : St} {O : Store} {H : Hp}
theorem Rl.mono (e : Ext S r S' r') (h : Rl K S r L σ) : Rl K S' r' L σ := ⟨h.len, fun i d q => by
  obtain ⟨v, q1, q2⟩ := h.at_ i d q
  exact ⟨v, q1, Rp.mono e d v q2⟩⟩
theorem RO.there {a : Addr} {o : Ob} (h : RO K ad S r H a o) : ∃ u, H a = some u := by
  cases o with
  | lst ds => obtain ⟨_, vs, q, _⟩ := h; exact ⟨_, q⟩
  | dct kvs => obtain ⟨_, vs, q, _⟩ := h; exact ⟨_, q⟩
  | ins c fs => obtain ⟨_, _, vs, q, _⟩ := h; exact ⟨_, q⟩
  | dead => exact h
  | fdc kvs => obtain ⟨od, ks, z, q, p⟩ := h; exact ⟨_, q⟩
theorem Rs.fresh (h : Rs K ad S r O H) {p : Addr} (hp : H p = none) : S p = none := h.sub.free hp
theorem Rs.notin (h : Rs K ad S r O H) {p : Addr} (hp : H p = none) : p ∉ r.l := fun hm => by
  obtain ⟨n, hn, e⟩ := List.getElem_of_mem hm
  have hO : n < O.length := by rw [← h.len]; exact hn
  obtain ⟨u, q⟩ := (h.ob n p O[n] (by rw [List.getElem?_eq_getElem hn, e]) (List.getElem?_eq_getElem hO)).there
  rw [hp] at q
  cases q
theorem RO.mono {a : Addr} {o : Ob} {H' : Hp} (e : Ext S r S' r') (k : ∀ u, H a = some u → H' a = some u) (n : S a = none → S' a = none) (h : RO K ad S r H a o) : RO K ad S' r' H' a o := by
  cases o with
  | lst ds => obtain ⟨z, vs, q, p⟩ := h; exact ⟨n z, vs, k _ q, RpAll.mono e _ _ p⟩
  | dct kvs => obtain ⟨z, vs, q, p⟩ := h; exact ⟨n z, vs, k _ q, RpP.mono e _ _ p⟩
  | ins c fs => obtain ⟨z, dx, vs, q, p⟩ := h; exact ⟨n z, dx, vs, k _ q, RpP.mono e _ _ p⟩
  | dead => obtain ⟨u, q⟩ := h; exact ⟨u, k _ q⟩
  | fdc kvs => obtain ⟨od, ks, z, q, p⟩ := h; exact ⟨od, ks, e.s _ _ z, k _ q, RpP.mono e _ _ p⟩
theorem same_upd {H' : Hp} {p : Addr} {o : HO} (h : Same H' H) (hp : H' p = none) : Same H' (upd H p o) := fun b u e => by
  rw [upd_ne (ne_of_none e hp)]
  exact h b u e
/-- a new thing that stands for good -/
theorem Rs.seal {p : Addr} {o : HO} (h : Rs K ad S r O H) (hp : H p = none) : Rs K ad (upd S p o) r O (upd H p o) where
  sub := fun b u e => by
    by_cases hb : b = p
    · rw [hb, upd_same] at e ⊢; exact e
    · rw [upd_ne hb] at e ⊢; exact h.sub b u e
  len := h.len
  nd := h.nd
  ob := fun n a ob e1 e2 => by
    have ne : a ≠ p := fun z => h.notin hp (by rw [← z]; exact List.mem_of_getElem? e1)
    exact (h.ob n a ob e1 e2).mono (Ext.new (h.fresh hp)) (fun u q => by rw [upd_ne ne]; exact q) (fun q => by rw [upd_ne ne]; exact q)
  fr := same_upd h.fr (h.fr.free hp)
  off := fun a u e => by
    have ne : a ≠ p := ne_of_none e (h.fr.free hp)
    rw [upd_ne ne]
    exact h.off a u e
/-- a thing that nobody knows -/
theorem Rs.junk {p : Addr} {o : HO} (h : Rs K ad S r O H) (hp : H p = none) : Rs K ad S r O (upd H p o) where
  sub := same_upd h.sub (h.fresh hp)
  len := h.len
  nd := h.nd
  ob := fun n a ob e1 e2 => by
    have ne : a ≠ p := fun z => h.notin hp (by rw [← z]; exact List.mem_of_getElem? e1)
    exact (h.ob n a ob e1 e2).mono (Ext.refl S r) (fun u q => by rw [upd_ne ne]; exact q) (fun q => q)
  fr := same_upd h.fr (h.fr.free hp)
  off := h.off
theorem Ext.push (S : Hp) (r : Rg) (p : Addr) : Ext S r S (r.push p) := ⟨Same.refl S, rfl, List.prefix_append r.l [p]⟩
theorem RO.grow {a p : Addr} {o : Ob} (h : RO K ad S r H a o) : RO K ad S (r.push p) H a o :=
  h.mono (Ext.push S r p) (fun _ q => q) (fun q => q)
/-- a new object of the store -/
theorem Rs.push {p : Addr} {u : HO} {o : Ob} (h : Rs K ad S r O H) (hp : H p = none) (ho : RO K ad S (r.push p) (upd H p u) p o) : Rs K ad S (r.push p) (O ++ [o]) (upd H p u) where
  sub := (h.junk (o := u) hp).sub
  len := by
    show (r.l ++ [p]).length = _
    rw [List.length_append, List.length_append, h.len]; rfl
  nd := by
    show (r.l ++ [p]).Nodup
    rw [List.nodup_append]
    refine ⟨h.nd, by simp, fun a ha b hb => ?_⟩
    obtain rfl : b = p := by simpa using hb
    exact fun z => h.notin hp (z ▸ ha)
  ob := fun n a ob e1 e2 => by
    replace e1 : (r.l ++ [p])[n]? = some a := e1
    by_cases hn : n < r.l.length
    · rw [List.getElem?_append_left hn] at e1
      rw [List.getElem?_append_left (by rw [← h.len]; exact hn)] at e2
      exact ((h.junk (o := u) hp).ob n a ob e1 e2).grow
    · have hn' : n = r.l.length := by
        have := (List.getElem?_eq_some_iff.mp e1).1
        rw [List.length_append] at this
        simp at this
        omega
      subst hn'
      rw [List.getElem?_append_right (Nat.le_refl _)] at e1
      rw [h.len, List.getElem?_append_right (Nat.le_refl _)] at e2
      simp at e1 e2
      subst e1 e2
      exact ho
  fr := same_upd h.fr (h.fr.free hp)
  off := fun a u e => ⟨(h.off a u e).1, fun hm => by
    rcases List.mem_append.mp (show a ∈ r.l ++ [p] from hm) with hm | hm
    · exact (h.off a u e).2 hm
    · obtain rfl : a = p := by simpa using hm
      replace e : r.fr a = some u := e
      rw [show r.fr a = none from h.fr.free hp] at e
      cases e⟩
theorem nd_get {l : List Addr} (h : l.Nodup) {i j : Nat} {a : Addr} (x : l[i]? = some a) (y : l[j]? = some a) : i = j := by
  obtain ⟨h1, e1⟩ := List.getElem?_eq_some_iff.mp x
  obtain ⟨h2, e2⟩ := List.getElem?_eq_some_iff.mp y
  exact (List.getElem_inj h).mp (e1.trans e2.symm)
theorem Rs.nofr (h : Rs K ad S r O H) {n : Nat} {a : Addr} (hn : r.l[n]? = some a) : r.fr a = none := by
  cases e : r.fr a with
  | none => rfl
  | some o => exact absurd (List.mem_of_getElem? hn) (h.off a o e).2
/-- an object of the store is written -/
theorem Rs.write {n : Nat} {a : Addr} {u : HO} {o : Ob} (h : Rs K ad S r O H) (hn : r.l[n]? = some a) (hz : S a = none) (ho : RO K ad S r (upd H a u) a o) : Rs K ad S r (O.set n o) (upd H a u) where
  sub := same_upd h.sub hz
  len := by rw [List.length_set]; exact h.len
  nd := h.nd
  ob := fun m b ob e1 e2 => by
    by_cases hm : m = n
    · subst hm
      rw [hn] at e1
      cases e1
      rw [List.getElem?_set_self (by rw [← h.len]; exact (List.getElem?_eq_some_iff.mp hn).1)] at e2
      cases e2
      exact ho
    · rw [List.getElem?_set_ne (Ne.symm hm)] at e2
      have ne : b ≠ a := fun z => hm (nd_get h.nd e1 (z ▸ hn))
      exact (h.ob m b ob e1 e2).mono (Ext.refl S r) (fun w q => by rw [upd_ne ne]; exact q) (fun q => q)
  fr := same_upd h.fr (h.nofr hn)
  off := h.off
def Rg.at (r : Rg) (f : Hp) : Rg := ⟨r.l, f⟩
theorem RO.at_ {a : Addr} {o : Ob} {f : Hp} (h : RO K ad S r H a o) : RO K ad S (r.at f) H a o := by
  have l : r.l <+: (r.at f).l := List.prefix_rfl
  cases o with
  | lst ds => obtain ⟨z, vs, q, p⟩ := h; exact ⟨z, vs, q, RpAll.monoW (Same.refl S) l _ _ p⟩
  | dct kvs => obtain ⟨z, vs, q, p⟩ := h; exact ⟨z, vs, q, RpP.monoW (Same.refl S) l _ _ p⟩
  | ins c fs => obtain ⟨z, dx, vs, q, p⟩ := h; exact ⟨z, dx, vs, q, RpP.monoW (Same.refl S) l _ _ p⟩
  | dead => obtain ⟨u, q⟩ := h; exact ⟨u, q⟩
  | fdc kvs => obtain ⟨od, ks, z, q, p⟩ := h; exact ⟨od, ks, z, q, RpP.monoW (Same.refl S) l _ _ p⟩
/-- a new thing is kept for a while -/
theorem Rs.hold {p : Addr} {o : HO} (h : Rs K ad S r O H) (hp : H p = none) : Rs K ad S (r.at (upd r.fr p o)) O (upd H p o) where
  sub := (h.junk (o := o) hp).sub
  len := h.len
  nd := h.nd
  ob := fun n a u e1 e2 => ((h.junk (o := o) hp).ob n a u e1 e2).at_
  fr := fun b u e => by
    replace e : upd r.fr p o b = some u := e
    by_cases hb : b = p
    · rw [hb, upd_same] at e ⊢; exact e
    · rw [upd_ne hb] at e ⊢; exact h.fr b u e
  off := fun a u e => by
    replace e : upd r.fr p o a = some u := e
    by_cases hb : a = p
    · rw [hb]; exact ⟨h.fresh hp, h.notin hp⟩
    · rw [upd_ne hb] at e; exact h.off a u e
/-- what is held changes -/
theorem Rs.rehold {p : Addr} {o u : HO} {f : Hp} (h : Rs K ad S (r.at (upd f p o)) O H) : Rs K ad S (r.at (upd f p u)) O (upd H p u) where
  sub := same_upd h.sub (h.off p o upd_same).1
  len := h.len
  nd := h.nd
  ob := fun n a w e1 e2 => by
    have ne : a ≠ p := fun z => (h.off p o upd_same).2 (z ▸ List.mem_of_getElem? e1)
    have q := h.ob n a w e1 e2
    have q1 : RO K ad S r H a w := RO.at_ (r := r.at (upd f p o)) (f := r.fr) q
    exact (q1.mono (Ext.refl S r) (fun w q => by rw [upd_ne ne]; exact q) (fun q => q)).at_
  fr := fun b w e => by
    replace e : upd f p u b = some w := e
    by_cases hb : b = p
    · rw [hb, upd_same] at e ⊢; exact e
    · rw [upd_ne hb] at e ⊢
      exact h.fr b w (by show upd f p o b = some w; rw [upd_ne hb]; exact e)
  off := fun a w e => by
    replace e : upd f p u a = some w := e
    by_cases hb : a = p
    · rw [hb]; exact h.off p o upd_same
    · rw [upd_ne hb] at e
      exact h.off a w (by show upd f p o a = some w; rw [upd_ne hb]; exact e)
/-- it is let go -/
theorem Rs.unhold {p : Addr} {o : HO} (h : Rs K ad S (r.at (upd r.fr p o)) O H) (hf : r.fr p = none) : Rs K ad S r O H ∧ H p = some o ∧ S p = none ∧ p ∉ r.l := by
  refine ⟨⟨h.sub, h.len, h.nd, fun n a w e1 e2 => RO.at_ (r := r.at (upd r.fr p o)) (f := r.fr) (h.ob n a w e1 e2), fun b w e => ?_, fun a w e => ?_⟩, h.fr p o upd_same, (h.off p o upd_same).1, (h.off p o upd_same).2⟩
  · exact h.fr b w (by show upd r.fr p o b = some w; rw [upd_ne (ne_of_none e hf)]; exact e)
  · exact h.off a w (by show upd r.fr p o a = some w; rw [upd_ne (ne_of_none e hf)]; exact e)
/-- .. sealed -/
theorem Rs.sealAt {p : Addr} {o : HO} (h : Rs K ad S r O H) (hH : H p = some o) (hS : S p = none) (hl : p ∉ r.l) (hf : r.fr p = none) : Rs K ad (upd S p o) r O H where
  sub := fun b u e => by
    by_cases hb : b = p
    · rw [hb, upd_same] at e; rw [hb, hH]; exact e
    · rw [upd_ne hb] at e; exact h.sub b u e
  len := h.len
  nd := h.nd
  ob := fun n a ob e1 e2 => by
    have ne : a ≠ p := fun z => hl (by rw [← z]; exact List.mem_of_getElem? e1)
    exact (h.ob n a ob e1 e2).mono (Ext.new hS) (fun u q => q) (fun q => by rw [upd_ne ne]; exact q)
  fr := h.fr
  off := fun a u e => ⟨by rw [upd_ne (ne_of_none e hf)]; exact (h.off a u e).1, (h.off a u e).2⟩
/-- .. put into the store -/
theorem Rs.pushAt {p : Addr} {o : Ob} (h : Rs K ad S r O H) (ho : RO K ad S (r.push p) H p o) (hl : p ∉ r.l) (hf : r.fr p = none) : Rs K ad S (r.push p) (O ++ [o]) H where
  sub := h.sub
  len := by
    show (r.l ++ [p]).length = _
    rw [List.length_append, List.length_append, h.len]; rfl
  nd := by
    show (r.l ++ [p]).Nodup
    rw [List.nodup_append]
    refine ⟨h.nd, by simp, fun a ha b hb => ?_⟩
    obtain rfl : b = p := by simpa using hb
    exact fun z => hl (z ▸ ha)
  ob := fun n a ob e1 e2 => by
    replace e1 : (r.l ++ [p])[n]? = some a := e1
    by_cases hn : n < r.l.length
    · rw [List.getElem?_append_left hn] at e1
      rw [List.getElem?_append_left (by rw [← h.len]; exact hn)] at e2
      exact (h.ob n a ob e1 e2).grow
    · have hn' : n = r.l.length := by
        have := (List.getElem?_eq_some_iff.mp e1).1
        rw [List.length_append] at this
        simp at this
        omega
      subst hn'
      rw [List.getElem?_append_right (Nat.le_refl _)] at e1
      rw [h.len, List.getElem?_append_right (Nat.le_refl _)] at e2
      simp at e1 e2
      subst e1 e2
      exact ho
  fr := h.fr
  off := fun a u e => ⟨(h.off a u e).1, fun hm => by
    rcases List.mem_append.mp (show a ∈ r.l ++ [p] from hm) with hm | hm
    · exact (h.off a u e).2 hm
    · obtain rfl : a = p := by simpa using hm
      replace e : r.fr a = some u := e
      rw [hf] at e
      cases e⟩
end
/-- what else holds of the slots and of what stands for good -/
structure JP where
  p : St → Hp → Prop
  mono : ∀ {σ : St} {S S' : Hp}, Same S S' → p σ S → p σ S'
/-! ### posts -/
section
variable (K : PySem.W.Frag) (ad : Str → Addr)
def Post {α β : Type} (rep : Hp → Rg → α → β → Prop) (W : WX) (σ : St) (S : Hp) (r : Rg) (Q : β → Hp → Prop) : Res α → Prop
  | .ok a O => ∀ S' r' H v, Ext S r S' r' → Rs K ad S' r' O H → rep S' r' a v → Q v H
  | .exc x O => ∀ S' r' H d, Ext S r S' r' → Rs K ad S' r' O H → ExR K S' r' x d → W (.ref (ad x.cls)) d σ H
  | .bad => False
def tE (J : JP) (W : WX) (m : EM) : TE := fun σ H Q => ∃ S r L O, J.p σ S ∧ Rl K S r L σ ∧ Rs K ad S r O H ∧ Post K ad (fun S r => Rp K S r) W σ S r Q (m L O)
def tT (J : JP) (W : WX) (m : TM) : TT := fun σ H Q => ∃ S r L O, J.p σ S ∧ Rl K S r L σ ∧ Rs K ad S r O H ∧ Post K ad (fun _ _ a v => v = a) W σ S r Q (m L O)
def tA (J : JP) (W : WX) (m : AM) : TA := fun σ H Q => ∃ S r L O, J.p σ S ∧ Rl K S r L σ ∧ Rs K ad S r O H ∧ Post K ad (fun S r => RpAll K S r) W σ S r Q (m L O)
def PostS (J : JP) (W : WX) (S : Hp) (r : Rg) (En : Ends) : SR → Prop
  | .next L O => ∀ S' r' σ H, Ext S r S' r' → J.p σ S' → Rl K S' r' L σ → Rs K ad S' r' O H → En.nx σ H
  | .ret d O => ∀ S' r' H v, Ext S r S' r' → Rs K ad S' r' O H → Rp K S' r' d v → En.rt v H
  | .brk L O => ∀ S' r' σ H, Ext S r S' r' → J.p σ S' → Rl K S' r' L σ → Rs K ad S' r' O H → En.bk σ H
  | .cnt L O => ∀ S' r' σ H, Ext S r S' r' → J.p σ S' → Rl K S' r' L σ → Rs K ad S' r' O H → En.ct σ H
  | .exc x L O => ∀ S' r' σ H d, Ext S r S' r' → J.p σ S' → Rl K S' r' L σ → Rs K ad S' r' O H → ExR K S' r' x d → W (.ref (ad x.cls)) d σ H
  | .bad => False
def tS (J : JP) (W : WX) (m : SM) : TS := fun En σ H => ∃ S r L O, J.p σ S ∧ Rl K S r L σ ∧ Rs K ad S r O H ∧ PostS K ad J W S r En (m L O)
/-- the promise of a def that its mirror tells -/
def spM (n : Nat) (m : FM) : Sp := fun vs H Q E => ∃ S r O ds, ds.length = n ∧ Rs K ad S r O H ∧ RpAll K S r ds vs ∧ Post K ad (fun S r => Rp K S r) (fun c d _ H' => E c d H') [] S r Q (m ds O)
end
section
variable {K : PySem.W.Frag} {ad : Str → Addr} {α β γ δ : Type} {rep : Hp → Rg → α → β → Prop} {rep2 : Hp → Rg → γ → δ → Prop} {W : WX} {σ : St} {S S' : Hp} {r r' : Rg} {Q Q' : β → Hp → Prop} {x : Res α}
theorem Post.mono (e : Ext S r S' r') (h : Post K ad rep W σ S r Q x) : Post K ad rep W σ S' r' Q x := by
  cases x with
  | ok a O => exact fun S2 r2 H v e2 => h S2 r2 H v (e.trans e2)
  | exc a O => exact fun S2 r2 H v e2 => h S2 r2 H v (e.trans e2)
  | bad => exact h
theorem Post.imp (h : Post K ad rep W σ S r Q x) (k : ∀ v H, Q v H → Q' v H) : Post K ad rep W σ S r Q' x := by
  cases x with
  | ok a O => exact fun S2 r2 H v e2 s p => k _ _ (h S2 r2 H v e2 s p)
  | exc a O => exact h
  | bad => exact h
theorem Post.bind {R : δ → Hp → Prop} {f : α → Store → Res γ} (h : Post K ad rep2 W σ S r R (x.bind f)) :
    Post K ad rep W σ S r (fun v H => ∃ S' r' a O, Ext S r S' r' ∧ Rs K ad S' r' O H ∧ rep S' r' a v ∧ Post K ad rep2 W σ S' r' R (f a O)) x := by
  cases x with
  | ok a O => exact fun S2 r2 H v e2 s p => ⟨S2, r2, a, O, e2, s, p, Post.mono e2 h⟩
  | exc a O => exact h
  | bad => exact h
end
theorem pe_imp {X : Cx} {e : Expr} {t t' : TE} (h : PE X e t) (k : ∀ σ H Q, t' σ H Q → t σ H Q) : PE X e t' := ⟨fun pins s σ H Q I q => h.run pins s σ H Q I (k σ H Q q)⟩
theorem pt_imp {X : Cx} {e : Expr} {t t' : TT} (h : PT X e t) (k : ∀ σ H Q, t' σ H Q → t σ H Q) : PT X e t' := ⟨fun pins s σ H Q I q => h.run pins s σ H Q I (k σ H Q q)⟩
theorem pa_imp {X : Cx} {e : List Expr} {t t' : TA} (h : PA X e t) (k : ∀ σ H Q, t' σ H Q → t σ H Q) : PA X e t' := ⟨fun pos pins s σ H Q I q => h.run pos pins s σ H Q I (k σ H Q q)⟩
theorem ps_imp {X : Cx} {e : Stmt} {t t' : TS} (h : PS X e t) (k : ∀ En σ H, t' En σ H → t En σ H) : PS X e t' := ⟨fun pins s σ H En I q => h.run pins s σ H En I (k En σ H q)⟩
theorem pss_imp {X : Cx} {e : List Stmt} {t t' : TS} (h : PSs X e t) (k : ∀ En σ H, t' En σ H → t En σ H) : PSs X e t' := ⟨fun pins s σ H En I q => h.run pins s σ H En I (k En σ H q)⟩
end DK
end
section
set_option Elab.async false
set_option linter.all false
set_option autoImplicit false
set_option maxRecDepth 100000
set_option maxHeartbeats 4000000
/-! DKExp: expressions and tests, by mirrors. -/
namespace DK
open PySem L2
def ofO {α : Type} : Option (α × Store) → Res α
  | some (z, O) => .ok z O
  | none => .bad
/-! ### mirrors -/
def mVar (i : Nat) : EM := fun L O => match L[i]? with
  | some (some d) => .ok d O
  | _ => .bad
def mC (d : D) : EM := fun _ O => .ok d O
def mOp (g : Store → D → D → Option (D × Store)) (a b : EM) : EM := fun L O => (a L O).bind fun x O1 => (b L O1).bind fun y O2 => ofO (g O2 x y)
def mChain (g g' : Store → D → D → Option (D × Store)) (a b c : EM) : EM := fun L O => (a L O).bind fun x O1 => (b L O1).bind fun y O2 => (ofO (g O2 x y)).bind fun z O3 => match z with
  | .bl true => (c L O3).bind fun w O4 => ofO (g' O4 y w)
  | .bl false => .ok (.bl false) O3
  | _ => .bad
def mTest (a : EM) : TM := fun L O => (a L O).bind fun x O1 => match x with
  | .bl b => .ok b O1
  | _ => .bad
def truD (O : Store) : D → Option Bool
  | .non => some false
  | .bl b => some b
  | .int i => some (i != 0)
  | .str s => if s.length ≤ 1000000 then some ((s.length : Int) != 0) else none
  | .lst xs => some (!xs.isEmpty)
  | .rol xs => some (!xs.isEmpty)
  | .tup xs => some (!xs.isEmpty)
  | .hdl n => match O[n]? with
    | some (.lst xs) => some (!xs.isEmpty)
    | some (.dct xs) => some (!xs.isEmpty)
    | _ => none
def mTru (a : EM) : TM := fun L O => (a L O).bind fun x O1 => match truD O1 x with
  | some b => .ok b O1
  | none => .bad
def mAnd (a b : TM) : TM := fun L O => (a L O).bind fun c O1 => if c = true then b L O1 else .ok false O1
def mOr (a b : TM) : TM := fun L O => (a L O).bind fun c O1 => if c = true then .ok true O1 else b L O1
def mNot (a : TM) : TM := fun L O => (a L O).bind fun c O1 => .ok (!c) O1
def mIf (t : TM) (a b : EM) : EM := fun L O => (t L O).bind fun c O1 => if c = true then a L O1 else b L O1
/-- and, or, not of bools, as values -/
def mAndV (a b : EM) : EM := fun L O => (a L O).bind fun c O1 => match c with
  | .bl true => b L O1
  | .bl false => .ok (.bl false) O1
  | _ => .bad
def mOrV (a b : EM) : EM := fun L O => (a L O).bind fun c O1 => match c with
  | .bl true => .ok (.bl true) O1
  | .bl false => b L O1
  | _ => .bad
def mNotV (a : EM) : EM := fun L O => (a L O).bind fun c O1 => match c with
  | .bl b => .ok (.bl (!b)) O1
  | _ => .bad
def mNil : AM := fun _ O => .ok [] O
def mCons (a : EM) (t : AM) : AM := fun L O => (a L O).bind fun x O1 => (t L O1).bind fun xs O2 => .ok (x :: xs) O2
def mTup (t : AM) : EM := fun L O => (t L O).bind fun xs O1 => if xs.length ≤ 1000000 then .ok (.tup xs) O1 else .bad
/-- a new list: for good, or one of the store -/
def newL (h : Bool) (xs : List D) (O : Store) : Res D := if xs.length ≤ 1000000 then (if h = true then .ok (.hdl O.length) (O ++ [.lst xs]) else .ok (.lst xs) O) else .bad
def mLst (h : Bool) (t : AM) : EM := fun L O => (t L O).bind fun xs O1 => newL h xs O1
def mCall (g : Store → List D → Option (D × Store)) (t : AM) : EM := fun L O => (t L O).bind fun xs O1 => ofO (g O1 xs)
def mFn (f : FM) (ds : List D) (t : AM) : EM := fun L O => (t L O).bind fun xs O1 => f (xs ++ ds) O1
/-! ### the state's lists -/
def seqOf (O : Store) : D → Option (List D)
  | .lst xs => some xs
  | .rol xs => some xs
  | .tup xs => some xs
  | .hdl n => match O[n]? with
    | some (.lst xs) => some xs
    | _ => none
  | _ => none
/-- lists that are tracked -/
def lstOf (O : Store) : D → Option (List D)
  | .lst xs => some xs
  | .hdl n => match O[n]? with
    | some (.lst xs) => some xs
    | _ => none
  | _ => none
section
variable {K : PySem.W.Frag} {ad : Str → Addr} {S : Hp} {r : Rg} {O : Store} {H : Hp} {d : D} {x : V} {xs : List D}
theorem hdl_at (s : Rs K ad S r O H) {n : Nat} {o : Ob} (p : Rp K S r (.hdl n) x) (h : O[n]? = some o) : ∃ a, x = .ref a ∧ r.l[n]? = some a ∧ RO K ad S r H a o := by
  obtain ⟨a, e, q⟩ := p
  exact ⟨a, e, q, s.ob n a o q h⟩
theorem seqOf_ok (s : Rs K ad S r O H) (p : Rp K S r d x) (h : seqOf O d = some xs) : ∃ a vs, x = .ref a ∧ (SqL K H a vs ∨ SqT K H a vs) ∧ RpAll K S r xs vs := by
  cases d with
  | lst ds =>
    obtain rfl : ds = xs := Option.some.inj h
    obtain ⟨a, vs, e, q, w⟩ := p
    exact ⟨a, vs, e, .inl (.of (s.sub _ _ q)), w⟩
  | rol ds =>
    obtain rfl : ds = xs := Option.some.inj h
    obtain ⟨a, vs, e, q, w⟩ := p
    exact ⟨a, vs, e, .inl (sqL_same s.sub q), w⟩
  | tup ds =>
    obtain rfl : ds = xs := Option.some.inj h
    obtain ⟨a, vs, e, q, w⟩ := p
    exact ⟨a, vs, e, .inr (sqT_same s.sub q), w⟩
  | hdl n =>
    have h' : (match O[n]? with | some (Ob.lst xs) => some xs | _ => none) = some xs := h
    split at h'
    · rename_i zs e
      obtain rfl : zs = xs := Option.some.inj h'
      obtain ⟨a, e1, e2, _, vs, e3, e4⟩ := hdl_at s p e
      exact ⟨a, vs, e1, .inl (.of e3), e4⟩
    · cases h'
  | non => cases h
  | bl b => cases h
  | int i => cases h
  | str z => cases h
theorem lstOf_ok (s : Rs K ad S r O H) (p : Rp K S r d x) (h : lstOf O d = some xs) : ∃ a vs, x = .ref a ∧ H a = some (.lst vs) ∧ RpAll K S r xs vs := by
  cases d with
  | lst ds =>
    obtain rfl : ds = xs := Option.some.inj h
    obtain ⟨a, vs, e, q, w⟩ := p
    exact ⟨a, vs, e, s.sub _ _ q, w⟩
  | hdl n =>
    have h' : (match O[n]? with | some (Ob.lst xs) => some xs | _ => none) = some xs := h
    split at h'
    · rename_i zs e
      obtain rfl : zs = xs := Option.some.inj h'
      obtain ⟨a, e1, e2, _, vs, e3, e4⟩ := hdl_at s p e
      exact ⟨a, vs, e1, e3, e4⟩
    · cases h'
  | rol ds => cases h
  | tup ds => cases h
  | non => cases h
  | bl b => cases h
  | int i => cases h
  | str z => cases h
theorem million {n : Nat} (h : n ≤ 1000000) : n ≤ sizeLine := Nat.le_trans h (by decide)
theorem million_lt {n : Nat} (h : n ≤ 1000000) : n < sizeLine := Nat.lt_of_le_of_lt h (by decide)
/-- a new list comes -/
theorem newL_post {W : WX} {σ : L2.St} {hm : Bool} {Q : VK} {vs : List V} (s : Rs K ad S r O H) (p : RpAll K S r xs vs) (q : Post K ad (fun S r => Rp K S r) W σ S r Q (newL hm xs O)) : vs.length ≤ sizeLine ∧ ∀ l, H l = none → Q (.ref l) (upd H l (.lst vs)) := by
  unfold newL at q
  split at q
  · rename_i hl
    refine ⟨by rw [p.length]; exact million hl, fun l hn => ?_⟩
    cases hm with
    | true =>
      rw [if_pos rfl] at q
      refine q S (r.push l) _ _ (Ext.push S r l) (s.push hn ⟨s.fresh hn, vs, upd_same, RpAll.mono (Ext.push S r l) _ _ p⟩) ⟨l, rfl, ?_⟩
      show (r.l ++ [l])[O.length]? = some l
      rw [← s.len, List.getElem?_append_right (Nat.le_refl _)]
      simp
    | false =>
      rw [if_neg Bool.false_ne_true] at q
      exact q _ r _ _ (Ext.new (s.fresh hn)) (s.seal hn) ⟨l, vs, rfl, upd_same, RpAll.mono (Ext.new (s.fresh hn)) _ _ p⟩
  · exact q.elim
/-- a new tuple comes -/
theorem newT_post {W : WX} {σ : L2.St} {Q : VK} {vs : List V} (s : Rs K ad S r O H) (p : RpAll K S r xs vs) (q : Post K ad (fun S r => Rp K S r) W σ S r Q (.ok (.tup xs) O)) : ∀ l, H l = none → Q (.ref l) (upd H l (.tup vs)) := fun l hn =>
  q _ r _ _ (Ext.new (s.fresh hn)) (s.seal hn) ⟨l, vs, rfl, .of upd_same, RpAll.mono (Ext.new (s.fresh hn)) _ _ p⟩
end
/-! ### operators by values -/
structure OpD (X : Cx) (ad : Str → Addr) (f : Value → Value → Sem Value) (g : Store → D → D → Option (D × Store)) : Prop where
  ok : ∃ rr, OpR X f rr ∧ ∀ (S : Hp) (r : Rg) (O : Store) (H : Hp) (x y : V) (d e : D) (W : WX) (σ : L2.St) (Q : VK), Rs X.K ad S r O H → Rp X.K S r d x → Rp X.K S r e y →
    Post X.K ad (fun S r => Rp X.K S r) W σ S r Q (ofO (g O d e)) → rr x y H Q
structure CallD (X : Cx) (ad : Str → Addr) (f : Value) (g : Store → List D → Option (D × Store)) : Prop where
  ok : ∃ rr, CallR X f rr ∧ ∀ (S : Hp) (r : Rg) (O : Store) (H : Hp) (vs : List V) (ds : List D) (W : WX) (σ : L2.St) (Q : VK), Rs X.K ad S r O H → RpAll X.K S r ds vs →
    Post X.K ad (fun S r => Rp X.K S r) W σ S r Q (ofO (g O ds)) → rr vs H Q
section
variable {X : Cx} {ad : Str → Addr} {J : JP} {W : WX} {pos : Pos} {a b c e : Expr} {es : List Expr} {ma mb mc : EM} {ta tb : TM} {mt : AM} {op op' : CmpOp} {bop : Operator}
  {g g' : Store → D → D → Option (D × Store)}
theorem de_var {x : Str} {i : Nat} (h : PE X (.Name x pos) (tVar i)) : PE X (.Name x pos) (tE X.K ad J W (mVar i)) := by
  refine pe_imp h ?_
  rintro σ H Q ⟨S, r, L, O, j, rl, rs, p⟩
  unfold mVar at p
  split at p
  · rename_i d q
    obtain ⟨v, q1, q2⟩ := rl.at_ i d q
    exact ⟨v, q1, p S r H v (Ext.refl S r) rs q2⟩
  · exact p.elim
theorem de_c {v : V} {d : D} (h : PE X e (tC v)) (k : ∀ S r, Rp X.K S r d v) : PE X e (tE X.K ad J W (mC d)) := by
  refine pe_imp h ?_
  rintro σ H Q ⟨S, r, L, O, j, rl, rs, p⟩
  exact p S r H v (Ext.refl S r) rs (k S r)
theorem de_int {i : Int} {j : Nat} : PE X (.Constant (.int i) j pos) (tE X.K ad J W (mC (.int i))) := de_c pe_int fun _ _ => rfl
theorem de_bl {i : Bool} {j : Nat} : PE X (.Constant (.bool i) j pos) (tE X.K ad J W (mC (.bl i))) := de_c pe_bl fun _ _ => rfl
theorem de_str {i : Str} {j : Nat} : PE X (.Constant (.str i) j pos) (tE X.K ad J W (mC (.str i))) := de_c pe_str fun _ _ => rfl
theorem de_non {j : Nat} : PE X (.Constant .none j pos) (tE X.K ad J W (mC .non)) := de_c pe_non fun _ _ => rfl
theorem de_op (ho : OpD X ad (binaryOp bop) g) (ha : PE X a (tE X.K ad J W ma)) (hb : PE X b (tE X.K ad J W mb)) : PE X (.BinOp a bop b pos) (tE X.K ad J W (mOp g ma mb)) := by
  obtain ⟨rr, h1, h2⟩ := ho.ok
  refine pe_imp (pe_op h1 ha hb) ?_
  rintro σ H Q ⟨S, r, L, O, j, rl, rs, p⟩
  refine ⟨S, r, L, O, j, rl, rs, (Post.bind p).imp ?_⟩
  rintro x H1 ⟨S1, r1, d, O1, e1, s1, p1, q1⟩
  refine ⟨S1, r1, L, O1, J.mono e1.s j, rl.mono e1, s1, (Post.bind q1).imp ?_⟩
  rintro y H2 ⟨S2, r2, e, O2, e2, s2, p2, q2⟩
  exact h2 S2 r2 O2 H2 x y d e W σ Q s2 (Rp.mono e2 d x p1) p2 q2
theorem de_cmp (ho : OpD X ad (compareOp op) g) (ha : PE X a (tE X.K ad J W ma)) (hb : PE X b (tE X.K ad J W mb)) (hm : behindInMarks op b = false) : PE X (.Compare a [op] [b] pos) (tE X.K ad J W (mOp g ma mb)) := by
  obtain ⟨rr, h1, h2⟩ := ho.ok
  refine pe_imp (pe_cmpR h1 ha hb hm) ?_
  rintro σ H Q ⟨S, r, L, O, j, rl, rs, p⟩
  refine ⟨S, r, L, O, j, rl, rs, (Post.bind p).imp ?_⟩
  rintro x H1 ⟨S1, r1, d, O1, e1, s1, p1, q1⟩
  refine ⟨S1, r1, L, O1, J.mono e1.s j, rl.mono e1, s1, (Post.bind q1).imp ?_⟩
  rintro y H2 ⟨S2, r2, e, O2, e2, s2, p2, q2⟩
  exact h2 S2 r2 O2 H2 x y d e W σ Q s2 (Rp.mono e2 d x p1) p2 q2
theorem test_imp {t : TE} {m : EM} (h : ∀ σ H Q, tE X.K ad J W m σ H Q → t σ H Q) : ∀ σ H Q, tT X.K ad J W (mTest m) σ H Q → tTest t σ H Q := by
  rintro σ H Q ⟨S, r, L, O, j, rl, rs, p⟩
  refine h σ H _ ⟨S, r, L, O, j, rl, rs, (Post.bind p).imp ?_⟩
  rintro x H1 ⟨S1, r1, d, O1, e1, s1, p1, q1⟩
  cases d with
  | bl b => exact ⟨b, p1, q1 S1 r1 H1 b (Ext.refl _ _) s1 rfl⟩
  | non => exact q1.elim
  | int i => exact q1.elim
  | str s => exact q1.elim
  | lst s => exact q1.elim
  | rol s => exact q1.elim
  | tup s => exact q1.elim
  | hdl s => exact q1.elim
theorem dt_cmp (ho : OpD X ad (compareOp op) g) (ha : PE X a (tE X.K ad J W ma)) (hb : PE X b (tE X.K ad J W mb)) (hm : behindInMarks op b = false) : PT X (.Compare a [op] [b] pos) (tT X.K ad J W (mTest (mOp g ma mb))) := by
  obtain ⟨rr, h1, h2⟩ := ho.ok
  refine pt_imp (pt_cmpR h1 ha hb hm) (test_imp ?_)
  rintro σ H Q ⟨S, r, L, O, j, rl, rs, p⟩
  refine ⟨S, r, L, O, j, rl, rs, (Post.bind p).imp ?_⟩
  rintro x H1 ⟨S1, r1, d, O1, e1, s1, p1, q1⟩
  refine ⟨S1, r1, L, O1, J.mono e1.s j, rl.mono e1, s1, (Post.bind q1).imp ?_⟩
  rintro y H2 ⟨S2, r2, e, O2, e2, s2, p2, q2⟩
  exact h2 S2 r2 O2 H2 x y d e W σ Q s2 (Rp.mono e2 d x p1) p2 q2
theorem chain_imp {rr rr' : R2} (h2 : ∀ (S : Hp) (r : Rg) (O : Store) (H : Hp) (x y : V) (d e : D) (W : WX) (σ : L2.St) (Q : VK), Rs X.K ad S r O H → Rp X.K S r d x → Rp X.K S r e y → Post X.K ad (fun S r => Rp X.K S r) W σ S r Q (ofO (g O d e)) → rr x y H Q)
    (h3 : ∀ (S : Hp) (r : Rg) (O : Store) (H : Hp) (x y : V) (d e : D) (W : WX) (σ : L2.St) (Q : VK), Rs X.K ad S r O H → Rp X.K S r d x → Rp X.K S r e y → Post X.K ad (fun S r => Rp X.K S r) W σ S r Q (ofO (g' O d e)) → rr' x y H Q) :
    ∀ σ H Q, tE X.K ad J W (mChain g g' ma mb mc) σ H Q → tChain rr rr' (tE X.K ad J W ma) (tE X.K ad J W mb) (tE X.K ad J W mc) σ H Q := by
  rintro σ H Q ⟨S, r, L, O, j, rl, rs, p⟩
  refine ⟨S, r, L, O, j, rl, rs, (Post.bind p).imp ?_⟩
  rintro x H1 ⟨S1, r1, d, O1, e1, s1, p1, q1⟩
  refine ⟨S1, r1, L, O1, J.mono e1.s j, rl.mono e1, s1, (Post.bind q1).imp ?_⟩
  rintro y H2 ⟨S2, r2, e, O2, e2, s2, p2, q2⟩
  refine h2 S2 r2 O2 H2 x y d e W σ _ s2 (Rp.mono e2 d x p1) p2 ((Post.bind q2).imp ?_)
  rintro z H3 ⟨S3, r3, f, O3, e3, s3, p3, q3⟩
  cases f with
  | bl k =>
    refine ⟨k, p3, ?_⟩
    cases k with
    | true =>
      rw [if_pos rfl]
      refine ⟨S3, r3, L, O3, J.mono (e1.trans (e2.trans e3)).s j, rl.mono (e1.trans (e2.trans e3)), s3, (Post.bind q3).imp ?_⟩
      rintro w H4 ⟨S4, r4, f, O4, e4, s4, p4, q4⟩
      exact h3 S4 r4 O4 H4 y w e f W σ Q s4 (Rp.mono (e3.trans e4) e y p2) p4 q4
    | false =>
      rw [if_neg Bool.false_ne_true]
      exact q3 S3 r3 H3 _ (Ext.refl _ _) s3 rfl
  | non => exact q3.elim
  | int i => exact q3.elim
  | str s => exact q3.elim
  | lst s => exact q3.elim
  | rol s => exact q3.elim
  | tup s => exact q3.elim
  | hdl s => exact q3.elim
theorem de_chain (ho : OpD X ad (compareOp op) g) (ho' : OpD X ad (compareOp op') g') (ha : PE X a (tE X.K ad J W ma)) (hb : PE X b (tE X.K ad J W mb)) (hc : PE X c (tE X.K ad J W mc)) (hm : lastMarks [op, op'] [b, c] = false := by rfl) : PE X (.Compare a [op, op'] [b, c] pos) (tE X.K ad J W (mChain g g' ma mb mc)) := by
  obtain ⟨rr, h1, h2⟩ := ho.ok
  obtain ⟨rr', h1', h2'⟩ := ho'.ok
  exact pe_imp (pe_chain h1 h1' ha hb hc hm) (chain_imp h2 h2')
theorem dt_chain (ho : OpD X ad (compareOp op) g) (ho' : OpD X ad (compareOp op') g') (ha : PE X a (tE X.K ad J W ma)) (hb : PE X b (tE X.K ad J W mb)) (hc : PE X c (tE X.K ad J W mc)) (hm : lastMarks [op, op'] [b, c] = false := by rfl) : PT X (.Compare a [op, op'] [b, c] pos) (tT X.K ad J W (mTest (mChain g g' ma mb mc))) := by
  obtain ⟨rr, h1, h2⟩ := ho.ok
  obtain ⟨rr', h1', h2'⟩ := ho'.ok
  exact pt_imp (pt_chain h1 h1' ha hb hc hm) (test_imp (chain_imp h2 h2'))
theorem dt_val (h : PE X e (tE X.K ad J W ma)) (he : ∀ whole, isTrue e X.env whole = (do let v ← whole; standAt e.pos; holding [v] (truthy v)) := by intro _; rfl) : PT X e (tT X.K ad J W (mTest ma)) := by
  refine pt_imp (pt_val h he) ?_
  intro σ H Q q
  exact test_imp (J := J) (W := W) (fun _ _ _ z => z) σ H Q q
theorem dt_truth (h : PE X e (tE X.K ad J W ma)) (he : ∀ whole, isTrue e X.env whole = (do let v ← whole; standAt e.pos; holding [v] (truthy v)) := by intro _; rfl) : PT X e (tT X.K ad J W (mTru ma)) := by
  refine pt_imp (pt_truth h he) ?_
  rintro σ H Q ⟨S, r, L, O, j, rl, rs, p⟩
  refine ⟨S, r, L, O, j, rl, rs, (Post.bind p).imp ?_⟩
  rintro x H1 ⟨S1, r1, d, O1, e1, s1, p1, q1⟩
  have emp : ∀ {ds : List D} {vs : List V}, RpAll X.K S1 r1 ds vs → (!ds.isEmpty) = !vs.isEmpty := fun {ds vs} h => by
    cases ds with
    | nil => rw [show vs = [] from h]; rfl
    | cons d ds => obtain ⟨v, vr, rfl, _⟩ := h; rfl
  have empP : ∀ {ds : List (Key × D)} {vs : List (Key × V)}, RpP X.K S1 r1 ds vs → (!ds.isEmpty) = !vs.isEmpty := fun {ds vs} h => by
    cases ds with
    | nil => rw [show vs = [] from h]; rfl
    | cons d ds => obtain ⟨v, vr, rfl, _⟩ := h; rfl
  cases hd : truD O1 d with
  | none => rw [hd] at q1; exact q1.elim
  | some k =>
    rw [hd] at q1
    refine ⟨k, ?_, q1 S1 r1 H1 k (Ext.refl _ _) s1 rfl⟩
    cases d with
    | non => rw [show x = .non from p1]; exact (Option.some.inj hd).symm
    | bl b => rw [show x = .bl b from p1]; exact (Option.some.inj hd).symm
    | int i => rw [show x = .int i from p1]; exact (Option.some.inj hd).symm
    | str s =>
      rw [show x = .str s from p1]
      have hd' : (if s.length ≤ 1000000 then some ((s.length : Int) != 0) else none) = some k := hd
      split at hd'
      · rename_i hl
        exact ⟨million hl, (Option.some.inj hd').symm⟩
      · cases hd'
    | lst s =>
      obtain ⟨a, vs, rfl, q, w⟩ := p1
      exact .inl ⟨vs, .of (s1.sub _ _ q), by rw [← emp w]; exact (Option.some.inj hd).symm⟩
    | rol s =>
      obtain ⟨a, vs, rfl, q, w⟩ := p1
      exact .inl ⟨vs, sqL_same s1.sub q, by rw [← emp w]; exact (Option.some.inj hd).symm⟩
    | tup s =>
      obtain ⟨a, vs, rfl, q, w⟩ := p1
      exact .inr (.inl ⟨vs, sqT_same s1.sub q, by rw [← emp w]; exact (Option.some.inj hd).symm⟩)
    | hdl n =>
      have hd' : (match O1[n]? with | some (Ob.lst xs) => some (!xs.isEmpty) | some (Ob.dct xs) => some (!xs.isEmpty) | _ => none) = some k := hd
      split at hd'
      · rename_i zs e
        obtain ⟨a, rfl, e2, _, vs, e3, e4⟩ := hdl_at s1 p1 e
        exact .inl ⟨vs, .of e3, by rw [← emp e4]; exact (Option.some.inj hd').symm⟩
      · rename_i zs e
        obtain ⟨a, rfl, e2, _, vs, e3, e4⟩ := hdl_at s1 p1 e
        exact .inr (.inr ⟨vs, e3, by rw [← empP e4]; exact (Option.some.inj hd').symm⟩)
      · cases hd'
theorem PW.imp' {t t' : TT} (h : PW X e t) (k : ∀ σ H Q, t' σ H Q → t σ H Q) : PW X e t' := ⟨fun wh pins s σ H Q I q => h.run wh pins s σ H Q I (k σ H Q q)⟩
theorem and_imp : ∀ σ H Q, tT X.K ad J W (mAnd ta tb) σ H Q → tAnd (tT X.K ad J W ta) (tT X.K ad J W tb) σ H Q := by
  rintro σ H Q ⟨S, r, L, O, j, rl, rs, p⟩
  refine ⟨S, r, L, O, j, rl, rs, (Post.bind p).imp ?_⟩
  rintro k H1 ⟨S1, r1, d, O1, e1, s1, rfl, q1⟩
  cases k with
  | true =>
    rw [if_pos rfl] at q1 ⊢
    exact ⟨S1, r1, L, O1, J.mono e1.s j, rl.mono e1, s1, q1⟩
  | false =>
    rw [if_neg Bool.false_ne_true] at q1 ⊢
    exact q1 S1 r1 H1 false (Ext.refl _ _) s1 rfl
theorem or_imp : ∀ σ H Q, tT X.K ad J W (mOr ta tb) σ H Q → tOr (tT X.K ad J W ta) (tT X.K ad J W tb) σ H Q := by
  rintro σ H Q ⟨S, r, L, O, j, rl, rs, p⟩
  refine ⟨S, r, L, O, j, rl, rs, (Post.bind p).imp ?_⟩
  rintro k H1 ⟨S1, r1, d, O1, e1, s1, rfl, q1⟩
  cases k with
  | false =>
    rw [if_neg Bool.false_ne_true] at q1 ⊢
    exact ⟨S1, r1, L, O1, J.mono e1.s j, rl.mono e1, s1, q1⟩
  | true =>
    rw [if_pos rfl] at q1 ⊢
    exact q1 S1 r1 H1 true (Ext.refl _ _) s1 rfl
theorem dw_and1 (ha : PT X a (tT X.K ad J W ta)) : PW X (.BoolOp .And [a] pos) (tT X.K ad J W ta) := pw_and1 ha
theorem dw_or1 (ha : PT X a (tT X.K ad J W ta)) : PW X (.BoolOp .Or [a] pos) (tT X.K ad J W ta) := pw_or1 ha
theorem dw_and (ha : PT X a (tT X.K ad J W ta)) (hb : PW X (.BoolOp .And (b :: es) pos) (tT X.K ad J W tb)) : PW X (.BoolOp .And (a :: b :: es) pos) (tT X.K ad J W (mAnd ta tb)) := PW.imp' (pw_and ha hb) and_imp
theorem dw_or (ha : PT X a (tT X.K ad J W ta)) (hb : PW X (.BoolOp .Or (b :: es) pos) (tT X.K ad J W tb)) : PW X (.BoolOp .Or (a :: b :: es) pos) (tT X.K ad J W (mOr ta tb)) := PW.imp' (pw_or ha hb) or_imp
theorem dt_not (ha : PT X a (tT X.K ad J W ta)) : PT X (.UnaryOp .Not a pos) (tT X.K ad J W (mNot ta)) := by
  refine pt_imp (pt_not ha) ?_
  rintro σ H Q ⟨S, r, L, O, j, rl, rs, p⟩
  refine ⟨S, r, L, O, j, rl, rs, (Post.bind p).imp ?_⟩
  rintro k H1 ⟨S1, r1, d, O1, e1, s1, rfl, q1⟩
  exact q1 S1 r1 H1 _ (Ext.refl _ _) s1 rfl
theorem de_if (hc : PT X c (tT X.K ad J W ta)) (ha : PE X a (tE X.K ad J W ma)) (hb : PE X b (tE X.K ad J W mb)) : PE X (.IfExp c a b pos) (tE X.K ad J W (mIf ta ma mb)) := by
  refine pe_imp (pe_ifExp hc ha hb) ?_
  rintro σ H Q ⟨S, r, L, O, j, rl, rs, p⟩
  refine ⟨S, r, L, O, j, rl, rs, (Post.bind p).imp ?_⟩
  rintro k H1 ⟨S1, r1, d, O1, e1, s1, rfl, q1⟩
  cases k with
  | false =>
    rw [if_neg Bool.false_ne_true] at q1 ⊢
    exact ⟨S1, r1, L, O1, J.mono e1.s j, rl.mono e1, s1, q1⟩
  | true =>
    rw [if_pos rfl] at q1 ⊢
    exact ⟨S1, r1, L, O1, J.mono e1.s j, rl.mono e1, s1, q1⟩
theorem de_and1 (ha : PE X a (tE X.K ad J W ma)) {bo : BoolOp} : PE X (.BoolOp bo [a] pos) (tE X.K ad J W ma) := pe_one ha
theorem de_and (ha : PE X a (tE X.K ad J W ma)) (hb : PE X (.BoolOp .And (b :: es) pos) (tE X.K ad J W mb)) : PE X (.BoolOp .And (a :: b :: es) pos) (tE X.K ad J W (mAndV ma mb)) := by
  refine pe_imp (pe_and ha hb) ?_
  rintro σ H Q ⟨S, r, L, O, j, rl, rs, p⟩
  refine ⟨S, r, L, O, j, rl, rs, (Post.bind p).imp ?_⟩
  rintro x H1 ⟨S1, r1, d, O1, e1, s1, p1, q1⟩
  cases d with
  | bl k =>
    refine ⟨k, p1, ?_⟩
    cases k with
    | true =>
      rw [if_pos rfl]
      exact ⟨S1, r1, L, O1, J.mono e1.s j, rl.mono e1, s1, q1⟩
    | false =>
      rw [if_neg Bool.false_ne_true]
      exact q1 S1 r1 H1 _ (Ext.refl _ _) s1 rfl
  | non => exact q1.elim
  | int i => exact q1.elim
  | str s => exact q1.elim
  | lst s => exact q1.elim
  | rol s => exact q1.elim
  | tup s => exact q1.elim
  | hdl s => exact q1.elim
theorem de_or (ha : PE X a (tE X.K ad J W ma)) (hb : PE X (.BoolOp .Or (b :: es) pos) (tE X.K ad J W mb)) : PE X (.BoolOp .Or (a :: b :: es) pos) (tE X.K ad J W (mOrV ma mb)) := by
  refine pe_imp (pe_or ha hb) ?_
  rintro σ H Q ⟨S, r, L, O, j, rl, rs, p⟩
  refine ⟨S, r, L, O, j, rl, rs, (Post.bind p).imp ?_⟩
  rintro x H1 ⟨S1, r1, d, O1, e1, s1, p1, q1⟩
  cases d with
  | bl k =>
    refine ⟨k, p1, ?_⟩
    cases k with
    | false =>
      rw [if_neg Bool.false_ne_true]
      exact ⟨S1, r1, L, O1, J.mono e1.s j, rl.mono e1, s1, q1⟩
    | true =>
      rw [if_pos rfl]
      exact q1 S1 r1 H1 _ (Ext.refl _ _) s1 rfl
  | non => exact q1.elim
  | int i => exact q1.elim
  | str s => exact q1.elim
  | lst s => exact q1.elim
  | rol s => exact q1.elim
  | tup s => exact q1.elim
  | hdl s => exact q1.elim
theorem da_nil : PA X [] (tA X.K ad J W mNil) := by
  refine pa_imp pa_nil ?_
  rintro σ H Q ⟨S, r, L, O, j, rl, rs, p⟩
  exact p S r H [] (Ext.refl _ _) rs rfl
theorem da_cons (he : PE X e (tE X.K ad J W ma)) (ht : PA X es (tA X.K ad J W mt)) (hs : starEach (e :: es) X.env = (false, eval e X.env) :: starEach es X.env := by rfl) : PA X (e :: es) (tA X.K ad J W (mCons ma mt)) := by
  refine pa_imp (pa_cons he ht hs) ?_
  rintro σ H Q ⟨S, r, L, O, j, rl, rs, p⟩
  refine ⟨S, r, L, O, j, rl, rs, (Post.bind p).imp ?_⟩
  rintro x H1 ⟨S1, r1, d, O1, e1, s1, p1, q1⟩
  refine ⟨S1, r1, L, O1, J.mono e1.s j, rl.mono e1, s1, (Post.bind q1).imp ?_⟩
  rintro xs H2 ⟨S2, r2, ds, O2, e2, s2, p2, q2⟩
  exact q2 S2 r2 H2 _ (Ext.refl _ _) s2 (.cons (Rp.mono e2 d x p1) p2)
theorem de_tup {k : Nat} (h : PA X es (tA X.K ad J W mt)) : PE X (.Tuple es k pos) (tE X.K ad J W (mTup mt)) := by
  refine pe_imp (pe_tup h) ?_
  rintro σ H Q ⟨S, r, L, O, j, rl, rs, p⟩
  refine ⟨S, r, L, O, j, rl, rs, (Post.bind p).imp ?_⟩
  rintro xs H1 ⟨S1, r1, ds, O1, e1, s1, p1, q1⟩
  have q1 : Post X.K ad (fun S r => Rp X.K S r) W σ S1 r1 Q (if ds.length ≤ 1000000 then .ok (.tup ds) O1 else .bad) := q1
  split at q1
  · rename_i hl
    exact ⟨by rw [p1.length]; exact million hl, newT_post s1 p1 q1⟩
  · exact q1.elim
theorem de_lst {hm : Bool} (h : PA X es (tA X.K ad J W mt)) : PE X (.List es pos) (tE X.K ad J W (mLst hm mt)) := by
  refine pe_imp (pe_lst h) ?_
  rintro σ H Q ⟨S, r, L, O, j, rl, rs, p⟩
  refine ⟨S, r, L, O, j, rl, rs, (Post.bind p).imp ?_⟩
  rintro xs H1 ⟨S1, r1, ds, O1, e1, s1, p1, q1⟩
  exact newL_post s1 p1 q1
theorem de_callB {gc : Store → List D → Option (D × Store)} {x : Str} {id : String} {p : Pos} (hc : CallD X ad (.builtin id) gc) (hg : Gl X x) (hm : X.mg x = none) (hv : bootBuiltins x = some (.builtin id)) (ha : PA X (e :: es) (tA X.K ad J W mt))
    (hn : x ≠ "__name__" := by decide) (hdb : (x == ("__debug__" : Str)) = false := by decide)
    (he : starEach (e :: es) X.env = (false, eval e X.env) :: starEach es X.env := by rfl) (hpl : (backTo pos (starEach es X.env)).any (·.1) = false := by rfl) : PE X (.Call (.Name x p) (e :: es) [] pos) (tE X.K ad J W (mCall gc mt)) := by
  obtain ⟨rr, h1, h2⟩ := hc.ok
  refine pe_imp (pe_callB h1 hg hm hv ha hn hdb he hpl) ?_
  rintro σ H Q ⟨S, r, L, O, j, rl, rs, p⟩
  refine ⟨S, r, L, O, j, rl, rs, (Post.bind p).imp ?_⟩
  rintro xs H1 ⟨S1, r1, ds, O1, e1, s1, p1, q1⟩
  exact h2 S1 r1 O1 H1 xs ds W σ Q s1 p1 q1
theorem de_callTy {gc : Store → List D → Option (D × Store)} {x : Str} {T : String} {p : Pos} (hc : CallD X ad (.type T) gc) (hg : Gl X x) (hm : X.mg x = none) (hv : bootBuiltins x = some (.type T)) (ha : PA X (e :: es) (tA X.K ad J W mt))
    (hn : x ≠ "__name__" := by decide) (hdb : (x == ("__debug__" : Str)) = false := by decide)
    (he : starEach (e :: es) X.env = (false, eval e X.env) :: starEach es X.env := by rfl) (hpl : (backTo pos (starEach es X.env)).any (·.1) = false := by rfl) : PE X (.Call (.Name x p) (e :: es) [] pos) (tE X.K ad J W (mCall gc mt)) := by
  obtain ⟨rr, h1, h2⟩ := hc.ok
  refine pe_imp (pe_callTy h1 hg hm hv ha hn hdb he hpl) ?_
  rintro σ H Q ⟨S, r, L, O, j, rl, rs, p⟩
  refine ⟨S, r, L, O, j, rl, rs, (Post.bind p).imp ?_⟩
  rintro xs H1 ⟨S1, r1, ds, O1, e1, s1, p1, q1⟩
  exact h2 S1 r1 O1 H1 xs ds W σ Q s1 p1 q1
/-- a def of the text is called -/
theorem spM_of {n : Nat} {f : FM} {S : Hp} {r : Rg} {O : Store} {H : Hp} {ds : List D} {vs : List V} {σ : L2.St} {Q : VK} (hl : ds.length = n) (s : Rs X.K ad S r O H) (p : RpAll X.K S r ds vs) (q : Post X.K ad (fun S r => Rp X.K S r) W σ S r Q (f ds O)) : spM X.K ad n f vs H Q (WE W σ) := by
  refine ⟨S, r, O, ds, hl, s, p, ?_⟩
  generalize f ds O = z at q
  cases z with
  | ok a O => exact q
  | exc x O => exact q
  | bad => exact q
/-- the number of arguments is checked by the mirror -/
def arity (n : Nat) (f : FM) : FM := fun ds O => if ds.length = n then f ds O else .bad
theorem spM_ar {n : Nat} {f : FM} {S : Hp} {r : Rg} {O : Store} {H : Hp} {ds : List D} {vs : List V} {σ : L2.St} {Q : VK} (s : Rs X.K ad S r O H) (p : RpAll X.K S r ds vs) (q : Post X.K ad (fun S r => Rp X.K S r) W σ S r Q (arity n f ds O)) : spM X.K ad n f vs H Q (WE W σ) := by
  unfold arity at q
  split at q
  · rename_i hl
    exact spM_of hl s p q
  · exact q.elim
theorem de_call {k n : Nat} {f : Addr} {fd : FuncData} {ps : List Str} {m : FM} {dvs : List V} {dds : List D} {ds : List Value} {x : Str} {p : Pos} (F : FnOk X.prog X.w X.K X.mg X.base (L2.CX X.prog X.w) k f fd ps (spM X.K ad n m)) (hr : Room k X.A) (hg : Gl X x) (hm : X.mg x = some (.ref f)) (hk : PySem.W.keepIn X.K (.ref f) = true)
    (hb : Binds X.K fd ps ds) (hd : Vals dvs ds) (hdd : ∀ S r, RpAll X.K S r dds dvs) (tk : Takes X W) (ha : PA X (e :: es) (tA X.K ad J W mt)) (hdb : (x == ("__debug__" : Str)) = false := by decide)
    (he : starEach (e :: es) X.env = (false, eval e X.env) :: starEach es X.env := by rfl) (hpl : (backTo pos (starEach es X.env)).any (·.1) = false := by rfl) :
    PE X (.Call (.Name x p) (e :: es) [] pos) (tE X.K ad J W (mFn (arity n m) dds mt)) := by
  refine pe_imp (pe_callSD F hr hg hm hk hb hd (fun σ => passAt tk σ) ha hdb he hpl) ?_
  rintro σ H Q ⟨S, r, L, O, j, rl, rs, p⟩
  refine ⟨S, r, L, O, j, rl, rs, (Post.bind p).imp ?_⟩
  rintro xs H1 ⟨S1, r1, ds, O1, e1, s1, p1, q1⟩
  exact spM_ar s1 (p1.append (hdd S1 r1)) q1
end
end DK
end
section
set_option Elab.async false
set_option linter.all false
set_option autoImplicit false
set_option maxRecDepth 100000
set_option maxHeartbeats 4000000
/-! DKStm: statements, loops, defs, by mirrors. -/
namespace DK
open PySem L2
def ofRes {α : Type} (L : Loc) (x : Res α) (f : α → Store → SR) : SR := match x with
  | .ok a O => f a O
  | .exc x O => .exc x L O
  | .bad => .bad
def sNext : SM := fun L O => .next L O
def sSeq (a b : SM) : SM := fun L O => match a L O with
  | .next L1 O1 => b L1 O1
  | .ret d O1 => .ret d O1
  | .brk L1 O1 => .brk L1 O1
  | .cnt L1 O1 => .cnt L1 O1
  | .exc x L1 O1 => .exc x L1 O1
  | .bad => .bad
def sDrop (m : EM) : SM := fun L O => ofRes L (m L O) fun _ O1 => .next L O1
def sRet (m : EM) : SM := fun L O => ofRes L (m L O) fun d O1 => .ret d O1
def sRetN : SM := fun _ O => .ret .non O
def sIf (t : TM) (a b : SM) : SM := fun L O => ofRes L (t L O) fun c O1 => if c = true then a L O1 else b L O1
/-- a target: what a value makes of slots and store -/
abbrev BM := D → Loc → Store → Option (Loc × Store)
abbrev BsM := List D → Loc → Store → Option (Loc × Store)
def bName (i : Nat) : BM := fun d L O => some (L.set i (some d), O)
def bNil : BsM := fun ds L O => match ds with
  | [] => some (L, O)
  | _ => none
def bCons (b : BM) (c : BsM) : BsM := fun ds L O => match ds with
  | d :: ds => (b d L O).bind fun p => c ds p.1 p.2
  | [] => none
def bTup (n : Nat) (c : BsM) : BM := fun d L O => match d with
  | .tup ds => if ds.length = n then c ds L O else none
  | _ => none
def ofB : Option (Loc × Store) → SR
  | some p => .next p.1 p.2
  | none => .bad
def sAsg (m : EM) (b : BM) : SM := fun L O => ofRes L (m L O) fun d O1 => ofB (b d L O1)
/-- a turn of a loop -/
def turnOf (b : BM) (body : SM) (d : D) : SM := fun L O => match b d L O with
  | some p => body p.1 p.2
  | none => .bad
def loopD (turn : D → SM) : List D → SM
  | [], L, O => .next L O
  | d :: ds, L, O => match turn d L O with
    | .next L1 O1 => loopD turn ds L1 O1
    | .cnt L1 O1 => loopD turn ds L1 O1
    | .brk L1 O1 => .next L1 O1
    | .ret d O1 => .ret d O1
    | .exc x L1 O1 => .exc x L1 O1
    | .bad => .bad
/-- over a list of the store -/
def loopH (turn : D → SM) (n : Nat) : Nat → Nat → SM
  | 0, i, L, O => match O[n]? with
    | some (.lst xs) => if xs.length ≤ i then .next L O else .bad
    | _ => .bad
  | k + 1, i, L, O => match O[n]? with
    | some (.lst xs) => match xs[i]? with
      | some d => match turn d L O with
        | .next L1 O1 => loopH turn n k (i + 1) L1 O1
        | .cnt L1 O1 => loopH turn n k (i + 1) L1 O1
        | .brk L1 O1 => .next L1 O1
        | .ret d O1 => .ret d O1
        | .exc x L1 O1 => .exc x L1 O1
        | .bad => .bad
      | none => .next L O
    | _ => .bad
def sForL (m : EM) (b : BM) (body : SM) : SM := fun L O => ofRes L (m L O) fun d O1 => match d with
  | .lst ds => loopD (turnOf b body) ds L O1
  | .rol ds => loopD (turnOf b body) ds L O1
  | .hdl n => match O1[n]? with
    | some (.lst xs) => loopH (turnOf b body) n xs.length 0 L O1
    | _ => .bad
  | _ => .bad
def sForT (m : EM) (b : BM) (body : SM) : SM := fun L O => ofRes L (m L O) fun d O1 => match d with
  | .tup ds => loopD (turnOf b body) ds L O1
  | _ => .bad
def rangeD (lo : Int) (n : Nat) : List D := (List.range n).map fun (i : Nat) => .int (lo + (i : Int))
def int1 : List D → Option Int
  | [.int j] => if -1000000000000 ≤ j ∧ j ≤ 1000000000000 then some j else none
  | _ => none
def int2 : List D → Option (Int × Int)
  | [.int i, .int j] => if (-1000000000000 ≤ i ∧ i ≤ 1000000000000) ∧ (-1000000000000 ≤ j ∧ j ≤ 1000000000000) then some (i, j) else none
  | _ => none
theorem int1_ok {ds : List D} {j : Int} (h : int1 ds = some j) : ds = [.int j] ∧ -1000000000000 ≤ j ∧ j ≤ 1000000000000 := by
  unfold int1 at h
  split at h
  · split at h
    · cases h; exact ⟨rfl, by assumption⟩
    · cases h
  · cases h
theorem int2_ok {ds : List D} {p : Int × Int} (h : int2 ds = some p) : ds = [.int p.1, .int p.2] ∧ (-1000000000000 ≤ p.1 ∧ p.1 ≤ 1000000000000) ∧ (-1000000000000 ≤ p.2 ∧ p.2 ≤ 1000000000000) := by
  unfold int2 at h
  split at h
  · split at h
    · cases h; exact ⟨rfl, by assumption⟩
    · cases h
  · cases h
def sForR1 (t : AM) (b : BM) (body : SM) : SM := fun L O => ofRes L (t L O) fun ds O1 => match int1 ds with
  | some j => loopD (turnOf b body) (rangeD 0 j.toNat) L O1
  | none => .bad
def sForR2 (t : AM) (b : BM) (body : SM) : SM := fun L O => ofRes L (t L O) fun ds O1 => match int2 ds with
  | some p => loopD (turnOf b body) (rangeD p.1 (p.2 - p.1).toNat) L O1
  | none => .bad
/-- a def by its body -/
def runF (n : Nat) (b : SM) : FM := fun ds O => match b (ds.map some ++ List.replicate (n - ds.length) none) O with
  | .next _ O1 => .ok .non O1
  | .ret d O1 => .ok d O1
  | .exc x _ O1 => .exc x O1
  | _ => .bad
section
variable {K : PySem.W.Frag} {ad : Str → Addr} {J : JP} {W : WX} {S S' : Hp} {r r' : Rg} {En : Ends} {L : Loc} {σ : L2.St} {α β : Type} {rep : Hp → Rg → α → β → Prop}
theorem PostS.mono {x : SR} (e : Ext S r S' r') (h : PostS K ad J W S r En x) : PostS K ad J W S' r' En x := by
  cases x with
  | next L O => exact fun S2 r2 σ H e2 => h S2 r2 σ H (e.trans e2)
  | ret d O => exact fun S2 r2 H v e2 => h S2 r2 H v (e.trans e2)
  | brk L O => exact fun S2 r2 σ H e2 => h S2 r2 σ H (e.trans e2)
  | cnt L O => exact fun S2 r2 σ H e2 => h S2 r2 σ H (e.trans e2)
  | exc x L O => exact fun S2 r2 σ H d e2 => h S2 r2 σ H d (e.trans e2)
  | bad => exact h
theorem bindS {x : Res α} {f : α → Store → SR} (j : J.p σ S) (rl : Rl K S r L σ) (h : PostS K ad J W S r En (ofRes L x f)) :
    Post K ad rep W σ S r (fun v H => ∃ S' r' a O, Ext S r S' r' ∧ Rs K ad S' r' O H ∧ rep S' r' a v ∧ PostS K ad J W S' r' En (f a O)) x := by
  cases x with
  | ok a O => exact fun S2 r2 H v e2 s p => ⟨S2, r2, a, O, e2, s, p, PostS.mono e2 h⟩
  | exc a O => exact fun S2 r2 H d e2 s p => h S2 r2 σ H d e2 (J.mono e2.s j) (rl.mono e2) s p
  | bad => exact h
theorem Rl.set {d : D} {v : V} (i : Nat) (h : Rl K S r L σ) (p : Rp K S r d v) : Rl K S r (L.set i (some d)) (σ.set i (some v)) where
  len := by rw [List.length_set, List.length_set]; exact h.len
  at_ := fun j e q => by
    by_cases hj : i = j
    · subst hj
      by_cases hl : i < L.length
      · rw [List.getElem?_set_self hl] at q
        cases q
        exact ⟨v, List.getElem?_set_self (by rw [h.len]; exact hl), p⟩
      · rw [List.getElem?_eq_none (by rw [List.length_set]; omega)] at q
        cases q
    · rw [List.getElem?_set_ne hj] at q
      rw [List.getElem?_set_ne hj]
      exact h.at_ j e q
theorem Rl.wipe (i : Nat) (o : Option V) (h : Rl K S r L σ) : Rl K S r (L.set i none) (σ.set i o) where
  len := by rw [List.length_set, List.length_set]; exact h.len
  at_ := fun j e q => by
    by_cases hj : i = j
    · subst hj
      by_cases hl : i < L.length
      · rw [List.getElem?_set_self hl] at q
        cases q
      · rw [List.getElem?_eq_none (by rw [List.length_set]; omega)] at q
        cases q
    · rw [List.getElem?_set_ne hj] at q
      rw [List.getElem?_set_ne hj]
      exact h.at_ j e q
end
abbrev JT : JP := ⟨fun _ _ => True, fun _ _ => trivial⟩
/-! ### small statements -/
section
variable {X : Cx} {ad : Str → Addr} {J : JP} {W : WX} {pos : Pos} {a b c e tg iter : Expr} {es : List Expr} {m : EM} {mt : AM} {tm : TM} {st : Stmt} {rest body els : List Stmt} {s1 s2 : SM} {bm : BM} {bs : BsM}
theorem dss_nil : PSs X [] (tS X.K ad J W sNext) := by
  refine pss_imp pss_nil ?_
  rintro En σ H ⟨S, r, L, O, j, rl, rs, p⟩
  exact p S r σ H (Ext.refl _ _) j rl rs
theorem dss_cons (h1 : PS X st (tS X.K ad J W s1)) (h2 : PSs X rest (tS X.K ad J W s2)) : PSs X (st :: rest) (tS X.K ad J W (sSeq s1 s2)) := by
  refine pss_imp (pss_cons h1 h2) ?_
  rintro En σ H ⟨S, r, L, O, j, rl, rs, p⟩
  refine ⟨S, r, L, O, j, rl, rs, ?_⟩
  unfold sSeq at p
  generalize s1 L O = z at p
  cases z with
  | next L1 O1 => exact fun S1 r1 σ1 H1 e1 j1 l1 q1 => ⟨S1, r1, L1, O1, j1, l1, q1, PostS.mono e1 p⟩
  | ret d O1 => exact p
  | brk L1 O1 => exact p
  | cnt L1 O1 => exact p
  | exc x L1 O1 => exact p
  | bad => exact p
theorem dss_one (h1 : PS X st (tS X.K ad J W s1)) : PSs X [st] (tS X.K ad J W s1) := pss_one h1
theorem ds_expr (he : PE X e (tE X.K ad J W m)) (hs : swapsWith e none pos.line X.env = pure false := by rfl) : PS X (.Expr e pos) (tS X.K ad J W (sDrop m)) := by
  refine ps_imp (ps_expr he hs) ?_
  rintro En σ H ⟨S, r, L, O, j, rl, rs, p⟩
  refine ⟨S, r, L, O, j, rl, rs, (bindS j rl p).imp ?_⟩
  rintro x H1 ⟨S1, r1, d, O1, e1, q1, p1, k1⟩
  exact k1 S1 r1 σ H1 (Ext.refl _ _) (J.mono e1.s j) (rl.mono e1) q1
theorem ds_ret (he : PE X e (tE X.K ad J W m)) : PS X (.Return (some e) pos) (tS X.K ad J W (sRet m)) := by
  refine ps_imp (ps_ret he) ?_
  rintro En σ H ⟨S, r, L, O, j, rl, rs, p⟩
  refine ⟨S, r, L, O, j, rl, rs, (bindS j rl p).imp ?_⟩
  rintro x H1 ⟨S1, r1, d, O1, e1, q1, p1, k1⟩
  exact k1 S1 r1 H1 x (Ext.refl _ _) q1 p1
theorem ds_if (hc : PT X c (tT X.K ad J W tm)) (ha : PSs X body (tS X.K ad J W s1)) (hb : PSs X els (tS X.K ad J W s2)) : PS X (.If c body els pos) (tS X.K ad J W (sIf tm s1 s2)) := by
  refine ps_imp (ps_if hc ha hb) ?_
  rintro En σ H ⟨S, r, L, O, j, rl, rs, p⟩
  refine ⟨S, r, L, O, j, rl, rs, (bindS j rl p).imp ?_⟩
  rintro k H1 ⟨S1, r1, d, O1, e1, q1, rfl, k1⟩
  cases k with
  | true =>
    rw [if_pos rfl] at k1 ⊢
    exact ⟨S1, r1, L, O1, J.mono e1.s j, rl.mono e1, q1, k1⟩
  | false =>
    rw [if_neg Bool.false_ne_true] at k1 ⊢
    exact ⟨S1, r1, L, O1, J.mono e1.s j, rl.mono e1, q1, k1⟩
/-! ### targets -/
def PostB (K : PySem.W.Frag) (ad : Str → Addr) (J : JP) (S : Hp) (r : Rg) (Q : L2.St → Hp → Prop) : Option (Loc × Store) → Prop
  | some p => ∀ S' r' σ H, Ext S r S' r' → J.p σ S' → Rl K S' r' p.1 σ → Rs K ad S' r' p.2 H → Q σ H
  | none => False
def tG (K : PySem.W.Frag) (ad : Str → Addr) (J : JP) (b : BM) : TG := fun v σ H Q => ∃ S r L O d, J.p σ S ∧ Rl K S r L σ ∧ Rs K ad S r O H ∧ Rp K S r d v ∧ PostB K ad J S r Q (b d L O)
def tGs (K : PySem.W.Frag) (ad : Str → Addr) (J : JP) (b : BsM) : TGs := fun vs σ H Q => ∃ S r L O ds, J.p σ S ∧ Rl K S r L σ ∧ Rs K ad S r O H ∧ RpAll K S r ds vs ∧ PostB K ad J S r Q (b ds L O)
theorem PostB.mono {S S' : Hp} {r r' : Rg} {Q : L2.St → Hp → Prop} {x : Option (Loc × Store)} (e : Ext S r S' r') (h : PostB X.K ad J S r Q x) : PostB X.K ad J S' r' Q x := by
  cases x with
  | some p => exact fun S2 r2 σ H e2 => h S2 r2 σ H (e.trans e2)
  | none => exact h
theorem pg_imp {t t' : TG} (h : PG X tg t) (k : ∀ v σ H Q, t' v σ H Q → t v σ H Q) : PG X tg t' := ⟨fun pins s σ H v u Q I r q => h.run pins s σ H v u Q I r (k v σ H Q q)⟩
theorem pgs_imp {t t' : TGs} (h : PGs X es t) (k : ∀ v σ H Q, t' v σ H Q → t v σ H Q) : PGs X es t' := ⟨fun pins s σ H v u Q I r q => h.run pins s σ H v u Q I r (k v σ H Q q)⟩
theorem dg_name {i : Nat} {x : Str} (hN : X.N.Nodup) (hi : X.N[i]? = some x) (hx : L2.Loc X.env.scope x) (hJ : ∀ (σ : L2.St) (v : V) (S : Hp), J.p σ S → J.p (σ.set i (some v)) S := by intro _ _ _ _; trivial) (hf : X.fn x = true ∨ X.env.scope.names.lookup x = some .local := by first | exact .inl rfl | exact .inr rfl | assumption) :
    PG X (.Name x pos) (tG X.K ad J (bName i)) := by
  refine pg_imp (pg_name hN hi hx hf) ?_
  rintro v σ H Q ⟨S, r, L, O, d, j, rl, rs, rp, p⟩
  exact p S r _ H (Ext.refl _ _) (hJ _ _ _ j) (rl.set i rp) rs
theorem dgs_nil : PGs X [] (tGs X.K ad J bNil) := by
  refine pgs_imp pgs_nil ?_
  rintro vs σ H Q ⟨S, r, L, O, ds, j, rl, rs, rp, p⟩
  cases ds with
  | nil => exact ⟨rp, p S r σ H (Ext.refl _ _) j rl rs⟩
  | cons d ds => exact p.elim
theorem dgs_cons (h1 : PG X e (tG X.K ad J bm)) (h2 : PGs X es (tGs X.K ad J bs)) (hs : (assignEach (e :: es) X.env).map (·.2) = assign e X.env :: (assignEach es X.env).map (·.2) := by rfl) : PGs X (e :: es) (tGs X.K ad J (bCons bm bs)) := by
  refine pgs_imp (pgs_cons h1 h2 hs) ?_
  rintro vs σ H Q ⟨S, r, L, O, ds, j, rl, rs, rp, p⟩
  cases ds with
  | nil => exact p.elim
  | cons d ds =>
    obtain ⟨v, vr, rfl, q1, q2⟩ := rp
    refine ⟨v, vr, rfl, S, r, L, O, d, j, rl, rs, q1, ?_⟩
    have p : PostB X.K ad J S r Q ((bm d L O).bind fun p => bs ds p.1 p.2) := p
    generalize bm d L O = z at p
    cases z with
    | none => exact p
    | some z => exact fun S1 r1 σ1 H1 e1 j1 l1 k1 => ⟨S1, r1, z.1, z.2, ds, j1, l1, k1, RpAll.mono e1 _ _ q2, p.mono e1⟩
theorem dg_tup {k n : Nat} (hc : X.calm = true) (h : PGs X es (tGs X.K ad J bs)) (hn : (assignEach es X.env).length = n := by rfl) (hst : (assignEach es X.env).findIdx? (·.1) = none := by rfl) : PG X (.Tuple es k pos) (tG X.K ad J (bTup n bs)) := by
  refine pg_imp (pg_tup hc h hn hst) ?_
  rintro v σ H Q ⟨S, r, L, O, d, j, rl, rs, rp, p⟩
  cases d with
  | tup ds =>
    obtain ⟨a, vs, rfl, q1, q2⟩ := rp
    have p : PostB X.K ad J S r Q (if ds.length = n then bs ds L O else none) := p
    split at p
    · rename_i hl
      exact ⟨a, vs, rfl, sqT_same rs.sub q1, by rw [q2.length]; exact hl, S, r, L, O, ds, j, rl, rs, q2, p⟩
    · exact p.elim
  | non => exact p.elim
  | bl b => exact p.elim
  | int i => exact p.elim
  | str s => exact p.elim
  | lst s => exact p.elim
  | rol s => exact p.elim
  | hdl s => exact p.elim
theorem asg_imp {t : TG} (hg : ∀ v σ H Q, tG X.K ad J bm v σ H Q → t v σ H Q) : ∀ En σ H, tS X.K ad J W (sAsg m bm) En σ H → tAsg (tE X.K ad J W m) t En σ H := by
  rintro En σ H ⟨S, r, L, O, j, rl, rs, p⟩
  refine ⟨S, r, L, O, j, rl, rs, (bindS j rl p).imp ?_⟩
  rintro x H1 ⟨S1, r1, d, O1, e1, q1, p1, k1⟩
  refine hg _ _ _ _ ⟨S1, r1, L, O1, d, J.mono e1.s j, rl.mono e1, q1, p1, ?_⟩
  generalize bm d L O1 = z at k1
  cases z with
  | none => exact k1
  | some z => exact k1
theorem ds_asg (he : PE X e (tE X.K ad J W m)) (hg : PG X tg (tG X.K ad J bm)) (hs : swapsWithSole [tg] e pos.line X.env = pure false := by rfl) (hw : swappedStores [tg] e X.env = pure none := by rfl)
    (h1 : (assignEach [tg] X.env).map (·.2) = [assign tg X.env] := by rfl) : PS X (.Assign [tg] e pos) (tS X.K ad J W (sAsg m bm)) :=
  ps_imp (ps_asg he hg hs hw h1) (asg_imp fun _ _ _ _ z => z)
theorem ds_set {i : Nat} {x : Str} {pos' : Pos} (hN : X.N.Nodup) (hi : X.N[i]? = some x) (hx : L2.Loc X.env.scope x) (he : PE X e (tE X.K ad J W m)) (hJ : ∀ (σ : L2.St) (v : Option V) (S : Hp), J.p σ S → J.p (σ.set i v) S := by intro _ _ _ _; trivial) (hs : swapsWith e (some (.Name x pos')) pos.line X.env = pure false := by rfl)
    (hf : X.fn x = true ∨ X.env.scope.names.lookup x = some .local := by first | exact .inl rfl | exact .inr rfl | assumption) : PS X (.Assign [.Name x pos'] e pos) (tS X.K ad J W (sAsg m (bName i))) := by
  refine ps_imp (ps_set hN hi hx he hs hf) (asg_imp ?_)
  rintro v σ H Q ⟨S, r, L, O, d, j, rl, rs, rp, p⟩
  exact p S r _ H (Ext.refl _ _) (hJ _ _ _ j) (rl.set i rp) rs
/-- one turn, then the rest f -/
def afterT (x : SR) (f : SM) : SR := match x with
  | .next L1 O1 => f L1 O1
  | .cnt L1 O1 => f L1 O1
  | .brk L1 O1 => .next L1 O1
  | .ret d O1 => .ret d O1
  | .exc x L1 O1 => .exc x L1 O1
  | .bad => .bad
theorem turn_post {S : Hp} {r : Rg} {En : Ends} {x : SR} {f : SM} (h : PostS X.K ad J W S r En (afterT x f)) :
    PostS X.K ad J W S r { En with nx := fun σ H => ∃ S' r' L' O', Ext S r S' r' ∧ J.p σ S' ∧ Rl X.K S' r' L' σ ∧ Rs X.K ad S' r' O' H ∧ PostS X.K ad J W S' r' En (f L' O'), ct := fun σ H => ∃ S' r' L' O', Ext S r S' r' ∧ J.p σ S' ∧ Rl X.K S' r' L' σ ∧ Rs X.K ad S' r' O' H ∧ PostS X.K ad J W S' r' En (f L' O'), bk := En.nx } x := by
  cases x with
  | next L O => exact fun S2 r2 σ H e2 j l s => ⟨S2, r2, L, O, e2, j, l, s, PostS.mono e2 h⟩
  | ret d O => exact h
  | brk L O => exact h
  | cnt L O => exact fun S2 r2 σ H e2 j l s => ⟨S2, r2, L, O, e2, j, l, s, PostS.mono e2 h⟩
  | exc x L O => exact h
  | bad => exact h
theorem loopD_cons {turn : D → SM} {d : D} {ds : List D} {L : Loc} {O : Store} : loopD turn (d :: ds) L O = afterT (turn d L O) (loopD turn ds) := by
  show (match turn d L O with
    | .next L1 O1 => loopD turn ds L1 O1
    | .cnt L1 O1 => loopD turn ds L1 O1
    | .brk L1 O1 => .next L1 O1
    | .ret d O1 => .ret d O1
    | .exc x L1 O1 => .exc x L1 O1
    | .bad => .bad) = _
  cases turn d L O <;> rfl
/-- the body of a turn -/
theorem turn_of {S : Hp} {r : Rg} {En : Ends} {L : Loc} {O : Store} {σ : L2.St} {H : Hp} {d : D} {v : V} (j : J.p σ S) (rl : Rl X.K S r L σ) (rs : Rs X.K ad S r O H) (rp : Rp X.K S r d v) (h : PostS X.K ad J W S r En (turnOf bm s1 d L O)) :
    tG X.K ad J bm v σ H fun σ2 H2 => tS X.K ad J W s1 En σ2 H2 := by
  refine ⟨S, r, L, O, d, j, rl, rs, rp, ?_⟩
  unfold turnOf at h
  generalize bm d L O = z at h
  cases z with
  | none => exact h
  | some z => exact fun S2 r2 σ2 H2 e2 j2 l2 q2 => ⟨S2, r2, z.1, z.2, j2, l2, q2, PostS.mono e2 h⟩
/-- a loop over things that stand still -/
theorem for_still {It' : It} {vs : List V} (ds : List D) {S0 : Hp} {r0 : Rg} (hp : RpAll X.K S0 r0 ds vs)
    (go : ∀ (i : Nat) (H : Hp) (S : Hp) (x : V), Same S0 S → Same S H → vs[i]? = some x → It'.go i H) (yl : ∀ (i : Nat) (H : Hp) (S : Hp) (x y : V) (H' : Hp), Same S0 S → Same S H → vs[i]? = some x → It'.yld i H y H' → y = x ∧ H' = H)
    (sp : ∀ (i : Nat) (H : Hp) (S : Hp), Same S0 S → Same S H → vs.length ≤ i → It'.stop i H) {L : Loc} {O : Store} {σ : L2.St} {H : Hp} {En : Ends} (j : J.p σ S0) (rl : Rl X.K S0 r0 L σ) (rs : Rs X.K ad S0 r0 O H) (h : PostS X.K ad J W S0 r0 En (loopD (turnOf bm s1) ds L O)) :
    ∃ W' : Nat → Nat → L2.St → Hp → Prop, (∃ m, W' 0 m σ H) ∧ ∀ i m σ H, W' i m σ H →
      (It'.stop i H ∧ En.nx σ H) ∨ (It'.go i H ∧ ∃ N : L2.St → Hp → Prop, (∀ σ' H', N σ' H' → ∃ m', m' < m ∧ W' (i + 1) m' σ' H') ∧ ∀ x H', It'.yld i H x H' → tG X.K ad J bm x σ H' fun σ2 H2 => tS X.K ad J W s1 { En with nx := N, ct := N, bk := En.nx } σ2 H2) := by
  refine ⟨fun i m σ H => m = vs.length - i ∧ i ≤ vs.length ∧ ∃ S r L O, Ext S0 r0 S r ∧ J.p σ S ∧ Rl X.K S r L σ ∧ Rs X.K ad S r O H ∧ PostS X.K ad J W S r En (loopD (turnOf bm s1) (ds.drop i) L O), ⟨_, rfl, Nat.zero_le _, S0, r0, L, O, Ext.refl _ _, j, rl, rs, h⟩, ?_⟩
  rintro i m σ H ⟨rfl, hi, S, r, L, O, e, j, rl, rs, h⟩
  by_cases hlt : i < vs.length
  · have hx : vs[i]? = some vs[i] := List.getElem?_eq_getElem hlt
    obtain ⟨d, hd, pd⟩ := RpAll.back hp hx
    have hdrop : ds.drop i = d :: ds.drop (i + 1) := by
      obtain ⟨h1, h2⟩ := List.getElem?_eq_some_iff.mp hd
      rw [List.drop_eq_getElem_cons h1, h2]
    rw [hdrop, loopD_cons] at h
    refine .inr ⟨go i H S _ e.s rs.sub hx, fun σ' H' => ∃ S' r' L' O', Ext S r S' r' ∧ J.p σ' S' ∧ Rl X.K S' r' L' σ' ∧ Rs X.K ad S' r' O' H' ∧ PostS X.K ad J W S' r' En (loopD (turnOf bm s1) (ds.drop (i + 1)) L' O'), ?_, fun x H' hy => ?_⟩
    · rintro σ' H' ⟨S', r', L', O', e', j', l', q', h'⟩
      exact ⟨_, by omega, rfl, hlt, S', r', L', O', e.trans e', j', l', q', h'⟩
    · obtain ⟨rfl, rfl⟩ := yl i H S _ x H' e.s rs.sub hx hy
      exact turn_of j rl rs (Rp.mono e d _ pd) (turn_post h)
  · have e2 : ds.drop i = [] := List.drop_eq_nil_of_le (by rw [← hp.length]; omega)
    rw [e2] at h
    exact .inl ⟨sp i H S e.s rs.sub (by omega), h S r σ H (Ext.refl _ _) j rl rs⟩
/-- over a list of the store -/
theorem loopH_cons {turn : D → SM} {n k i : Nat} {L : Loc} {O : Store} : loopH turn n (k + 1) i L O = (match O[n]? with
    | some (.lst xs) => match xs[i]? with
      | some d => afterT (turn d L O) (loopH turn n k (i + 1))
      | none => .next L O
    | _ => .bad) := by
  show (match O[n]? with
    | some (.lst xs) => match xs[i]? with
      | some d => match turn d L O with
        | .next L1 O1 => loopH turn n k (i + 1) L1 O1
        | .cnt L1 O1 => loopH turn n k (i + 1) L1 O1
        | .brk L1 O1 => .next L1 O1
        | .ret d O1 => .ret d O1
        | .exc x L1 O1 => .exc x L1 O1
        | .bad => .bad
      | none => .next L O
    | _ => .bad) = _
  split
  · split
    · rename_i d _
      cases turn d L O <;> rfl
    · rfl
  · rfl
theorem for_handle {a : Addr} {n : Nat} {S0 : Hp} {r0 : Rg} (ha : r0.l[n]? = some a) {k : Nat} {L : Loc} {O : Store} {σ : L2.St} {H : Hp} {En : Ends} (j : J.p σ S0) (rl : Rl X.K S0 r0 L σ) (rs : Rs X.K ad S0 r0 O H) (h : PostS X.K ad J W S0 r0 En (loopH (turnOf bm s1) n k 0 L O)) :
    ∃ W' : Nat → Nat → L2.St → Hp → Prop, (∃ m, W' 0 m σ H) ∧ ∀ i m σ H, W' i m σ H →
      ((Itl X.K a).stop i H ∧ En.nx σ H) ∨ ((Itl X.K a).go i H ∧ ∃ N : L2.St → Hp → Prop, (∀ σ' H', N σ' H' → ∃ m', m' < m ∧ W' (i + 1) m' σ' H') ∧ ∀ x H', (Itl X.K a).yld i H x H' → tG X.K ad J bm x σ H' fun σ2 H2 => tS X.K ad J W s1 { En with nx := N, ct := N, bk := En.nx } σ2 H2) := by
  refine ⟨fun i m σ H => ∃ S r L O, Ext S0 r0 S r ∧ J.p σ S ∧ Rl X.K S r L σ ∧ Rs X.K ad S r O H ∧ PostS X.K ad J W S r En (loopH (turnOf bm s1) n m i L O), ⟨k, S0, r0, L, O, Ext.refl _ _, j, rl, rs, h⟩, ?_⟩
  rintro i m σ H ⟨S, r, L, O, e, j, rl, rs, h⟩
  have hr : r.l[n]? = some a := pre_get e.r ha
  cases m with
  | zero =>
    have h : PostS X.K ad J W S r En (match O[n]? with | some (.lst xs) => if xs.length ≤ i then .next L O else .bad | _ => .bad) := h
    split at h
    · rename_i xs hx
      obtain ⟨_, vs, q1, q2⟩ := rs.ob n a _ hr hx
      split at h
      · rename_i hl
        exact .inl ⟨⟨vs, .of q1, by rw [q2.length]; exact hl⟩, h S r σ H (Ext.refl _ _) j rl rs⟩
      · exact h.elim
    · exact h.elim
  | succ m =>
    rw [loopH_cons] at h
    split at h
    · rename_i xs hx
      obtain ⟨_, vs, q1, q2⟩ := rs.ob n a _ hr hx
      split at h
      · rename_i d hd
        obtain ⟨v, hv, pv⟩ := q2.get hd
        refine .inr ⟨⟨vs, v, .of q1, hv⟩, fun σ' H' => ∃ S' r' L' O', Ext S r S' r' ∧ J.p σ' S' ∧ Rl X.K S' r' L' σ' ∧ Rs X.K ad S' r' O' H' ∧ PostS X.K ad J W S' r' En (loopH (turnOf bm s1) n m (i + 1) L' O'), ?_, fun x H' hy => ?_⟩
        · rintro σ' H' ⟨S', r', L', O', e', j', l', q', h'⟩
          exact ⟨m, Nat.lt_succ_self m, S', r', L', O', e.trans e', j', l', q', h'⟩
        · obtain ⟨rfl, h2⟩ := hy
          have ex : x = v := Option.some.inj ((h2 vs (.of q1)).symm.trans hv)
          subst ex
          exact turn_of j rl rs pv (turn_post h)
      · rename_i hd
        have hl : xs.length ≤ i := List.getElem?_eq_none_iff.mp hd
        exact .inl ⟨⟨vs, .of q1, by rw [q2.length]; exact hl⟩, h S r σ H (Ext.refl _ _) j rl rs⟩
    · exact h.elim
theorem ds_forL (hp : PassesOwn (model X.prog X.w) X.A X.env X.xe) (hc : X.calm = true) (hi : PE X iter (tE X.K ad J W m)) (hg : PG X tg (tG X.K ad J bm)) (hb : PSs X body (tS X.K ad J W s1)) (hs : ∀ x, foldedSetIterable iter X.env x = pure x := by intro _; rfl) :
    PS X (.For tg iter body [] pos) (tS X.K ad J W (sForL m bm s1)) := by
  refine ps_imp (ps_for hp hc (pi_list hi) hg hb hs) ?_
  rintro En σ H ⟨S, r, L, O, j, rl, rs, p⟩
  refine ⟨S, r, L, O, j, rl, rs, (bindS j rl p).imp ?_⟩
  rintro x H1 ⟨S1, r1, d, O1, e1, q1, p1, k1⟩
  have rl1 := rl.mono e1
  cases d with
  | lst ds =>
    obtain ⟨a, vs, rfl, h1, h2⟩ := p1
    have hq : ∀ {S' : Hp} {H : Hp}, Same S1 S' → Same S' H → SqL X.K H a vs := fun e e' => .of (e' _ _ (e _ _ h1))
    refine ⟨a, rfl, ⟨vs, hq (Same.refl _) q1.sub⟩, for_still (It' := Itl X.K a) ds h2 (fun i H S x e e' hx => ⟨vs, x, hq e e', hx⟩) (fun i H S x y H' e e' hx hy => ⟨Option.some.inj ((hy.2 vs (hq e e')).symm.trans hx), hy.1⟩) (fun i H S e e' hl => ⟨vs, hq e e', hl⟩) (J.mono e1.s j) rl1 q1 k1⟩
  | rol ds =>
    obtain ⟨a, vs, rfl, h1, h2⟩ := p1
    have hq : ∀ {S' : Hp} {H : Hp}, Same S1 S' → Same S' H → SqL X.K H a vs := fun e e' => sqL_same e' (sqL_same e h1)
    refine ⟨a, rfl, ⟨vs, hq (Same.refl _) q1.sub⟩, for_still (It' := Itl X.K a) ds h2 (fun i H S x e e' hx => ⟨vs, x, hq e e', hx⟩) (fun i H S x y H' e e' hx hy => ⟨Option.some.inj ((hy.2 vs (hq e e')).symm.trans hx), hy.1⟩) (fun i H S e e' hl => ⟨vs, hq e e', hl⟩) (J.mono e1.s j) rl1 q1 k1⟩
  | hdl n =>
    obtain ⟨a, rfl, ha⟩ := p1
    have k1 : PostS X.K ad J W S1 r1 En (match O1[n]? with | some (.lst xs) => loopH (turnOf bm s1) n xs.length 0 L O1 | _ => .bad) := k1
    split at k1
    · rename_i xs hx
      obtain ⟨_, vs, q3, q4⟩ := q1.ob n a _ ha hx
      exact ⟨a, rfl, ⟨vs, .of q3⟩, for_handle ha (J.mono e1.s j) rl1 q1 k1⟩
    · exact k1.elim
  | non => exact k1.elim
  | bl b => exact k1.elim
  | int i => exact k1.elim
  | str s => exact k1.elim
  | tup s => exact k1.elim
theorem ds_forT (hp : PassesOwn (model X.prog X.w) X.A X.env X.xe) (hc : X.calm = true) (hi : PE X iter (tE X.K ad J W m)) (hg : PG X tg (tG X.K ad J bm)) (hb : PSs X body (tS X.K ad J W s1)) (hs : ∀ x, foldedSetIterable iter X.env x = pure x := by intro _; rfl) :
    PS X (.For tg iter body [] pos) (tS X.K ad J W (sForT m bm s1)) := by
  refine ps_imp (ps_for hp hc (pi_tup hi) hg hb hs) ?_
  rintro En σ H ⟨S, r, L, O, j, rl, rs, p⟩
  refine ⟨S, r, L, O, j, rl, rs, (bindS j rl p).imp ?_⟩
  rintro x H1 ⟨S1, r1, d, O1, e1, q1, p1, k1⟩
  have rl1 := rl.mono e1
  cases d with
  | tup ds =>
    obtain ⟨a, vs, rfl, h1, h2⟩ := p1
    have hq : ∀ {S' : Hp} {H : Hp}, Same S1 S' → Same S' H → SqT X.K H a vs := fun e e' => sqT_same e' (sqT_same e h1)
    refine ⟨a, rfl, ⟨vs, hq (Same.refl _) q1.sub⟩, for_still (It' := Itt X.K a) ds h2 (fun i H S x e e' hx => ⟨vs, x, hq e e', hx⟩) (fun i H S x y H' e e' hx hy => ⟨Option.some.inj ((hy.2 vs (hq e e')).symm.trans hx), hy.1⟩) (fun i H S e e' hl => ⟨vs, hq e e', hl⟩) (J.mono e1.s j) rl1 q1 k1⟩
  | hdl n => exact k1.elim
  | lst n => exact k1.elim
  | rol n => exact k1.elim
  | non => exact k1.elim
  | bl b => exact k1.elim
  | int i => exact k1.elim
  | str s => exact k1.elim
theorem range_rp {S : Hp} {r : Rg} (lo : Int) (n : Nat) : RpAll X.K S r (rangeD lo n) ((List.range n).map fun (i : Nat) => V.int (lo + (i : Int))) := by
  unfold rangeD
  generalize List.range n = l
  induction l with
  | nil => exact rfl
  | cons a l ih => exact ⟨_, _, rfl, rfl, ih⟩
theorem for_range_post {lo : Int} {n : Nat} {S0 : Hp} {r0 : Rg} {L : Loc} {O : Store} {σ : L2.St} {H : Hp} {En : Ends} (j : J.p σ S0) (rl : Rl X.K S0 r0 L σ) (rs : Rs X.K ad S0 r0 O H) (h : PostS X.K ad J W S0 r0 En (loopD (turnOf bm s1) (rangeD lo n) L O)) :
    ∃ W' : Nat → Nat → L2.St → Hp → Prop, (∃ m, W' 0 m σ H) ∧ ∀ i m σ H, W' i m σ H →
      ((Itr lo n).stop i H ∧ En.nx σ H) ∨ ((Itr lo n).go i H ∧ ∃ N : L2.St → Hp → Prop, (∀ σ' H', N σ' H' → ∃ m', m' < m ∧ W' (i + 1) m' σ' H') ∧ ∀ x H', (Itr lo n).yld i H x H' → tG X.K ad J bm x σ H' fun σ2 H2 => tS X.K ad J W s1 { En with nx := N, ct := N, bk := En.nx } σ2 H2) := by
  have hlen : ((List.range n).map fun (i : Nat) => V.int (lo + (i : Int))).length = n := by rw [List.length_map, List.length_range]
  refine for_still (rangeD lo n) (range_rp lo n) (fun i H S x e e' hx => ?_) (fun i H S x y H' e e' hx hy => ?_) (fun i H S e e' hl => ?_) j rl rs h
  · have := (List.getElem?_eq_some_iff.mp hx).1
    rw [hlen] at this
    exact this
  · have hi := (List.getElem?_eq_some_iff.mp hx).1
    rw [hlen] at hi
    rw [List.getElem?_map, List.getElem?_range hi] at hx
    exact ⟨hy.2.trans (Option.some.inj hx), hy.1⟩
  · rw [hlen] at hl
    exact hl
theorem ds_forR1 {p q : Pos} (hp : PassesOwn (model X.prog X.w) X.A X.env X.xe) (hc : X.calm = true) (hg0 : Gl X "range") (hm : X.mg "range" = none) (ha : PA X [a] (tA X.K ad J W mt)) (hg : PG X tg (tG X.K ad J bm)) (hb : PSs X body (tS X.K ad J W s1))
    (hs0 : starEach [a] X.env = [(false, eval a X.env)] := by rfl) (hs : ∀ x, foldedSetIterable (.Call (.Name "range" p) [a] [] q) X.env x = pure x := by intro _; rfl) : PS X (.For tg (.Call (.Name "range" p) [a] [] q) body [] pos) (tS X.K ad J W (sForR1 mt bm s1)) := by
  refine ps_imp (ps_for hp hc (pi_range1 hg0 hm ha hs0) hg hb hs) ?_
  rintro En σ H ⟨S, r, L, O, j, rl, rs, p⟩
  refine ⟨S, r, L, O, j, rl, rs, (bindS j rl p).imp ?_⟩
  rintro vs H1 ⟨S1, r1, ds, O1, e1, q1, p1, k1⟩
  have k2 : PostS X.K ad J W S1 r1 En (match int1 ds with | some j => loopD (turnOf bm s1) (rangeD 0 j.toNat) L O1 | none => .bad) := k1
  clear k1
  revert k2
  cases hj : int1 ds with
  | none => exact fun k2 => k2.elim
  | some jj =>
    intro k1
    obtain ⟨rfl, b1, b2⟩ := int1_ok hj
    obtain ⟨v, vr, rfl, rfl, rfl⟩ := p1
    exact ⟨jj, rfl, by omega, by omega, for_range_post (J.mono e1.s j) (rl.mono e1) q1 k1⟩
theorem ds_forR2 {p q : Pos} (hp : PassesOwn (model X.prog X.w) X.A X.env X.xe) (hc : X.calm = true) (hg0 : Gl X "range") (hm : X.mg "range" = none) (ha : PA X [a, b] (tA X.K ad J W mt)) (hg : PG X tg (tG X.K ad J bm)) (hb : PSs X body (tS X.K ad J W s1))
    (hs0 : starEach [a, b] X.env = [(false, eval a X.env), (false, eval b X.env)] := by rfl) (hs2 : starEach [b] X.env = [(false, eval b X.env)] := by rfl) (hs : ∀ x, foldedSetIterable (.Call (.Name "range" p) [a, b] [] q) X.env x = pure x := by intro _; rfl) : PS X (.For tg (.Call (.Name "range" p) [a, b] [] q) body [] pos) (tS X.K ad J W (sForR2 mt bm s1)) := by
  refine ps_imp (ps_for hp hc (pi_range2 hg0 hm ha hs0 hs2) hg hb hs) ?_
  rintro En σ H ⟨S, r, L, O, j, rl, rs, p⟩
  refine ⟨S, r, L, O, j, rl, rs, (bindS j rl p).imp ?_⟩
  rintro vs H1 ⟨S1, r1, ds, O1, e1, q1, p1, k1⟩
  have k2 : PostS X.K ad J W S1 r1 En (match int2 ds with | some p => loopD (turnOf bm s1) (rangeD p.1 (p.2 - p.1).toNat) L O1 | none => .bad) := k1
  clear k1
  revert k2
  cases hj : int2 ds with
  | none => exact fun k2 => k2.elim
  | some jj =>
    intro k1
    obtain ⟨rfl, ⟨b1, b2⟩, b3, b4⟩ := int2_ok hj
    obtain ⟨v, vr, rfl, rfl, u, ur, rfl, rfl, rfl⟩ := p1
    exact ⟨jj.1, jj.2, rfl, ⟨by omega, by omega, by omega, by omega⟩, for_range_post (J.mono e1.s j) (rl.mono e1) q1 k1⟩
end
/-! ### a def -/
section
variable {P : Program} {w : World} {K : PySem.W.Frag} {mg : Str → Option Value} {base : Heap} {ad : Str → Addr}
theorem start_rl {S : Hp} {r : Rg} {N : List Str} {ds : List D} {vs : List V} (hl : vs.length ≤ N.length) (h : RpAll K S r ds vs) : Rl K S r (ds.map some ++ List.replicate (N.length - ds.length) none) (L2.start N vs) where
  len := by
    unfold L2.start
    rw [List.length_append, List.length_append, List.length_map, List.length_map, List.length_replicate, List.length_replicate, h.length]
  at_ := fun i d q => by
    by_cases hi : i < ds.length
    · rw [List.getElem?_append_left (by rw [List.length_map]; exact hi), List.getElem?_map] at q
      cases e : ds[i]? with
      | none => rw [e] at q; cases q
      | some d' =>
        rw [e] at q
        obtain rfl : d' = d := Option.some.inj (Option.some.inj q)
        obtain ⟨v, hv, p⟩ := h.get e
        refine ⟨v, ?_, p⟩
        unfold L2.start
        rw [List.getElem?_append_left (by rw [List.length_map, h.length]; exact hi), List.getElem?_map, hv]
        rfl
    · rw [List.getElem?_append_right (by rw [List.length_map]; omega), List.getElem?_replicate] at q
      split at q <;> cases q
theorem fn_def {x qual : Str} {params : Arguments} {bd : List Stmt} {scope : Scope} {dvs : List V} {kws : List (Str × V)} {f : Addr} {fd : FuncData} {N ps : List Str} {k : Nat} {b : SM} (F : FunD K x qual params bd scope dvs kws f fd) (sc : FnScope N ps scope)
    (hb : ∀ (cdv : Value) (A : Around) (outer : List Env) (s : Shared) (H : Hp) (E : XK), Room k (A.deeper (PyProof.Rows.envOfC qual scope s.heap.objs.size f cdv)) →
      PSs (cxOf (L2.CX P w) P w K mg base N qual scope f cdv A outer s H E) bd (tS K ad JT (fun c d _ H => E c d H) b)) :
    FnOk P w K mg base (L2.CX P w) (k + 1) f fd ps (spM K ad ps.length (runF N.length b)) := by
  have hpl : ps.length ≤ N.length := by have := congrArg List.length sc.pre; rw [List.length_take] at this; omega
  refine F.ok sc (fun vs H Q E h => ?_) (fun cdv A outer s H vs Q E hr h => ?_)
  · obtain ⟨S, r, O, ds, hl, _, hp, _⟩ := h
    rw [hp.length, hl]
  · refine ⟨_, hb cdv A outer s H E hr, ?_⟩
    obtain ⟨S, r, O, ds, hl, rs, hp, p⟩ := h
    refine ⟨S, r, _, O, trivial, start_rl (by rw [hp.length, hl]; exact hpl) hp, rs, ?_⟩
    unfold runF at p
    generalize b (ds.map some ++ List.replicate (N.length - ds.length) none) O = z at p
    cases z with
    | next L O => exact fun S' r' σ H e _ _ q => p S' r' H .non e q rfl
    | ret d O => exact p
    | brk L O => exact p.elim
    | cnt L O => exact p.elim
    | exc x L O => exact fun S' r' σ H d e _ _ q g => p S' r' H d e q g
    | bad => exact p
end
end DK
end
section
set_option Elab.async false
set_option linter.all false
set_option autoImplicit false
set_option maxRecDepth 100000
set_option maxHeartbeats 4000000
/-! DKOps: operators, subscripts, built-ins, by mirrors. -/
namespace DK
open PySem L2
def newLO (h : Bool) (xs : List D) (O : Store) : Option (D × Store) := if xs.length ≤ 1000000 then (if h = true then some (.hdl O.length, O ++ [.lst xs]) else some (.lst xs, O)) else none
theorem ofO_newLO (h : Bool) (xs : List D) (O : Store) : ofO (newLO h xs O) = newL h xs O := by
  unfold newLO newL
  split
  · split <;> rfl
  · rfl
/-! ### + and others -/
def gAdd (h : Bool) : Store → D → D → Option (D × Store) := fun O x y => match x, y with
  | .int i, .int j => some (.int (i + j), O)
  | .str a, .str b => if a.length + b.length ≤ 1000000 then some (.str (a ++ b), O) else none
  | .tup a, .tup b => if a.length + b.length ≤ 1000000 then some (.tup (a ++ b), O) else none
  | _, _ => match lstOf O x, lstOf O y with
    | some a, some b => newLO h (a ++ b) O
    | _, _ => none
def gI (f : Int → Int → D) (C : Int → Int → Bool) : Store → D → D → Option (D × Store) := fun O x y => match x, y with
  | .int i, .int j => if C i j = true then some (f i j, O) else none
  | _, _ => none
def gSub := gI (fun i j => .int (i - j)) (fun _ _ => true)
def gMul := gI (fun i j => .int (i * j)) (fun i j => decide (i.natAbs.log2 + j.natAbs.log2 < 1000000))
def gFdiv := gI (fun i j => .int (i / j)) (fun _ j => decide (0 < j ∧ j.natAbs.log2 < 9000))
def gMod := gI (fun i j => .int (i % j)) (fun _ j => decide (0 < j))
def gPow := gI (fun i j => .int (i ^ j.toNat)) (fun i j => decide (0 ≤ j ∧ j ≤ 1000000 ∧ i.natAbs < 2 ^ 64))
section
variable {X : Cx} {ad : Str → Addr}
theorem catL {S : Hp} {r : Rg} {O : Store} {H : Hp} {x y : V} {d e : D} {W : WX} {σ : L2.St} {Q : VK} {h : Bool} (rs : Rs X.K ad S r O H) (px : Rp X.K S r d x) (py : Rp X.K S r e y)
    (p : Post X.K ad (fun S r => Rp X.K S r) W σ S r Q (ofO (match lstOf O d, lstOf O e with | some a, some b => newLO h (a ++ b) O | _, _ => none))) : rCat x y H Q := by
  split at p
  · rename_i a b ha hb
    obtain ⟨l, vs, rfl, q1, q2⟩ := lstOf_ok rs px ha
    obtain ⟨m, us, rfl, q3, q4⟩ := lstOf_ok rs py hb
    rw [ofO_newLO] at p
    obtain ⟨h1, h2⟩ := newL_post rs (q2.append q4) p
    exact ⟨l, m, vs, us, rfl, rfl, q1, q3, by rw [List.length_append] at h1; exact h1, h2⟩
  · exact p.elim
theorem od_add (h : Bool) : OpD X ad (binaryOp .Add) (gAdd h) where
  ok := by
    refine ⟨_, OpR.or op_add (OpR.or op_add_str (OpR.or op_catA op_cat)), ?_⟩
    intro S r O H x y d e W σ Q rs px py p
    unfold gAdd at p
    split at p
    · rename_i i j
      rw [show x = .int i from px, show y = .int j from py]
      exact .inl ⟨i, j, rfl, rfl, p S r H _ (Ext.refl _ _) rs rfl⟩
    · rename_i a b
      rw [show x = .str a from px, show y = .str b from py]
      split at p
      · rename_i hl
        exact .inr (.inl ⟨a, b, rfl, rfl, million hl, p S r H _ (Ext.refl _ _) rs rfl⟩)
      · exact p.elim
    · rename_i a b
      split at p
      · rename_i hl
        obtain ⟨l, vs, rfl, q1, q2⟩ := px
        obtain ⟨m, us, rfl, q3, q4⟩ := py
        refine .inr (.inr (.inl ⟨l, m, vs, us, rfl, rfl, sqT_same rs.sub q1, sqT_same rs.sub q3, by rw [q2.length, q4.length]; exact million hl, fun e => ?_, fun e1 e2 => ?_, fun e1 e2 => ?_⟩))
        · refine p S r H _ (Ext.refl _ _) rs ⟨m, us, rfl, q3, ?_⟩
          have q5 := q2.append q4
          rw [e] at q5
          exact q5
        · refine p S r H _ (Ext.refl _ _) rs ⟨l, vs, rfl, q1, ?_⟩
          have q5 := q2.append q4
          rw [e2, List.append_nil] at q5
          exact q5
        · exact newT_post rs (q2.append q4) p
      · exact p.elim
    · exact .inr (.inr (.inr (catL rs px py p)))
theorem od_I {bop : Value → Value → Sem Value} {f : Int → Int → V} {g : Int → Int → D} {C : Int → Int → Prop} {c : Int → Int → Bool} (ho : OpR X bop (rI C f)) (hc : ∀ i j, c i j = true → C i j) (hg : ∀ i j S r, Rp X.K S r (g i j) (f i j)) : OpD X ad bop (gI g c) where
  ok := by
    refine ⟨_, ho, ?_⟩
    intro S r O H x y d e W σ Q rs px py p
    unfold gI at p
    split at p
    · rename_i i j
      rw [show x = .int i from px, show y = .int j from py]
      split at p
      · rename_i hcc
        exact ⟨i, j, rfl, rfl, hc i j hcc, p S r H _ (Ext.refl _ _) rs (hg i j S r)⟩
      · exact p.elim
    · exact p.elim
theorem od_I0 {bop : Value → Value → Sem Value} {f : Int → Int → V} {g : Int → Int → D} (ho : OpR X bop (rI0 f)) (hg : ∀ i j S r, Rp X.K S r (g i j) (f i j)) : OpD X ad bop (gI g fun _ _ => true) where
  ok := by
    refine ⟨_, ho, ?_⟩
    intro S r O H x y d e W σ Q rs px py p
    unfold gI at p
    split at p
    · rename_i i j
      rw [show x = .int i from px, show y = .int j from py]
      rw [if_pos rfl] at p
      exact ⟨i, j, rfl, rfl, p S r H _ (Ext.refl _ _) rs (hg i j S r)⟩
    · exact p.elim
theorem od_sub : OpD X ad (binaryOp .Sub) gSub := od_I0 op_sub fun _ _ _ _ => rfl
theorem od_mul : OpD X ad (binaryOp .Mult) gMul := od_I op_mulW (fun i j h => (of_decide_eq_true h : i.natAbs.log2 + j.natAbs.log2 < 1000000)) fun _ _ _ _ => rfl
theorem od_fdiv : OpD X ad (binaryOp .FloorDiv) gFdiv := od_I op_fdivW (fun i j h => (of_decide_eq_true h : 0 < j ∧ j.natAbs.log2 < 9000)) fun _ _ _ _ => rfl
theorem od_mod : OpD X ad (binaryOp .Mod) gMod := od_I op_mod (fun i j h => of_decide_eq_true h) fun _ _ _ _ => rfl
theorem od_pow : OpD X ad (binaryOp .Pow) gPow := od_I op_pow (fun i j h => (of_decide_eq_true h : 0 ≤ j ∧ j ≤ 1000000 ∧ i.natAbs < 2 ^ 64)) fun _ _ _ _ => rfl
/-! ### comparisons -/
/-- ints, texts -/
def gCmp (f : Int → Int → Bool) (g : Str → Str → Bool) : Store → D → D → Option (D × Store) := fun O x y => match x, y with
  | .int i, .int j => some (.bl (f i j), O)
  | .str i, .str j => some (.bl (g i j), O)
  | _, _ => none
def gLt := gCmp (fun i j => decide (i < j)) (fun i j => decide (i.cps.toList < j.cps.toList))
def gLe := gCmp (fun i j => decide (i ≤ j)) (fun i j => !decide (j.cps.toList < i.cps.toList))
def gGt := gCmp (fun i j => decide (j < i)) (fun i j => decide (j.cps.toList < i.cps.toList))
def gGe := gCmp (fun i j => decide (j ≤ i)) (fun i j => !decide (i.cps.toList < j.cps.toList))
theorem od_cmp {bop : Value → Value → Sem Value} {f : Int → Int → Bool} {g : Str → Str → Bool} (h1 : OpR X bop (rI0 fun i j => .bl (f i j))) (h2 : OpR X bop (fun x y H Q => ∃ i j, x = .str i ∧ y = .str j ∧ Q (.bl (g i j)) H)) : OpD X ad bop (gCmp f g) where
  ok := by
    refine ⟨_, OpR.or h1 h2, ?_⟩
    intro S r O H x y d e W σ Q rs px py p
    unfold gCmp at p
    split at p
    · rename_i i j
      rw [show x = .int i from px, show y = .int j from py]
      exact .inl ⟨i, j, rfl, rfl, p S r H _ (Ext.refl _ _) rs rfl⟩
    · rename_i i j
      rw [show x = .str i from px, show y = .str j from py]
      exact .inr ⟨i, j, rfl, rfl, p S r H _ (Ext.refl _ _) rs rfl⟩
    · exact p.elim
theorem od_lt : OpD X ad (compareOp .Lt) gLt := od_cmp op_lt op_lt_str
theorem od_le : OpD X ad (compareOp .LtE) gLe := od_cmp op_le op_le_str
theorem od_gt : OpD X ad (compareOp .Gt) gGt := od_cmp op_gt op_gt_str
theorem od_ge : OpD X ad (compareOp .GtE) gGe := od_cmp op_ge op_ge_str
/-- flat values -/
def flatOf : D → Option V
  | .non => some .non
  | .bl b => some (.bl b)
  | .int i => some (.int i)
  | .str s => some (.str s)
  | _ => none
theorem flatOf_ok {K : PySem.W.Frag} {S : Hp} {r : Rg} {d : D} {v x : V} (h : flatOf d = some v) (p : Rp K S r d x) : x = v ∧ flatV v = true := by
  cases d <;> first | (cases h; done) | (have e := Option.some.inj h; subst e; exact ⟨p, rfl⟩)
/-- a value read through, for == -/
def deep (O : Store) : Nat → D → Option PyData
  | 0, _ => none
  | n + 1, .non => some .none
  | n + 1, .bl b => some (.bool b)
  | n + 1, .int i => some (.int i)
  | n + 1, .str s => some (.str s)
  | n + 1, .lst xs => (xs.mapM (deep O n)).map .list
  | n + 1, .rol xs => (xs.mapM (deep O n)).map .list
  | n + 1, .tup xs => (xs.mapM (deep O n)).map .tuple
  | n + 1, .hdl k => match O[k]? with
    | some (.lst xs) => (xs.mapM (deep O n)).map .list
    | _ => none
theorem mapM_cons {α β : Type} {f : α → Option β} {x : α} {xs : List α} : (x :: xs).mapM f = (f x).bind fun y => (xs.mapM f).bind fun ys => some (y :: ys) := by
  simp [List.mapM_cons]
theorem deepAll_ok {K : PySem.W.Frag} {S : Hp} {r : Rg} {H : Hp} {g : D → Option PyData} (hg : ∀ d v p, Rp K S r d v → g d = some p → Dp K H v p) : ∀ {ds : List D} {vs : List V} {ps : List PyData}, RpAll K S r ds vs → ds.mapM g = some ps → DpAll K H vs ps
  | [], vs, ps, h, e => by
    rw [show vs = [] from h]
    have e : some [] = some ps := by rw [List.mapM_nil] at e; exact e
    cases e
    exact .nil
  | d :: ds, vs, ps, h, e => by
    obtain ⟨v, vr, rfl, h1, h2⟩ := h
    rw [mapM_cons] at e
    cases e1 : g d with
    | none => rw [e1] at e; cases e
    | some p =>
      rw [e1] at e
      cases e2 : ds.mapM g with
      | none =>
        rw [e2] at e
        cases e
      | some qs =>
        rw [e2] at e
        cases e
        exact .cons (hg d v p h1 e1) (deepAll_ok hg h2 e2)
theorem deep_ok {K : PySem.W.Frag} {S : Hp} {r : Rg} {O : Store} {H : Hp} (rs : Rs K ad S r O H) : ∀ (n : Nat) (d : D) (v : V) (p : PyData), Rp K S r d v → deep O n d = some p → Dp K H v p
  | 0, d, v, p, h, e => by cases e
  | n + 1, .non, v, p, h, e => by cases e; rw [show v = .non from h]; exact .non
  | n + 1, .bl b, v, p, h, e => by cases e; rw [show v = .bl b from h]; exact .bl b
  | n + 1, .int i, v, p, h, e => by cases e; rw [show v = .int i from h]; exact .int i
  | n + 1, .str s, v, p, h, e => by cases e; rw [show v = .str s from h]; exact .str s
  | n + 1, .lst xs, v, p, h, e => by
    obtain ⟨a, vs, rfl, q1, q2⟩ := h
    obtain ⟨ps, e1, rfl⟩ := Option.map_eq_some_iff.mp (show (xs.mapM (deep O n)).map .list = some p from e)
    exact .lst (.of (rs.sub _ _ q1)) (deepAll_ok (deep_ok rs n) q2 e1)
  | n + 1, .rol xs, v, p, h, e => by
    obtain ⟨a, vs, rfl, q1, q2⟩ := h
    obtain ⟨ps, e1, rfl⟩ := Option.map_eq_some_iff.mp (show (xs.mapM (deep O n)).map .list = some p from e)
    exact .lst (sqL_same rs.sub q1) (deepAll_ok (deep_ok rs n) q2 e1)
  | n + 1, .tup xs, v, p, h, e => by
    obtain ⟨a, vs, rfl, q1, q2⟩ := h
    obtain ⟨ps, e1, rfl⟩ := Option.map_eq_some_iff.mp (show (xs.mapM (deep O n)).map .tuple = some p from e)
    exact .tup (sqT_same rs.sub q1) (deepAll_ok (deep_ok rs n) q2 e1)
  | n + 1, .hdl k, v, p, h, e => by
    have e : (match O[k]? with | some (.lst xs) => (xs.mapM (deep O n)).map .list | _ => none) = some p := e
    split at e
    · rename_i xs hx
      obtain ⟨a, rfl, q1, _, vs, q3, q4⟩ := hdl_at rs h hx
      obtain ⟨ps, e1, rfl⟩ := Option.map_eq_some_iff.mp e
      exact .lst (.of q3) (deepAll_ok (deep_ok rs n) q4 e1)
    · cases e
/-- == -/
def eqD (O : Store) (x y : D) : Option Bool := match flatOf x, flatOf y with
  | some v, some u => if scal v u = true then some (decide (v = u)) else match deep O 2 x, deep O 2 y with
    | some p, some q => if SeqAt.shaped p = true ∧ SeqAt.shaped q = true then some (PyData.eqv p q) else none
    | _, _ => none
  | _, _ => match deep O 30 x, deep O 30 y with
    | some p, some q => if SeqAt.shaped p = true ∧ SeqAt.shaped q = true then some (PyData.eqv p q) else none
    | _, _ => none
def gEq : Store → D → D → Option (D × Store) := fun O x y => match eqD O x y with
  | some b => some (.bl b, O)
  | none => none
def gNe : Store → D → D → Option (D × Store) := fun O x y => match eqD O x y with
  | some b => some (.bl (!b), O)
  | none => none
theorem eqD_ok {S : Hp} {r : Rg} {O : Store} {H : Hp} {x y : V} {d e : D} {b : Bool} (rs : Rs X.K ad S r O H) (px : Rp X.K S r d x) (py : Rp X.K S r e y) (h : eqD O d e = some b) :
    (scal x y = true ∧ decide (x = y) = b) ∨ (∃ p q, Dp X.K H x p ∧ Dp X.K H y q ∧ SeqAt.shaped p = true ∧ SeqAt.shaped q = true ∧ PyData.eqv p q = b) := by
  have deepCase : ∀ n, (match deep O n d, deep O n e with | some p, some q => if SeqAt.shaped p = true ∧ SeqAt.shaped q = true then some (PyData.eqv p q) else none | _, _ => none) = some b →
      (∃ p q, Dp X.K H x p ∧ Dp X.K H y q ∧ SeqAt.shaped p = true ∧ SeqAt.shaped q = true ∧ PyData.eqv p q = b) := fun n h => by
    split at h
    · rename_i p q e1 e2
      split at h
      · rename_i hs
        exact ⟨p, q, deep_ok rs n d x p px e1, deep_ok rs n e y q py e2, hs.1, hs.2, Option.some.inj h⟩
      · cases h
    · cases h
  unfold eqD at h
  split at h
  · rename_i v u e1 e2
    split at h
    · rename_i hs
      obtain ⟨rfl, _⟩ := flatOf_ok e1 px
      obtain ⟨rfl, _⟩ := flatOf_ok e2 py
      exact .inl ⟨hs, Option.some.inj h⟩
    · exact .inr (deepCase 2 h)
  · exact .inr (deepCase 30 h)
theorem od_eq (hu : X.A.units + 64 < cLine) : OpD X ad (compareOp .Eq) gEq where
  ok := by
    refine ⟨_, OpR.or op_eq (op_eqD hu), ?_⟩
    intro S r O H x y d e W σ Q rs px py p
    unfold gEq at p
    split at p
    · rename_i b hb
      have q := p S r H (.bl b) (Ext.refl _ _) rs rfl
      rcases eqD_ok rs px py hb with ⟨h1, h2⟩ | ⟨p1, p2, h1, h2, h3, h4, h5⟩
      · exact .inl ⟨h1, by rw [h2]; exact q⟩
      · exact .inr ⟨p1, p2, h1, h2, h3, h4, by rw [h5]; exact q⟩
    · exact p.elim
theorem od_ne (hu : X.A.units + 64 < cLine) : OpD X ad (compareOp .NotEq) gNe where
  ok := by
    refine ⟨_, OpR.or op_ne (op_neD hu), ?_⟩
    intro S r O H x y d e W σ Q rs px py p
    unfold gNe at p
    split at p
    · rename_i b hb
      have q := p S r H (.bl (!b)) (Ext.refl _ _) rs rfl
      rcases eqD_ok rs px py hb with ⟨h1, h2⟩ | ⟨p1, p2, h1, h2, h3, h4, h5⟩
      · exact .inl ⟨h1, by rw [h2]; exact q⟩
      · exact .inr ⟨p1, p2, h1, h2, h3, h4, by rw [h5]; exact q⟩
    · exact p.elim
def isNon : D → Bool
  | .non => true
  | _ => false
theorem isNon_ok {K : PySem.W.Frag} {S : Hp} {r : Rg} {d : D} {x : V} (p : Rp K S r d x) : decide (x = .non) = isNon d := by
  cases d with
  | non => rw [show x = .non from p]; rfl
  | bl b => rw [show x = .bl b from p]; rfl
  | int i => rw [show x = .int i from p]; rfl
  | str s => rw [show x = .str s from p]; rfl
  | lst s => obtain ⟨a, _, rfl, _⟩ := p; rfl
  | rol s => obtain ⟨a, _, rfl, _⟩ := p; rfl
  | tup s => obtain ⟨a, _, rfl, _⟩ := p; rfl
  | hdl s => obtain ⟨a, rfl, _⟩ := p; rfl
def gIs : Store → D → D → Option (D × Store) := fun O x y => match y with
  | .non => some (.bl (isNon x), O)
  | _ => none
def gIsNot : Store → D → D → Option (D × Store) := fun O x y => match y with
  | .non => some (.bl (!isNon x), O)
  | _ => none
theorem od_is : OpD X ad (compareOp .Is) gIs where
  ok := by
    refine ⟨_, op_isN, ?_⟩
    intro S r O H x y d e W σ Q rs px py p
    unfold gIs at p
    split at p
    · exact ⟨py, by rw [isNon_ok px]; exact p S r H _ (Ext.refl _ _) rs rfl⟩
    · exact p.elim
theorem od_isnot : OpD X ad (compareOp .IsNot) gIsNot where
  ok := by
    refine ⟨_, op_notN, ?_⟩
    intro S r O H x y d e W σ Q rs px py p
    unfold gIsNot at p
    split at p
    · exact ⟨py, by rw [isNon_ok px]; exact p S r H _ (Ext.refl _ _) rs rfl⟩
    · exact p.elim
/-- in, not in: a sign in a text; a flat value in a list or tuple of flat ones -/
def inD (O : Store) (x y : D) : Option Bool := match x, y with
  | .str z, .str w => match z.cps.toList with
    | [c] => some (decide (c ∈ w.cps.toList))
    | _ => none
  | _, _ => match seqOf O y, flatOf x with
    | some ds, some v => match ds.mapM flatOf with
      | some vs => some (inV v vs)
      | none => none
    | _, _ => none
def gIn : Store → D → D → Option (D × Store) := fun O x y => match inD O x y with
  | some b => some (.bl b, O)
  | none => none
def gNotIn : Store → D → D → Option (D × Store) := fun O x y => match inD O x y with
  | some b => some (.bl (!b), O)
  | none => none
theorem flats_ok {K : PySem.W.Frag} {S : Hp} {r : Rg} : ∀ {ds : List D} {vs us : List V}, ds.mapM flatOf = some vs → RpAll K S r ds us → us = vs ∧ vs.all flatV = true
  | [], vs, us, e, h => by
    have e : some [] = some vs := by rw [List.mapM_nil] at e; exact e
    cases e
    exact ⟨h, rfl⟩
  | d :: ds, vs, us, e, h => by
    obtain ⟨v, vr, rfl, h1, h2⟩ := h
    rw [mapM_cons] at e
    cases e1 : flatOf d with
    | none => rw [e1] at e; cases e
    | some p =>
      rw [e1] at e
      cases e2 : ds.mapM flatOf with
      | none => rw [e2] at e; cases e
      | some qs =>
        rw [e2] at e
        cases e
        obtain ⟨rfl, f1⟩ := flatOf_ok e1 h1
        obtain ⟨rfl, f2⟩ := flats_ok e2 h2
        exact ⟨rfl, by rw [List.all_cons, f1, f2]; rfl⟩
theorem inD_ok {S : Hp} {r : Rg} {O : Store} {H : Hp} {x y : V} {d e : D} {b : Bool} (rs : Rs X.K ad S r O H) (px : Rp X.K S r d x) (py : Rp X.K S r e y) (h : inD O d e = some b) :
    (∃ (c : Nat) (z : Str), x = .str ⟨#[c]⟩ ∧ y = .str z ∧ decide (c ∈ z.cps.toList) = b) ∨ (∃ p xs, y = .ref p ∧ (SqL X.K H p xs ∨ SqT X.K H p xs) ∧ flatV x = true ∧ xs.all flatV = true ∧ inV x xs = b) := by
  unfold inD at h
  split at h
  · rename_i z w
    split at h
    · rename_i c hc
      refine .inl ⟨c, w, ?_, py, Option.some.inj h⟩
      rw [show x = .str z from px]
      congr 1
      obtain ⟨⟨l⟩⟩ := z
      have hc : l = [c] := hc
      rw [hc]
    · cases h
  · split at h
    · rename_i ds v e1 e2
      split at h
      · rename_i vs e3
        obtain ⟨a, us, rfl, q1, q2⟩ := seqOf_ok rs py e1
        obtain ⟨rfl, f1⟩ := flatOf_ok e2 px
        obtain ⟨rfl, f2⟩ := flats_ok e3 q2
        exact .inr ⟨a, us, rfl, q1, f1, f2, Option.some.inj h⟩
      · cases h
    · cases h
theorem od_in : OpD X ad (compareOp .In) gIn where
  ok := by
    refine ⟨_, OpR.or op_in_sign op_in_seq, ?_⟩
    intro S r O H x y d e W σ Q rs px py p
    unfold gIn at p
    split at p
    · rename_i b hb
      have q := p S r H (.bl b) (Ext.refl _ _) rs rfl
      rcases inD_ok rs px py hb with ⟨c, z, h1, h2, h3⟩ | ⟨p1, xs, h1, h2, h3, h4, h5⟩
      · exact .inl ⟨c, z, h1, h2, by rw [h3]; exact q⟩
      · exact .inr ⟨p1, xs, h1, h2, h3, h4, by rw [if_neg Bool.false_ne_true, h5]; exact q⟩
    · exact p.elim
theorem od_notin : OpD X ad (compareOp .NotIn) gNotIn where
  ok := by
    refine ⟨_, OpR.or op_notIn_sign op_notIn_seq, ?_⟩
    intro S r O H x y d e W σ Q rs px py p
    unfold gNotIn at p
    split at p
    · rename_i b hb
      have q := p S r H (.bl (!b)) (Ext.refl _ _) rs rfl
      rcases inD_ok rs px py hb with ⟨c, z, h1, h2, h3⟩ | ⟨p1, xs, h1, h2, h3, h4, h5⟩
      · exact .inl ⟨c, z, h1, h2, by rw [h3]; exact q⟩
      · exact .inr ⟨p1, xs, h1, h2, h3, h4, by rw [if_pos rfl, h5]; exact q⟩
    · exact p.elim
end
/-! ### subscripts -/
/-- xs[i], t[i], s[i] -/
def gIx : Store → D → D → Option (D × Store) := fun O x y => match y with
  | .int i => match x with
    | .str s => if s.length ≤ 1000000 then (match atI s.cps.toList i with
      | some c => some (.str ⟨#[c]⟩, O)
      | none => none) else none
    | _ => match seqOf O x with
      | some ds => match atI ds i with
        | some d => some (d, O)
        | none => none
      | none => none
  | _ => none
section
variable {X : Cx} {ad : Str → Addr} {J : JP} {W : WX} {pos p2 : Pos} {a b e : Expr} {ma mb : EM}
theorem atI_rp {K : PySem.W.Frag} {S : Hp} {r : Rg} {ds : List D} {vs : List V} {i : Int} {d : D} (h : RpAll K S r ds vs) (e : atI ds i = some d) : ∃ v, atI vs i = some v ∧ Rp K S r d v := by
  unfold atI at e ⊢
  rw [h.length]
  cases hj : ixN ds.length i with
  | none => rw [hj] at e; cases e
  | some j =>
    rw [hj] at e
    exact h.get e
theorem de_ix (ha : PE X a (tE X.K ad J W ma)) (hb : PE X b (tE X.K ad J W mb)) (hs : PlainIx b) : PE X (.Subscript a b pos) (tE X.K ad J W (mOp gIx ma mb)) := by
  refine pe_imp (pe_ix ix_seq ha hb hs) ?_
  rintro σ H Q ⟨S, r, L, O, j, rl, rs, p⟩
  refine ⟨S, r, L, O, j, rl, rs, (Post.bind p).imp ?_⟩
  rintro x H1 ⟨S1, r1, d, O1, e1, s1, p1, q1⟩
  refine ⟨S1, r1, L, O1, J.mono e1.s j, rl.mono e1, s1, (Post.bind q1).imp ?_⟩
  rintro y H2 ⟨S2, r2, e, O2, e2, s2, p2, q2⟩
  replace p1 := Rp.mono e2 d x p1
  replace q2 : Post X.K ad (fun S r => Rp X.K S r) W σ S2 r2 Q (ofO (gIx O2 d e)) := q2
  unfold gIx at q2
  split at q2
  · rename_i i
    rw [show y = .int i from p2]
    split at q2
    · rename_i s
      rw [show x = .str s from p1]
      split at q2
      · rename_i hl
        split at q2
        · rename_i c hc
          exact .inr (.inr ⟨s, i, c, rfl, rfl, million hl, hc, q2 S2 r2 H2 _ (Ext.refl _ _) s2 rfl⟩)
        · exact q2.elim
      · exact q2.elim
    · split at q2
      · rename_i ds hds
        split at q2
        · rename_i z hz
          obtain ⟨l, vs, rfl, h1, h2⟩ := seqOf_ok s2 p1 hds
          obtain ⟨v, hv, pv⟩ := atI_rp h2 hz
          have q := q2 S2 r2 H2 v (Ext.refl _ _) s2 pv
          rcases h1 with h1 | h1
          · exact .inl ⟨l, vs, i, v, rfl, rfl, h1, hv, q⟩
          · exact .inr (.inl ⟨l, vs, i, v, rfl, rfl, h1, hv, q⟩)
        · exact q2.elim
      · exact q2.elim
  · exact q2.elim
end
/-- lists alone -/
def lsqOf (O : Store) : D → Option (List D)
  | .lst xs => some xs
  | .rol xs => some xs
  | .hdl n => match O[n]? with
    | some (.lst xs) => some xs
    | _ => none
  | _ => none
theorem lsqOf_ok {K : PySem.W.Frag} {ad : Str → Addr} {S : Hp} {r : Rg} {O : Store} {H : Hp} {d : D} {x : V} {xs : List D} (s : Rs K ad S r O H) (p : Rp K S r d x) (h : lsqOf O d = some xs) : ∃ a vs, x = .ref a ∧ SqL K H a vs ∧ RpAll K S r xs vs := by
  cases d with
  | lst ds =>
    obtain rfl : ds = xs := Option.some.inj h
    obtain ⟨a, vs, e, q, w⟩ := p
    exact ⟨a, vs, e, .of (s.sub _ _ q), w⟩
  | rol ds =>
    obtain rfl : ds = xs := Option.some.inj h
    obtain ⟨a, vs, e, q, w⟩ := p
    exact ⟨a, vs, e, sqL_same s.sub q, w⟩
  | tup ds => cases h
  | hdl n =>
    replace h : (match O[n]? with | some (Ob.lst xs) => some xs | _ => none) = some xs := h
    split at h
    · rename_i zs e
      obtain rfl : zs = xs := Option.some.inj h
      obtain ⟨a, e1, e2, _, vs, e3, e4⟩ := hdl_at s p e
      exact ⟨a, vs, e1, .of e3, e4⟩
    · cases h
  | non => cases h
  | bl b => cases h
  | int i => cases h
  | str z => cases h
/-- a slice's ends -/
abbrev OM := Loc → Store → Res (Option Int)
def oNone : OM := fun _ O => .ok none O
def oSome (m : EM) : OM := fun L O => (m L O).bind fun d O1 => match d with
  | .int i => .ok (some i) O1
  | _ => .bad
def cutD {α : Type} (xs : List α) (lo hi : Option Int) : List α := (xs.drop (HT.sIx xs.length 0 lo)).take (HT.sIx xs.length xs.length hi - HT.sIx xs.length 0 lo)
def gSl (h : Bool) (x : D) (lo hi : Option Int) (O : Store) : Res D := match x with
  | .str s => if s.length ≤ 1000000 then .ok (.str (cutS s lo hi)) O else .bad
  | .tup ds => .ok (.tup (cutD ds lo hi)) O
  | _ => match lsqOf O x with
    | some ds => newL h (cutD ds lo hi) O
    | none => .bad
def mSl (h : Bool) (m : EM) (lo hi : OM) : EM := fun L O => (m L O).bind fun x O1 => (lo L O1).bind fun i O2 => (hi L O2).bind fun j O3 => gSl h x i j O3
section
variable {X : Cx} {ad : Str → Addr} {J : JP} {W : WX} {pos p2 : Pos} {a e : Expr} {ma : EM} {lo hi : Option Expr} {ml mh : OM}
def tO (K : PySem.W.Frag) (ad : Str → Addr) (J : JP) (W : WX) (m : OM) : TO := fun σ H Q => ∃ S r L O, J.p σ S ∧ Rl K S r L σ ∧ Rs K ad S r O H ∧ Post K ad (fun _ _ a v => v = a) W σ S r Q (m L O)
theorem po_imp {t t' : TO} (h : PO X lo t) (k : ∀ σ H Q, t' σ H Q → t σ H Q) : PO X lo t' := ⟨fun pins s σ H Q I q => h.run pins s σ H Q I (k σ H Q q)⟩
theorem do_none : PO X none (tO X.K ad J W oNone) := by
  refine po_imp po_none ?_
  rintro σ H Q ⟨S, r, L, O, j, rl, rs, p⟩
  exact p S r H none (Ext.refl _ _) rs rfl
theorem do_some (he : PE X e (tE X.K ad J W ma)) : PO X (some e) (tO X.K ad J W (oSome ma)) := by
  refine po_imp (po_some he) ?_
  rintro σ H Q ⟨S, r, L, O, j, rl, rs, p⟩
  refine ⟨S, r, L, O, j, rl, rs, (Post.bind p).imp ?_⟩
  rintro x H1 ⟨S1, r1, d, O1, e1, s1, p1, q1⟩
  cases d with
  | int i => exact ⟨i, p1, q1 S1 r1 H1 _ (Ext.refl _ _) s1 rfl⟩
  | non => exact q1.elim
  | bl i => exact q1.elim
  | str s => exact q1.elim
  | lst s => exact q1.elim
  | rol s => exact q1.elim
  | tup s => exact q1.elim
  | hdl s => exact q1.elim
theorem cut_rp {K : PySem.W.Frag} {S : Hp} {r : Rg} {ds : List D} {vs : List V} (h : RpAll K S r ds vs) (lo hi : Option Int) : RpAll K S r (cutD ds lo hi) (cutV vs lo hi) := by
  unfold cutD cutV
  rw [h.length]
  exact (h.drop _).take _
theorem de_sl {hm : Bool} (ha : PE X a (tE X.K ad J W ma)) (hl : PO X lo (tO X.K ad J W ml)) (hh : PO X hi (tO X.K ad J W mh)) : PE X (.Subscript a (.Slice lo hi none p2) pos) (tE X.K ad J W (mSl hm ma ml mh)) := by
  refine pe_imp (pe_slice (SlR.or sl_list (SlR.or sl_tupA sl_str)) ha hl hh) ?_
  rintro σ H Q ⟨S, r, L, O, j, rl, rs, p⟩
  refine ⟨S, r, L, O, j, rl, rs, (Post.bind p).imp ?_⟩
  rintro x H1 ⟨S1, r1, d, O1, e1, s1, p1, q1⟩
  refine ⟨S1, r1, L, O1, J.mono e1.s j, rl.mono e1, s1, (Post.bind q1).imp ?_⟩
  rintro i H2 ⟨S2, r2, i', O2, e2, s2, rfl, q2⟩
  refine ⟨S2, r2, L, O2, J.mono (e1.trans e2).s j, rl.mono (e1.trans e2), s2, (Post.bind q2).imp ?_⟩
  rintro k H3 ⟨S3, r3, k', O3, e3, s3, rfl, q3⟩
  replace p1 := Rp.mono (e2.trans e3) d x p1
  unfold gSl at q3
  split at q3
  · rename_i s
    rw [show x = .str s from p1]
    split at q3
    · rename_i hl
      exact .inr (.inr ⟨s, rfl, million hl, q3 S3 r3 H3 _ (Ext.refl _ _) s3 rfl⟩)
    · exact q3.elim
  · rename_i ds
    obtain ⟨l, vs, rfl, h1, h2⟩ := p1
    have h3 := cut_rp h2 i k
    refine .inr (.inl ⟨l, vs, rfl, sqT_same s3.sub h1, fun ⟨z1, z2⟩ => ?_, fun _ => newT_post s3 h3 q3⟩)
    refine q3 S3 r3 H3 _ (Ext.refl _ _) s3 ⟨l, vs, rfl, h1, ?_⟩
    have e4 : cutV vs i k = vs := by
      unfold cutV
      rw [z1, z2, List.drop_zero, Nat.sub_zero, List.take_length]
    rw [e4] at h3
    exact h3
  · split at q3
    · rename_i ds hds
      obtain ⟨l, vs, rfl, h1, h2⟩ := lsqOf_ok s3 p1 hds
      exact .inl ⟨l, vs, rfl, h1, (newL_post s3 (cut_rp h2 i k) q3).2⟩
    · exact q3.elim
end
end DK
end
section
set_option Elab.async false
set_option linter.all false
set_option autoImplicit false
set_option maxRecDepth 100000
set_option maxHeartbeats 4000000
/-! DKCall: built-ins, methods, fields, objects, by mirrors. -/
namespace DK
open PySem L2
def g1 (f : Store → D → Option (D × Store)) : Store → List D → Option (D × Store) := fun O ds => match ds with
  | [d] => f O d
  | _ => none
def g2 (f : Store → D → D → Option (D × Store)) : Store → List D → Option (D × Store) := fun O ds => match ds with
  | [d, e] => f O d e
  | _ => none
/-! ### len, int, abs, str, list, .. -/
def gLen : Store → D → Option (D × Store) := fun O d => match d with
  | .str s => if s.length ≤ 1000000 then some (.int s.length, O) else none
  | .hdl n => match O[n]? with
    | some (.lst xs) => some (.int xs.length, O)
    | some (.dct xs) => some (.int xs.length, O)
    | _ => none
  | _ => match seqOf O d with
    | some xs => some (.int xs.length, O)
    | none => none
def gInt : Store → D → Option (D × Store) := fun O d => match d with
  | .int i => some (.int i, O)
  | .bl b => some (.int (if b then 1 else 0), O)
  | .str s => if s.length ≤ 640 then (match PySem.intText? s with
    | some n => some (.int n, O)
    | none => none) else none
  | _ => none
def gAbs : Store → D → Option (D × Store) := fun O d => match d with
  | .int i => some (.int (if i < 0 then -i else i), O)
  | _ => none
def gMax2 : Store → D → D → Option (D × Store) := fun O d e => match d, e with
  | .int i, .int j => some (.int (if j > i then j else i), O)
  | _, _ => none
def gMin2 : Store → D → D → Option (D × Store) := fun O d e => match d, e with
  | .int i, .int j => some (.int (if j < i then j else i), O)
  | _, _ => none
def gStr : Store → D → Option (D × Store) := fun O d => match d with
  | .int i => if i.natAbs.log2 < 1920 then some (.str (toString i), O) else none
  | .str s => some (.str s, O)
  | _ => none
def gList (h : Bool) : Store → D → Option (D × Store) := fun O d => match seqOf O d with
  | some xs => newLO h xs O
  | none => none
def intsOf : List D → Option (List Int)
  | [] => some []
  | .int i :: ds => (intsOf ds).map (i :: ·)
  | _ => none
theorem intsOf_rp {K : PySem.W.Frag} {S : Hp} {r : Rg} : ∀ {ds : List D} {vs : List V} {ns : List Int}, RpAll K S r ds vs → intsOf ds = some ns → vs = ns.map V.int
  | [], vs, ns, h, e => by cases e; exact h
  | .int i :: ds, vs, ns, h, e => by
    obtain ⟨v, vr, rfl, rfl, h2⟩ := h
    have e : (intsOf ds).map (i :: ·) = some ns := e
    obtain ⟨ms, e1, rfl⟩ := Option.map_eq_some_iff.mp e
    rw [intsOf_rp h2 e1]
    rfl
  | .non :: _, _, _, _, e => by cases e
  | .bl _ :: _, _, _, _, e => by cases e
  | .str _ :: _, _, _, _, e => by cases e
  | .lst _ :: _, _, _, _, e => by cases e
  | .rol _ :: _, _, _, _, e => by cases e
  | .tup _ :: _, _, _, _, e => by cases e
  | .hdl _ :: _, _, _, _, e => by cases e
section
variable {X : Cx} {ad : Str → Addr}
theorem cd_1 {f : Value} {rr : List V → Hp → VK → Prop} {g : Store → D → Option (D × Store)} (hc : CallR X f rr)
    (h : ∀ (S : Hp) (r : Rg) (O : Store) (H : Hp) (x : V) (d : D) (W : WX) (σ : L2.St) (Q : VK), Rs X.K ad S r O H → Rp X.K S r d x → Post X.K ad (fun S r => Rp X.K S r) W σ S r Q (ofO (g O d)) → rr [x] H Q) : CallD X ad f (g1 g) where
  ok := by
    refine ⟨rr, hc, fun S r O H vs ds W σ Q rs p q => ?_⟩
    unfold g1 at q
    split at q
    · rename_i d
      obtain ⟨v, vr, rfl, h1, rfl⟩ := p
      exact h S r O H v d W σ Q rs h1 q
    · exact q.elim
theorem cd_len : CallD X ad (.builtin "len") (g1 gLen) := cd_1 (CallR.or call_len call_lenD) fun S r O H x d W σ Q rs p q => by
  have seqCase : ∀ {xs : List D}, seqOf O d = some xs → Post X.K ad (fun S r => Rp X.K S r) W σ S r Q (ofO (some (D.int xs.length, O))) → ((∃ y n, [x] = [y] ∧ LenV X.K y H n ∧ Q (.int n) H) ∨ (∃ a kvs, [x] = [V.ref a] ∧ H a = some (.dK kvs) ∧ Q (.int kvs.length) H)) := fun {xs} e q => by
    obtain ⟨a, vs, rfl, h1, h2⟩ := seqOf_ok rs p e
    refine .inl ⟨_, vs.length, rfl, ?_, by rw [h2.length]; exact q S r H _ (Ext.refl _ _) rs rfl⟩
    rcases h1 with h1 | h1
    · exact .inl ⟨vs, h1, rfl⟩
    · exact .inr ⟨vs, h1, rfl⟩
  unfold gLen at q
  split at q
  · rename_i s
    rw [show x = .str s from p]
    split at q
    · rename_i hl
      exact .inl ⟨_, s.length, rfl, ⟨million hl, rfl⟩, q S r H _ (Ext.refl _ _) rs rfl⟩
    · exact q.elim
  · rename_i n
    split at q
    · rename_i xs hx
      refine seqCase ?_ q
      show (match O[n]? with | some (Ob.lst xs) => some xs | _ => none) = some xs
      rw [hx]
    · rename_i xs hx
      obtain ⟨a, rfl, h1, _, vs, h2, h3⟩ := hdl_at rs p hx
      have hl : ∀ {ks : List (Key × D)} {us : List (Key × V)}, RpP X.K S r ks us → us.length = ks.length := fun {ks} => by
        induction ks with
        | nil => intro us h; rw [show us = [] from h]; rfl
        | cons k ks ih => intro us h; obtain ⟨_, _, rfl, _, h⟩ := h; rw [List.length_cons, List.length_cons, ih h]
      exact .inr ⟨a, vs, rfl, h2, by rw [hl h3]; exact q S r H _ (Ext.refl _ _) rs rfl⟩
    · exact q.elim
  · split at q
    · rename_i xs hx
      exact seqCase hx q
    · exact q.elim
theorem cd_int : CallD X ad (.type "int") (g1 gInt) := cd_1 (CallR.or call_int1 call_int_str) fun S r O H x d W σ Q rs p q => by
  unfold gInt at q
  split at q
  · rename_i i
    rw [show x = .int i from p]
    exact .inl (.inl ⟨i, rfl, q S r H _ (Ext.refl _ _) rs rfl⟩)
  · rename_i b
    rw [show x = .bl b from p]
    exact .inl (.inr ⟨b, rfl, q S r H _ (Ext.refl _ _) rs rfl⟩)
  · rename_i s
    rw [show x = .str s from p]
    split at q
    · rename_i hl
      split at q
      · rename_i n hn
        exact .inr ⟨s, n, rfl, hn, hl, q S r H _ (Ext.refl _ _) rs rfl⟩
      · exact q.elim
    · exact q.elim
  · exact q.elim
theorem cd_abs : CallD X ad (.builtin "abs") (g1 gAbs) := cd_1 call_abs fun S r O H x d W σ Q rs p q => by
  unfold gAbs at q
  split at q
  · rename_i i
    rw [show x = .int i from p]
    exact ⟨i, rfl, q S r H _ (Ext.refl _ _) rs rfl⟩
  · exact q.elim
theorem cd_str : CallD X ad (.type "str") (g1 gStr) := cd_1 (CallR.or call_str_int SkE.call_str_str) fun S r O H x d W σ Q rs p q => by
  unfold gStr at q
  split at q
  · rename_i i
    rw [show x = .int i from p]
    split at q
    · rename_i hl
      exact .inl ⟨i, rfl, hl, q S r H _ (Ext.refl _ _) rs rfl⟩
    · exact q.elim
  · rename_i i
    rw [show x = .str i from p]
    exact .inr ⟨i, rfl, q S r H _ (Ext.refl _ _) rs rfl⟩
  · exact q.elim
theorem cd_list (h : Bool) : CallD X ad (.type "list") (g1 (gList h)) := cd_1 call_list_of fun S r O H x d W σ Q rs p q => by
  unfold gList at q
  split at q
  · rename_i xs hx
    obtain ⟨a, vs, rfl, h1, h2⟩ := seqOf_ok rs p hx
    rw [ofO_newLO] at q
    exact ⟨a, vs, rfl, h1, (newL_post rs h2 q).2⟩
  · exact q.elim
end
def mNeg (m : EM) : EM := fun L O => (m L O).bind fun d O1 => match d with
  | .int i => .ok (.int (-i)) O1
  | _ => .bad
/-! ### isinstance -/
def tyD (O : Store) : D → Option String
  | .non => some "NoneType"
  | .bl _ => some "bool"
  | .int _ => some "int"
  | .str _ => some "str"
  | .lst _ => some "list"
  | .rol _ => some "list"
  | .tup _ => some "tuple"
  | .hdl n => match O[n]? with
    | some (.lst _) => some "list"
    | some (.dct _) => some "dict"
    | _ => none
/-- isinstance(x, T) -/
def mIsi (T : String) (m : EM) : EM := fun L O => (m L O).bind fun d O1 => match tyD O1 d with
  | some t => match kitB t T with
    | some b => .ok (.bl b) O1
    | none => .bad
  | none => .bad
def kitL (t : String) : List String → Option Bool
  | [] => some false
  | T :: Ts => match kitB t T with
    | some true => some true
    | some false => kitL t Ts
    | none => none
def mIsiT (Ts : List String) (m : EM) : EM := fun L O => (m L O).bind fun d O1 => match tyD O1 d with
  | some t => match kitL t Ts with
    | some b => .ok (.bl b) O1
    | none => .bad
  | none => .bad
section
variable {X : Cx} {ad : Str → Addr} {J : JP} {W : WX} {pos p p2 p3 p4 p5 : Pos} {a b e : Expr} {es : List Expr} {m : EM} {mt : AM}
theorem tyD_ok {S : Hp} {r : Rg} {O : Store} {H : Hp} {d : D} {x : V} {t : String} (rs : Rs X.K ad S r O H) (px : Rp X.K S r d x) (h : tyD O d = some t) : TyX X.K H x (.type t) := by
  cases d with
  | non => cases h; rw [show x = .non from px]; exact .base .non
  | bl b => cases h; rw [show x = .bl b from px]; exact .base (.bl b)
  | int b => cases h; rw [show x = .int b from px]; exact .base (.int b)
  | str b => cases h; rw [show x = .str b from px]; exact .base (.str b)
  | lst s =>
    cases h
    obtain ⟨a, vs, rfl, q, _⟩ := px
    exact .base (.lst (rs.sub _ _ q))
  | rol s =>
    cases h
    obtain ⟨a, vs, rfl, q, _⟩ := px
    rcases sqL_same rs.sub q with (q | ⟨o, q⟩) | ⟨o, its, n, q, c, _⟩
    · exact .base (.lst q)
    · exact .base (.frz q)
    · exact .kList q c
  | tup s =>
    cases h
    obtain ⟨a, vs, rfl, q, _⟩ := px
    rcases sqT_same rs.sub q with (q | ⟨o, q⟩) | ⟨o, its, n, q, c, _⟩
    · exact .base (.tup q)
    · exact .fTuple q
    · exact .kTuple q c
  | hdl n =>
    replace h : (match O[n]? with | some (Ob.lst _) => some "list" | some (Ob.dct _) => some "dict" | _ => none) = some t := h
    split at h
    · rename_i zs e
      cases h
      obtain ⟨a, rfl, _, _, vs, q, _⟩ := hdl_at rs px e
      exact .base (.lst q)
    · rename_i zs e
      cases h
      obtain ⟨a, rfl, _, _, vs, q, _⟩ := hdl_at rs px e
      exact .base (.dK q)
    · cases h
theorem de_isi {T : String} {x : Str} (hg : Gl X "isinstance") (hm : X.mg "isinstance" = none) (hv : bootBuiltins "isinstance" = some (.builtin "isinstance")) (hg2 : Gl X x) (hm2 : X.mg x = none) (hv2 : bootBuiltins x = some (.type T)) (he : PE X e (tE X.K ad J W m))
    (hn : x ≠ "__name__" := by decide) (hd : (x == ("__debug__" : Str)) = false := by decide)
    (hs1 : starEach (e :: [.Name x p2]) X.env = (false, eval e X.env) :: starEach [.Name x p2] X.env := by rfl) (hs2 : starEach (.Name x p2 :: []) X.env = (false, eval (.Name x p2) X.env) :: starEach [] X.env := by rfl)
    (hpl : (backTo pos (starEach [.Name x p2] X.env)).any (·.1) = false := by rfl) : PE X (.Call (.Name "isinstance" p) [e, .Name x p2] [] pos) (tE X.K ad J W (mIsi T m)) := by
  refine pe_imp (pe_callB call_isi hg hm hv (pa_cons he (pa_cons (pe_bltn (v := .ty T) hg2 hm2 hv2 rfl hn hd) pa_nil hs2) hs1) (by decide) (by decide) hs1 hpl) ?_
  rintro σ H Q ⟨S, r, L, O, j, rl, rs, q⟩
  refine ⟨S, r, L, O, j, rl, rs, (Post.bind q).imp ?_⟩
  rintro x H1 ⟨S1, r1, d, O1, e1, s1, p1, q1⟩
  split at q1
  · rename_i t ht
    split at q1
    · rename_i b hb
      exact ⟨x, .ty T, _, .type T, b, rfl, .ty T, tyD_ok s1 p1 ht, kit_ty hb, q1 S1 r1 H1 _ (Ext.refl _ _) s1 rfl⟩
    · exact q1.elim
  · exact q1.elim
theorem de_neg (ha : PE X a (tE X.K ad J W m)) : PE X (.UnaryOp .USub a pos) (tE X.K ad J W (mNeg m)) := by
  refine pe_imp (pe_un un_neg ha) ?_
  rintro σ H Q ⟨S, r, L, O, j, rl, rs, q⟩
  refine ⟨S, r, L, O, j, rl, rs, (Post.bind q).imp ?_⟩
  rintro x H1 ⟨S1, r1, d, O1, e1, s1, p1, q1⟩
  cases d with
  | int i => exact ⟨i, p1, q1 S1 r1 H1 _ (Ext.refl _ _) s1 rfl⟩
  | non => exact q1.elim
  | bl i => exact q1.elim
  | str s => exact q1.elim
  | lst s => exact q1.elim
  | rol s => exact q1.elim
  | tup s => exact q1.elim
  | hdl s => exact q1.elim
end
end DK
end
section
set_option Elab.async false
set_option linter.all false
set_option autoImplicit false
set_option maxRecDepth 100000
set_option maxHeartbeats 4000000
/-! DKObj: lists that change, objects, exceptions, comprehensions, by mirrors. -/
namespace DK
open PySem L2
/-! ### lists that change -/
/-- xs.append(e), the list one of the store -/
def mApp (m e : EM) : EM := fun L O => (m L O).bind fun x O1 => match x with
  | .hdl n => match lstOf O1 (.hdl n) with
    | some _ => (e L O1).bind fun y O2 => match lstOf O2 (.hdl n) with
      | some xs => if xs.length ≤ 1000000 then .ok .non (O2.set n (.lst (xs ++ [y]))) else .bad
      | none => .bad
    | none => .bad
  | _ => .bad
/-- o[i] = v, the list one of the store -/
def bSubL (mo mi : EM) : BM := fun d L O => match mo L O with
  | .ok (.hdl n) O1 => match mi L O1 with
    | .ok (.int i) O2 => match lstOf O2 (.hdl n) with
      | some xs => match ixN xs.length i with
        | some k => some (L, O2.set n (.lst (xs.set k d)))
        | none => none
      | none => none
    | _ => none
  | _ => none
section
variable {X : Cx} {ad : Str → Addr} {J : JP} {W : WX} {pos p p2 apos cpos : Pos} {a b e o : Expr} {es : List Expr} {m me mo mi : EM} {mt : AM}
theorem hdl_lst {S : Hp} {r : Rg} {O : Store} {H : Hp} {n : Nat} {a : Addr} {xs : List D} (rs : Rs X.K ad S r O H) (hr : r.l[n]? = some a) (h : lstOf O (.hdl n) = some xs) : S a = none ∧ ∃ vs, H a = some (.lst vs) ∧ RpAll X.K S r xs vs := by
  replace h : (match O[n]? with | some (Ob.lst xs) => some xs | _ => none) = some xs := h
  split at h
  · rename_i zs hz
    obtain rfl : zs = xs := Option.some.inj h
    exact rs.ob n a _ hr hz
  · cases h
theorem set_lst {S : Hp} {r : Rg} {O : Store} {H : Hp} {n : Nat} {a : Addr} {vs us : List V} {ys : List D} (rs : Rs X.K ad S r O H) (hr : r.l[n]? = some a) (hz : S a = none) (h : RpAll X.K S r ys us) : Rs X.K ad S r (O.set n (.lst ys)) (upd H a (.lst us)) :=
  rs.write hr hz ⟨hz, us, upd_same, h⟩
theorem de_app (hm : PE X o (tE X.K ad J W m)) (he : PE X e (tE X.K ad J W me)) (hbase : attributeBase o "append" X.env (eval o X.env) = eval o X.env := by rfl)
    (hfew : ((backTo cpos (starEach (e :: []) X.env)).all (fun x => !x.1) && (backToKw cpos (keywordEach [] X.env)).all (fun x => x.1.isSome)
      && decide ((e :: []).length + ([] : List Keyword).length + (if ([] : List Keyword).isEmpty then 0 else 1) < 30)) = true := by rfl)
    (hline : (apos.endLine == cpos.line) = true := by rfl) (hs : starEach (e :: []) X.env = (false, eval e X.env) :: starEach [] X.env := by rfl) (hplain : (backTo cpos (starEach [] X.env)).any (·.1) = false := by rfl) :
    PE X (.Call (.Attribute o "append" apos) [e] [] cpos) (tE X.K ad J W (mApp m me)) := by
  refine pe_imp (pe_bm PySem.F.plainAttrs_list PySem.F.slot_list_append PySem.F.type_list_append mt_append hm (pa_cons he pa_nil hs) hbase hfew hline hs hplain) ?_
  rintro σ H Q ⟨S, r, L, O, j, rl, rs, q⟩
  refine ⟨S, r, L, O, j, rl, rs, (Post.bind q).imp ?_⟩
  rintro x H1 ⟨S1, r1, d, O1, e1, s1, p1, q1⟩
  cases d with
  | hdl n =>
    obtain ⟨l, rfl, hl⟩ := p1
    replace q1 : Post X.K ad (fun S r => Rp X.K S r) W σ S1 r1 Q (match lstOf O1 (.hdl n) with
      | some _ => (me L O1).bind fun y O2 => match lstOf O2 (.hdl n) with
        | some xs => if xs.length ≤ 1000000 then .ok .non (O2.set n (.lst (xs ++ [y]))) else .bad
        | none => .bad
      | none => .bad) := q1
    split at q1
    · rename_i zs hz
      obtain ⟨_, vs, g1, g2⟩ := hdl_lst s1 hl hz
      refine ⟨.inl ⟨rfl, vs, .of g1⟩, S1, r1, L, O1, J.mono e1.s j, rl.mono e1, s1, (Post.bind q1).imp ?_⟩
      rintro y H2 ⟨S2, r2, d, O2, e2, s2, p2, q2⟩
      have hl2 := pre_get e2.r hl
      replace q2 : Post X.K ad (fun S r => Rp X.K S r) W σ S2 r2 Q (match lstOf O2 (.hdl n) with | some xs => if xs.length ≤ 1000000 then .ok .non (O2.set n (.lst (xs ++ [d]))) else .bad | none => .bad) := q2
      split at q2
      · rename_i xs hx
        obtain ⟨z2, us, g3, g4⟩ := hdl_lst s2 hl2 hx
        split at q2
        · rename_i hlen
          exact ⟨l, us, y, rfl, rfl, g3, by rw [g4.length]; exact million_lt hlen, q2 S2 r2 _ _ (Ext.refl _ _) (set_lst (vs := us) s2 hl2 z2 (g4.append (.cons p2 .nil))) rfl⟩
        · exact q2.elim
      · exact q2.elim
    · exact q1.elim
  | non => exact q1.elim
  | bl i => exact q1.elim
  | int i => exact q1.elim
  | str s => exact q1.elim
  | lst s => exact q1.elim
  | rol s => exact q1.elim
  | tup s => exact q1.elim
theorem dg_subL (ho : PE X o (tE X.K ad J W mo)) (hi : PE X e (tE X.K ad J W mi))
    (ha : ∀ v, assign (.Subscript o e pos) X.env v = (do
      let ov ← holding [v] (eval o X.env)
      let iv ← holding [v, ov] (eval e X.env)
      standAt pos
      holding [v, ov, iv] (setItem ov iv v)
      release [v, ov, iv] []) := by intro _; rfl) : PG X (.Subscript o e pos) (tG X.K ad J (bSubL mo mi)) := by
  refine pg_imp (pg_sub ho hi set_list ha) ?_
  rintro v σ H Q ⟨S, r, L, O, d, j, rl, rs, rp, q⟩
  refine ⟨S, r, L, O, j, rl, rs, ?_⟩
  replace q : PostB X.K ad J S r Q (match mo L O with
    | .ok (.hdl n) O1 => match mi L O1 with
      | .ok (.int i) O2 => match lstOf O2 (.hdl n) with
        | some xs => match ixN xs.length i with
          | some k => some (L, O2.set n (.lst (xs.set k d)))
          | none => none
        | none => none
      | _ => none
    | _ => none) := q
  generalize mo L O = z at q
  cases z with
  | exc x O1 => exact q.elim
  | bad => exact q.elim
  | ok y O1 =>
    intro S1 r1 H1 u e1 s1 p1
    cases y with
    | hdl n =>
      obtain ⟨l, rfl, hl⟩ := p1
      refine ⟨S1, r1, L, O1, J.mono e1.s j, rl.mono e1, s1, ?_⟩
      replace q : PostB X.K ad J S r Q (match mi L O1 with
        | .ok (.int i) O2 => match lstOf O2 (.hdl n) with
          | some xs => match ixN xs.length i with
            | some k => some (L, O2.set n (.lst (xs.set k d)))
            | none => none
          | none => none
        | _ => none) := q
      generalize mi L O1 = z at q
      cases z with
      | exc x O2 => exact q.elim
      | bad => exact q.elim
      | ok y O2 =>
        intro S2 r2 H2 u2 e2 s2 p2
        cases y with
        | int i =>
          rw [show u2 = .int i from p2]
          have hl2 := pre_get e2.r hl
          replace q : PostB X.K ad J S r Q (match lstOf O2 (.hdl n) with
            | some xs => match ixN xs.length i with
              | some k => some (L, O2.set n (.lst (xs.set k d)))
              | none => none
            | none => none) := q
          split at q
          · rename_i xs hx
            obtain ⟨z2, us, g3, g4⟩ := hdl_lst s2 hl2 hx
            split at q
            · rename_i k hk
              refine ⟨l, us, i, k, rfl, rfl, g3, by rw [g4.length]; exact hk, ?_⟩
              exact q S2 r2 σ _ (e1.trans e2) (J.mono (e1.trans e2).s j) (rl.mono (e1.trans e2)) (set_lst (vs := us) s2 hl2 z2 (g4.set k (Rp.mono (e1.trans e2) d v rp)))
            · exact q.elim
          · exact q.elim
        | non => exact q.elim
        | bl i => exact q.elim
        | hdl i => exact q.elim
        | str s => exact q.elim
        | lst s => exact q.elim
        | rol s => exact q.elim
        | tup s => exact q.elim
    | non => exact q.elim
    | bl i => exact q.elim
    | int i => exact q.elim
    | str s => exact q.elim
    | lst s => exact q.elim
    | rol s => exact q.elim
    | tup s => exact q.elim
end
/-- a, b = a list -/
def bLst (n : Nat) (c : BsM) : BM := fun d L O => match lsqOf O d with
  | some ds => if ds.length = n then c ds L O else none
  | none => none
/-! ### objects -/
def mFld (c f : Str) (m : EM) : EM := fun L O => (m L O).bind fun x O1 => match x with
  | .hdl n => match O1[n]? with
    | some (.ins c' fs) => if c' = c then (match fs.lookup f with
      | some d => .ok d O1
      | none => .bad) else .bad
    | _ => .bad
  | _ => .bad
def putD (f : Str) (d : D) : List (Str × D) → List (Str × D)
  | [] => [(f, d)]
  | (g, e) :: r => if g = f then (g, d) :: r else (g, e) :: putD f d r
/-- o.f = e : the value first -/
def sFldM (c f : Str) (mo mv : EM) : SM := fun L O => ofRes L (mv L O) fun y O1 => ofRes L (mo L O1) fun x O2 => match x with
  | .hdl n => match O2[n]? with
    | some (.ins c' fs) => if c' = c ∧ fs.length < 1000 then .next L (O2.set n (.ins c' (putD f y fs))) else .bad
    | _ => .bad
  | _ => .bad
def mMeth (c m : Str) (f : FM) (dds : List D) (mo : EM) (t : AM) : EM := fun L O => (mo L O).bind fun x O1 => match x with
  | .hdl n => match O1[n]? with
    | some (.ins c' fs) => if c' = c ∧ fs.lookup m = none then (t L O1).bind fun xs O2 => f (.hdl n :: (xs ++ dds)) O2 else .bad
    | _ => .bad
  | _ => .bad
def mMake (c : Str) (f : FM) (dds : List D) (t : AM) : EM := fun L O => (t L O).bind fun xs O1 => (f (.hdl O1.length :: (xs ++ dds)) (O1 ++ [.ins c []])).bind fun d O2 => match d with
  | .non => .ok (.hdl O1.length) O2
  | _ => .bad
section
variable {K : PySem.W.Frag} {S : Hp} {r : Rg}
theorem RpP.lookup {f : Str} : ∀ {fs : List (Str × D)} {gs : List (Str × V)} {d : D}, RpP K S r fs gs → fs.lookup f = some d → ∃ v, gs.lookup f = some v ∧ Rp K S r d v
  | [], gs, d, h, e => by cases e
  | (g, x) :: fs, gs, d, h, e => by
    obtain ⟨v, gr, rfl, h1, h2⟩ := h
    rw [List.lookup_cons] at e ⊢
    cases hb : f == g with
    | true =>
      rw [hb] at e
      cases e
      exact ⟨v, rfl, h1⟩
    | false =>
      rw [hb] at e
      exact RpP.lookup h2 e
theorem RpP.lookup0 {f : Str} : ∀ {fs : List (Str × D)} {gs : List (Str × V)}, RpP K S r fs gs → fs.lookup f = none → gs.lookup f = none
  | [], gs, h, e => by rw [show gs = [] from h]; rfl
  | (g, x) :: fs, gs, h, e => by
    obtain ⟨v, gr, rfl, h1, h2⟩ := h
    rw [List.lookup_cons] at e ⊢
    cases hb : f == g with
    | true => rw [hb] at e; cases e
    | false => rw [hb] at e; exact RpP.lookup0 h2 e
theorem RpP.length {κ : Type} : ∀ {fs : List (κ × D)} {gs : List (κ × V)}, RpP K S r fs gs → gs.length = fs.length
  | [], gs, h => by rw [show gs = [] from h]; rfl
  | (g, x) :: fs, gs, h => by
    obtain ⟨v, gr, rfl, h1, h2⟩ := h
    rw [List.length_cons, List.length_cons, RpP.length h2]
theorem RpP.put {f : Str} {d : D} {v : V} (hv : Rp K S r d v) : ∀ {fs : List (Str × D)} {gs : List (Str × V)}, RpP K S r fs gs → RpP K S r (putD f d fs) (putF f v gs)
  | [], gs, h => by
    rw [show gs = [] from h]
    exact ⟨v, [], rfl, hv, rfl⟩
  | (g, x) :: fs, gs, h => by
    obtain ⟨u, gr, rfl, h1, h2⟩ := h
    unfold putD putF
    split
    · exact ⟨v, gr, rfl, hv, h2⟩
    · exact ⟨u, putF f v gr, rfl, h1, RpP.put hv h2⟩
end
section
variable {X : Cx} {ad : Str → Addr} {J : JP} {W : WX} {pos pos' p p2 apos cpos : Pos} {a b e o : Expr} {es : List Expr} {m me mo mi mv : EM} {mt : AM} {c f : Str}
theorem de_fld (he : PE X e (tE X.K ad J W m)) (hc : Cls X.K (ad c)) (hn : NoAttr X.K (ad c) f) (hb : attributeBase e f X.env (eval e X.env) = eval e X.env := by rfl) : PE X (.Attribute e f pos) (tE X.K ad J W (mFld c f m)) := by
  refine pe_imp (pe_fld he hb) ?_
  rintro σ H Q ⟨S, r, L, O, j, rl, rs, q⟩
  refine ⟨S, r, L, O, j, rl, rs, (Post.bind q).imp ?_⟩
  rintro x H1 ⟨S1, r1, d, O1, e1, s1, p1, q1⟩
  cases d with
  | hdl n =>
    replace q1 : Post X.K ad (fun S r => Rp X.K S r) W σ S1 r1 Q (match O1[n]? with
      | some (.ins c' fs) => if c' = c then (match fs.lookup f with
        | some d => .ok d O1
        | none => .bad) else .bad
      | _ => .bad) := q1
    split at q1
    · rename_i c' fs ho
      split at q1
      · rename_i hcc
        subst hcc
        split at q1
        · rename_i d hd
          obtain ⟨l, rfl, _, _, dx, gs, g1, g2⟩ := hdl_at s1 p1 ho
          obtain ⟨v, hv, pv⟩ := g2.lookup hd
          exact ⟨l, ad c', dx, gs, v, rfl, g1, hc, hn, hv, q1 S1 r1 H1 v (Ext.refl _ _) s1 pv⟩
        · exact q1.elim
      · exact q1.elim
    · exact q1.elim
  | non => exact q1.elim
  | bl i => exact q1.elim
  | int i => exact q1.elim
  | str s => exact q1.elim
  | lst s => exact q1.elim
  | rol s => exact q1.elim
  | tup s => exact q1.elim
theorem ds_fld (ho : PE X o (tE X.K ad J W mo)) (he : PE X e (tE X.K ad J W mv)) (hc : Cls X.K (ad c)) (hn : NoAttr X.K (ad c) f) (hs : swapsWith e (some (.Attribute o f pos')) pos.line X.env = pure false := by rfl) : PS X (.Assign [.Attribute o f pos'] e pos) (tS X.K ad J W (sFldM c f mo mv)) := by
  refine ps_imp (ps_fld ho he hs) ?_
  rintro En σ H ⟨S, r, L, O, j, rl, rs, q⟩
  refine ⟨S, r, L, O, j, rl, rs, (bindS j rl q).imp ?_⟩
  rintro y H1 ⟨S1, r1, dy, O1, e1, s1, p1, q1⟩
  refine ⟨S1, r1, L, O1, J.mono e1.s j, rl.mono e1, s1, (bindS (J.mono e1.s j) (rl.mono e1) q1).imp ?_⟩
  rintro x H2 ⟨S2, r2, d, O2, e2, s2, p2, q2⟩
  cases d with
  | hdl n =>
    replace q2 : PostS X.K ad J W S2 r2 En (match O2[n]? with
      | some (.ins c' fs) => if c' = c ∧ fs.length < 1000 then .next L (O2.set n (.ins c' (putD f dy fs))) else .bad
      | _ => .bad) := q2
    split at q2
    · rename_i c' fs ho
      split at q2
      · rename_i hcc
        obtain ⟨rfl, hl⟩ := hcc
        obtain ⟨l, rfl, hr, hz, dx, gs, g1, g2⟩ := hdl_at s2 p2 ho
        refine ⟨l, ad c', dx, gs, rfl, g1, hc, hn, by rw [g2.length]; exact hl, ?_⟩
        exact q2 S2 r2 σ _ (Ext.refl _ _) (J.mono (e1.trans e2).s j) (rl.mono (e1.trans e2)) (s2.write hr hz ⟨hz, dx, _, upd_same, RpP.put (Rp.mono e2 _ _ p1) g2⟩)
      · exact q2.elim
    · exact q2.elim
  | non => exact q2.elim
  | bl i => exact q2.elim
  | int i => exact q2.elim
  | str s => exact q2.elim
  | lst s => exact q2.elim
  | rol s => exact q2.elim
  | tup s => exact q2.elim
/-- a method's call, at the slots -/
theorem meth_run {pins : List (Addr × Obj)} {s : Shared} {σ : L2.St} {H : Hp} {Q : VK} {k : Nat} {g : Addr} {fd : FuncData} {ps : List Str} {sp : Sp} {dvs : List V} {ds : List Value} {E : L2.St → XK} {nm : Str} {C : Addr} {t : TA} {ta : TE} {pl : Sem Bool}
    (he : PE X o ta) (hc : Cls X.K C) (hm : Meth X.K C nm g) (F : FnOk X.prog X.w X.K X.mg X.base (L2.CX X.prog X.w) k g fd ps sp) (hr : Room k X.A) (hb : Binds X.K fd ps ds) (hd : Vals dvs ds) (hx : ∀ σ, PassesAt (L2.CX X.prog X.w) X σ (E σ)) (ha : PA X (e :: es) t)
    (hst : starEach (e :: es) X.env = (false, eval e X.env) :: starEach es X.env) (hpl : (backTo pos (starEach es X.env)).any (·.1) = false)
    (ht : eval (.Call (.Attribute o nm apos) (e :: es) [] pos) X.env = (do
      let ov ← eval o X.env
      standAt apos.atName
      let (f, first) ← holding [ov] (getMethod ov nm pl)
      callWith pos f first (backTo pos (starEach (e :: es) X.env)) (backToKw pos (keywordEach [] X.env))))
    (I : Inv X pins σ H s) (h : ta σ H fun x H1 => ∃ a dx fs, x = .ref a ∧ H1 a = some (.ins C dx fs) ∧ fs.lookup nm = none ∧ t σ H1 fun vs H2 => sp (x :: (vs ++ dvs)) H2 Q (E σ)) :
    wpAny (model X.prog X.w) X.A (eval (.Call (.Attribute o nm apos) (e :: es) [] pos) X.env) (EP X pins σ Q) X.xe s := by
  refine PySem.W.methodCall_KW (pl := pl) (thn (he.run pins s σ H _ I h) ?_) ht
  rintro u s1 ⟨x, H1, I1, rx, a, dx, fs, ex, ea, l, q⟩
  subst ex
  obtain rfl : u = Value.ref a := rx
  refine getmeth_ok I1 ea hc hm l ?_
  refine PySem.W.callWith_K (first := [.ref a]) (h₀ := X.base) I.ok.mod.kin hm.kp (thn (ha.run pos pins s1 σ H1 _ I1 q) ?_) hst hpl
  rintro us s2 ⟨vs, H2, I2, rr, q2⟩
  exact ⟨I2.kIn, run_fnSD (us := .ref a :: us) (vs := .ref a :: vs) F hr hb hd (hx σ) I2 (.cons rfl rr) q2⟩
theorem meth_run0 {pins : List (Addr × Obj)} {s : Shared} {σ : L2.St} {H : Hp} {Q : VK} {k : Nat} {g : Addr} {fd : FuncData} {ps : List Str} {sp : Sp} {dvs : List V} {ds : List Value} {E : L2.St → XK} {nm : Str} {C : Addr} {ta : TE} {pl : Sem Bool}
    (he : PE X o ta) (hc : Cls X.K C) (hm : Meth X.K C nm g) (F : FnOk X.prog X.w X.K X.mg X.base (L2.CX X.prog X.w) k g fd ps sp) (hr : Room k X.A) (hb : Binds X.K fd ps ds) (hd : Vals dvs ds) (hx : ∀ σ, PassesAt (L2.CX X.prog X.w) X σ (E σ))
    (ht : eval (.Call (.Attribute o nm apos) [] [] pos) X.env = (do
      let ov ← eval o X.env
      standAt apos.atName
      let (f, first) ← holding [ov] (getMethod ov nm pl)
      callWith pos f first (backTo pos (starEach [] X.env)) (backToKw pos (keywordEach [] X.env))))
    (I : Inv X pins σ H s) (h : ta σ H fun x H1 => ∃ a dx fs, x = .ref a ∧ H1 a = some (.ins C dx fs) ∧ fs.lookup nm = none ∧ sp (x :: dvs) H1 Q (E σ)) :
    wpAny (model X.prog X.w) X.A (eval (.Call (.Attribute o nm apos) [] [] pos) X.env) (EP X pins σ Q) X.xe s := by
  refine PySem.W.methodCall_KW (pl := pl) (thn (he.run pins s σ H _ I h) ?_) ht
  rintro u s1 ⟨x, H1, I1, rx, a, dx, fs, ex, ea, l, q⟩
  subst ex
  obtain rfl : u = Value.ref a := rx
  refine getmeth_ok I1 ea hc hm l ?_
  exact PySem.W.callWith_K0 (first := [.ref a]) I1.kIn hm.kp (run_fnSD (us := [.ref a]) (vs := [.ref a]) F hr hb hd (hx σ) I1 (.cons rfl .nil) q)
theorem meth_imp {nm : Str} {n : Nat} {fm : FM} {dvs : List V} {dds : List D} (hdd : ∀ S r, RpAll X.K S r dds dvs) : ∀ σ H Q, tE X.K ad J W (mMeth c nm (arity n fm) dds mo mt) σ H Q →
    (tE X.K ad J W mo) σ H fun x H1 => ∃ a dx fs, x = .ref a ∧ H1 a = some (.ins (ad c) dx fs) ∧ fs.lookup nm = none ∧ (tA X.K ad J W mt) σ H1 fun vs H2 => spM X.K ad n fm (x :: (vs ++ dvs)) H2 Q (WE W σ) := by
  rintro σ H Q ⟨S, r, L, O, j, rl, rs, q⟩
  refine ⟨S, r, L, O, j, rl, rs, (Post.bind q).imp ?_⟩
  rintro x H1 ⟨S1, r1, d, O1, e1, s1, p1, q1⟩
  cases d with
  | hdl n' =>
    replace q1 : Post X.K ad (fun S r => Rp X.K S r) W σ S1 r1 Q (match O1[n']? with
      | some (.ins c' fs) => if c' = c ∧ fs.lookup nm = none then (mt L O1).bind fun xs O2 => arity n fm (.hdl n' :: (xs ++ dds)) O2 else .bad
      | _ => .bad) := q1
    split at q1
    · rename_i c' fs ho
      split at q1
      · rename_i hcc
        obtain ⟨rfl, hl⟩ := hcc
        obtain ⟨l, rfl, hr, hz, dx, gs, g1, g2⟩ := hdl_at s1 p1 ho
        refine ⟨l, dx, gs, rfl, g1, g2.lookup0 hl, S1, r1, L, O1, J.mono e1.s j, rl.mono e1, s1, (Post.bind q1).imp ?_⟩
        rintro vs H2 ⟨S2, r2, ds, O2, e2, s2, p2, q2⟩
        exact spM_ar s2 (.cons (Rp.mono e2 (.hdl n') _ p1) (p2.append (hdd S2 r2))) q2
      · exact q1.elim
    · exact q1.elim
  | non => exact q1.elim
  | bl i => exact q1.elim
  | int i => exact q1.elim
  | str s => exact q1.elim
  | lst s => exact q1.elim
  | rol s => exact q1.elim
  | tup s => exact q1.elim
theorem de_meth {nm : Str} {k n : Nat} {g : Addr} {fd : FuncData} {ps : List Str} {fm : FM} {dvs : List V} {dds : List D} {ds : List Value} {pl : Sem Bool} (he : PE X o (tE X.K ad J W mo)) (hc : Cls X.K (ad c)) (hm : Meth X.K (ad c) nm g) (F : FnOk X.prog X.w X.K X.mg X.base (L2.CX X.prog X.w) k g fd ps (spM X.K ad n fm))
    (hr : Room k X.A) (hb : Binds X.K fd ps ds) (hd : Vals dvs ds) (hdd : ∀ S r, RpAll X.K S r dds dvs) (tk : Takes X W) (ha : PA X (e :: es) (tA X.K ad J W mt))
    (hst : starEach (e :: es) X.env = (false, eval e X.env) :: starEach es X.env := by rfl) (hpl : (backTo pos (starEach es X.env)).any (·.1) = false := by rfl)
    (ht : eval (.Call (.Attribute o nm apos) (e :: es) [] pos) X.env = (do
      let ov ← eval o X.env
      standAt apos.atName
      let (f, first) ← holding [ov] (getMethod ov nm pl)
      callWith pos f first (backTo pos (starEach (e :: es) X.env)) (backToKw pos (keywordEach [] X.env))) := by rfl) :
    PE X (.Call (.Attribute o nm apos) (e :: es) [] pos) (tE X.K ad J W (mMeth c nm (arity n fm) dds mo mt)) :=
  ⟨fun pins s σ H Q I h => meth_run he hc hm F hr hb hd (fun σ => passAt tk σ) ha hst hpl ht I (meth_imp hdd σ H Q h)⟩
theorem de_meth0 {nm : Str} {k n : Nat} {g : Addr} {fd : FuncData} {ps : List Str} {fm : FM} {dvs : List V} {dds : List D} {ds : List Value} {pl : Sem Bool} (he : PE X o (tE X.K ad J W mo)) (hc : Cls X.K (ad c)) (hm : Meth X.K (ad c) nm g) (F : FnOk X.prog X.w X.K X.mg X.base (L2.CX X.prog X.w) k g fd ps (spM X.K ad n fm))
    (hr : Room k X.A) (hb : Binds X.K fd ps ds) (hd : Vals dvs ds) (hdd : ∀ S r, RpAll X.K S r dds dvs) (tk : Takes X W)
    (ht : eval (.Call (.Attribute o nm apos) [] [] pos) X.env = (do
      let ov ← eval o X.env
      standAt apos.atName
      let (f, first) ← holding [ov] (getMethod ov nm pl)
      callWith pos f first (backTo pos (starEach [] X.env)) (backToKw pos (keywordEach [] X.env))) := by rfl) :
    PE X (.Call (.Attribute o nm apos) [] [] pos) (tE X.K ad J W (mMeth c nm (arity n fm) dds mo mNil)) :=
  ⟨fun pins s σ H Q I h => meth_run0 he hc hm F hr hb hd (fun σ => passAt tk σ) ht I (by
    obtain ⟨S, r, L, O, j, rl, rs, q⟩ := meth_imp (mt := mNil) hdd σ H Q h
    refine ⟨S, r, L, O, j, rl, rs, q.imp ?_⟩
    rintro x H1 ⟨a, dx, fs, ex, ea, l, S1, r1, L1, O1, j1, rl1, rs1, q1⟩
    exact ⟨a, dx, fs, ex, ea, l, q1 S1 r1 H1 [] (Ext.refl _ _) rs1 rfl⟩)⟩
/-- an object is made, at the slots -/
theorem make_run {pins : List (Addr × Obj)} {s : Shared} {σ : L2.St} {H : Hp} {Q : VK} {k : Nat} {C g : Addr} {fd : FuncData} {ps : List Str} {sp : Sp} {dvs : List V} {ds : List Value} {E : XK} {us : List Value} {vs : List V} (M : Mk X.K C g) (F : FnOk X.prog X.w X.K X.mg X.base (L2.CX X.prog X.w) k g fd ps sp) (hr : Room (k + 1) X.A)
    (hb : Binds X.K fd ps ds) (hd : Vals dvs ds) (hx : PassesAt (L2.CX X.prog X.w) X σ E) (I : Inv X pins σ H s) (rr : Vals vs us)
    (h : ∀ x dx, H x = none → H dx = none → dx ≠ x → sp (.ref x :: (vs ++ dvs)) (upd (upd H dx (.own x)) x (.ins C dx [])) (fun v H2 => v = .non ∧ Q (.ref x) H2) E) :
    wpAny (model X.prog X.w) X.A (call (.ref C) us) (EP X pins σ Q) X.xe s := by
  let n := s.heap.objs.size
  have I2 := Inv.made (C := C) I
  have hq := h (n + 1) n (I.hok.fresh (Nat.le_succ n)) (I.hok.fresh (Nat.le_refl n)) (Nat.ne_of_lt (Nat.lt_succ_self n))
  have r2 : Vals (V.ref (n + 1) :: (vs ++ dvs)) (Value.ref (n + 1) :: (us ++ ds)) := .cons rfl (rr.append hd)
  have hl : ((Value.ref (n + 1) :: us) ++ ds).length = ps.length := by
    rw [← F.len _ _ _ _ hq]
    exact r2.length.symm
  have inner := F.run _ X.stack _ _ ⟨Value.ref (n + 1) :: us, []⟩ (Value.ref (n + 1) :: (us ++ ds)) _ _ E (hr.make C us []) (I2.env0.make C us []) (hb _ (Value.ref (n + 1) :: us) I2.kIn hl) r2 hq
  refine wpAny_call (make_map (f := g) I.kIn M.makes M.init (beq_iff_eq.mp M.fn) (codeAny_mono inner ?_))
  intro res s' hres
  cases res with
  | error e => exact hx pins _ _ e s' I2 hres
  | ok fl =>
    cases fl with
    | ret u =>
      obtain ⟨v, H', I3, rv, ev, q3⟩ := I2.after hres
      subst ev
      exact ⟨rv, V.ref (n + 1), H', I3, rfl, q3⟩
    | next => exact hres.elim
    | brk => exact hres.elim
    | cont => exact hres.elim
/-- the new object joins the store -/
theorem make_post {n : Nat} {fm : FM} {S : Hp} {r : Rg} {O : Store} {H : Hp} {xs : List D} {vs : List V} {σ : L2.St} {Q : VK} (rs : Rs X.K ad S r O H) (p : RpAll X.K S r xs vs)
    (q : Post X.K ad (fun S r => Rp X.K S r) W σ S r Q ((arity n fm (.hdl O.length :: xs) (O ++ [.ins c []])).bind fun d O2 => match d with | .non => .ok (.hdl O.length) O2 | _ => .bad)) :
    ∀ x dx, H x = none → H dx = none → dx ≠ x → spM X.K ad n fm (.ref x :: vs) (upd (upd H dx (.own x)) x (.ins (ad c) dx [])) (fun v H2 => v = .non ∧ Q (.ref x) H2) (WE W σ) := by
  intro x dx hx hdx hne
  have hx2 : (upd H dx (.own x)) x = none := by rw [upd_ne (Ne.symm hne)]; exact hx
  have s2 : Rs X.K ad S (r.push x) (O ++ [.ins c []]) (upd (upd H dx (.own x)) x (.ins (ad c) dx [])) := (rs.junk hdx).push hx2 ⟨rs.fresh hx, dx, [], upd_same, rfl⟩
  have e2 := Ext.push S r x
  have hself : Rp X.K S (r.push x) (.hdl O.length) (.ref x) := by
    refine ⟨x, rfl, ?_⟩
    show (r.l ++ [x])[O.length]? = some x
    rw [← rs.len, List.getElem?_append_right (Nat.le_refl _)]
    simp
  refine spM_ar (σ := σ) s2 (.cons hself (RpAll.mono e2 _ _ p)) ?_
  refine (Post.bind (Post.mono e2 q)).imp ?_
  rintro v H2 ⟨S3, r3, d, O3, e3, s3, p3, q3⟩
  cases d with
  | non => exact ⟨p3, q3 S3 r3 H2 _ (Ext.refl _ _) s3 (Rp.mono e3 (.hdl O.length) _ hself)⟩
  | hdl i => exact q3.elim
  | bl i => exact q3.elim
  | int i => exact q3.elim
  | str s => exact q3.elim
  | lst s => exact q3.elim
  | rol s => exact q3.elim
  | tup s => exact q3.elim
theorem de_make {x : Str} {k n : Nat} {g : Addr} {fd : FuncData} {ps : List Str} {fm : FM} {dvs : List V} {dds : List D} {ds : List Value} (M : Mk X.K (ad c) g) (F : FnOk X.prog X.w X.K X.mg X.base (L2.CX X.prog X.w) k g fd ps (spM X.K ad n fm)) (hr : Room (k + 1) X.A) (hg : Gl X x) (hm : X.mg x = some (.ref (ad c)))
    (hb : Binds X.K fd ps ds) (hd : Vals dvs ds) (hdd : ∀ S r, RpAll X.K S r dds dvs) (tk : Takes X W) (ha : PA X (e :: es) (tA X.K ad J W mt)) (hdb : (x == ("__debug__" : Str)) = false := by decide)
    (he : starEach (e :: es) X.env = (false, eval e X.env) :: starEach es X.env := by rfl) (hpl : (backTo pos (starEach es X.env)).any (·.1) = false := by rfl) : PE X (.Call (.Name x p) (e :: es) [] pos) (tE X.K ad J W (mMake c (arity n fm) dds mt)) := by
  refine ⟨fun pins s σ H Q I h => ?_⟩
  refine wpAny_Call_Name_kw (ld_glob I hg hm ?_ hdb)
  obtain ⟨S, r, L, O, j, rl, rs, q⟩ := h
  refine PySem.W.callWith_K (h₀ := X.base) I.ok.mod.kin M.kp (thn (ha.run pos pins s σ H _ I ⟨S, r, L, O, j, rl, rs, Post.bind q⟩) ?_) he hpl
  rintro us s1 ⟨vs, H1, I1, rr, S1, r1, ds, O1, e1, s1', p1, q1⟩
  exact ⟨I1.kIn, make_run M F hr hb hd (passAt tk σ) I1 rr (make_post s1' (p1.append (hdd S1 r1)) q1)⟩
theorem de_make0 {x : Str} {k n : Nat} {g : Addr} {fd : FuncData} {ps : List Str} {fm : FM} {dvs : List V} {dds : List D} {ds : List Value} (M : Mk X.K (ad c) g) (F : FnOk X.prog X.w X.K X.mg X.base (L2.CX X.prog X.w) k g fd ps (spM X.K ad n fm)) (hr : Room (k + 1) X.A) (hg : Gl X x) (hm : X.mg x = some (.ref (ad c)))
    (hb : Binds X.K fd ps ds) (hd : Vals dvs ds) (hdd : ∀ S r, RpAll X.K S r dds dvs) (tk : Takes X W) (hdb : (x == ("__debug__" : Str)) = false := by decide) : PE X (.Call (.Name x p) [] [] pos) (tE X.K ad J W (mMake c (arity n fm) dds mNil)) := by
  refine ⟨fun pins s σ H Q I h => ?_⟩
  refine wpAny_Call_Name_kw (ld_glob I hg hm ?_ hdb)
  obtain ⟨S, r, L, O, j, rl, rs, q⟩ := h
  refine PySem.W.callWith_K0 I.kIn M.kp ?_
  exact make_run (us := []) (vs := []) M F hr hb hd (passAt tk σ) I .nil (make_post rs (hdd S r) q)
end
end DK
end
section
set_option Elab.async false
set_option linter.all false
set_option autoImplicit false
set_option maxRecDepth 100000
set_option maxHeartbeats 4000000
/-! DKExc: raise, try, comprehensions, by mirrors. -/
namespace DK
open PySem L2
abbrev WF : WX := fun _ _ _ _ => False
theorem takesF {X : Cx} : Takes X WF := takes0
/-! ### raise, try -/
def sRaise (c : Str) (t : AM) : SM := fun L O => ofRes L (t L O) fun ds O1 => if ds.length ≤ 1000 then .exc ⟨c, none⟩ L O1 else .bad
section
variable {X : Cx} {ad : Str → Addr} {J : JP} {W : WX} {pos pos' p p2 np : Pos} {e : Expr} {es : List Expr} {mt : AM} {c : Str} {body suite : List Stmt} {b0 : Stmt} {sb : SM} {ss : Str → SM}
theorem ds_raise {x : Str} {bmB : List Value} {B newId initId : String} (hc : X.calm = true) (tk : Takes X W) (F : ExcBaseFacts B newId initId bmB) (q : PySem.W.excIn X.K (ad c) bmB newId = true) (gC : X.mg x = some (.ref (ad c))) (kC : PySem.W.keepIn X.K (.ref (ad c)) = true) (r : Raises X (.ref (ad c))) (hg : Gl X x)
    (ha : PA X (e :: es) (tA X.K ad J W mt)) (hdb : (x == ("__debug__" : Str)) = false := by decide) (he : starEach (e :: es) X.env = (false, eval e X.env) :: starEach es X.env := by rfl) (hpl : (backTo p2 (starEach es X.env)).any (·.1) = false := by rfl) :
    PS X (.Raise (some (.Call (.Name x p) (e :: es) [] p2)) none pos) (tS X.K ad J W (sRaise c mt)) := by
  refine ps_imp (ps_raise hc tk (pmk_ownA F q gC kC r hg ha hdb he hpl)) ?_
  rintro En σ H ⟨S, r, L, O, j, rl, rs, z⟩
  refine ⟨S, r, L, O, j, rl, rs, (bindS j rl z).imp ?_⟩
  rintro vs H1 ⟨S1, r1, ds, O1, e1, s1, p1, q1⟩
  replace q1 : PostS X.K ad J W S1 r1 En (if ds.length ≤ 1000 then .exc ⟨c, none⟩ L O1 else .bad) := q1
  split at q1
  · rename_i hl
    exact ⟨by rw [p1.length]; exact million (by omega), q1 S1 r1 σ H1 none (Ext.refl _ _) (J.mono e1.s j) (rl.mono e1) s1 rfl⟩
  · exact q1.elim
/-- a statement whose mirror is told by what is at hand -/
theorem pss_ex {α : Type} {st : List Stmt} {P : α → Prop} {t : α → TS} (h : ∀ x, P x → PSs X st (t x)) : PSs X st (fun En σ H => ∃ x, P x ∧ t x En σ H) := ⟨fun pins s σ H En I ⟨x, hp, q⟩ => (h x hp).run pins s σ H En I q⟩
end
/-! ### comprehensions -/
def wipeL (L : Loc) : List Nat → Loc
  | [] => L
  | v :: vs => (wipeL L vs).set v none
def lcTurn (vs : List Nat) (b : BM) (tt : TM) (el : EM) (L : Loc) (d : D) (O : Store) (acc : List D) : Option (Store × List D) := match b d (wipeL L vs) O with
  | some p => match tt p.1 p.2 with
    | .ok true O2 => match el p.1 O2 with
      | .ok y O3 => if acc.length ≤ 900000 then some (O3, acc ++ [y]) else none
      | _ => none
    | .ok false O2 => some (O2, acc)
    | _ => none
  | none => none
def lcG (nx : Nat → Store → Option (Option D)) (turn : D → Store → List D → Option (Store × List D)) : Nat → Nat → Store → List D → Option (Store × List D)
  | 0, i, O, acc => match nx i O with
    | some none => some (O, acc)
    | _ => none
  | k + 1, i, O, acc => match nx i O with
    | some none => some (O, acc)
    | some (some d) => match turn d O acc with
      | some p => lcG nx turn k (i + 1) p.1 p.2
      | none => none
    | none => none
def mYes : TM := fun _ O => .ok true O
def lcEnd (h : Bool) : Option (Store × List D) → Res D
  | some p => newL h p.2 p.1
  | none => .bad
/-- over a list -/
def mLcL (h : Bool) (src : EM) (vs : List Nat) (b : BM) (tt : TM) (el : EM) : EM := fun L O => (src L O).bind fun d O1 => match lsqOf O1 d with
  | some xs => lcEnd h (lcG (fun i O => (lsqOf O d).map (·[i]?)) (lcTurn vs b tt el L) xs.length 0 O1 [])
  | none => .bad
/-- what a block may not touch -/
def Cl (vs : List Nat) (J : JP) : Prop := ∀ (σ : L2.St) (v : V) (S : Hp) (i : Nat), i ∈ vs → J.p σ S → J.p (σ.set i (some v)) S
section
variable {X : Cx} {ad : Str → Addr} {J : JP} {W : WX} {pos p q : Pos} {a b tg elt iter : Expr} {ifs : List Expr} {m me : EM} {mt : AM} {bm : BM} {tm : TM} {own : List (Str × Nat)} {scope : Scope}
theorem wipe_rl {K : PySem.W.Frag} {S : Hp} {r : Rg} {L : Loc} {σ : L2.St} (h : Rl K S r L σ) : ∀ vs : List Nat, Rl K S r (wipeL L vs) (wipe σ vs)
  | [] => h
  | v :: vs => by
    unfold wipeL wipe
    exact (wipe_rl h vs).wipe v none
abbrev Jw (vs : List Nat) (σ0 : L2.St) : JP := ⟨fun σ _ => wipe σ vs = σ0, fun _ h => h⟩
theorem wipe_cl {σ0 : L2.St} {vs : List Nat} : Cl vs (Jw vs σ0) := fun σ v _ i hi h => by
  have key : ∀ (vs : List Nat) (σ : L2.St), i ∈ vs → wipe (σ.set i (some v)) vs = wipe σ vs := fun vs => by
    induction vs with
    | nil => intro σ hi; simp at hi
    | cons w ws ih =>
      intro σ hi
      unfold wipe
      by_cases hw : i ∈ ws
      · rw [ih σ hw]
      · have e : i = w := by
          rcases List.mem_cons.mp hi with e | e
          · exact e
          · exact absurd e hw
        subst e
        have comm : ∀ (us : List Nat) (σ : L2.St), i ∉ us → wipe (σ.set i (some v)) us = (wipe σ us).set i (some v) := fun us => by
          induction us with
          | nil => intro σ _; rfl
          | cons u us ih2 =>
            intro σ hu
            unfold wipe
            rw [ih2 σ (fun z => hu (List.mem_cons_of_mem _ z)), List.set_comm _ _ (fun z => hu (by rw [z]; exact List.mem_cons_self))]
        rw [comm ws σ hw, List.set_set]
  show wipe (σ.set i (some v)) vs = σ0
  rw [key vs σ hi]
  exact h
/-- what is told for every J that lets the block's names change -/
def tGx (K : PySem.W.Frag) (ad : Str → Addr) (vs : List Nat) (b : BM) : TG := fun v σ H Q => ∃ J', Cl vs J' ∧ tG K ad J' b v σ H Q
def tTx (K : PySem.W.Frag) (ad : Str → Addr) (vs : List Nat) (m : TM) : TT := fun σ H Q => ∃ J', Cl vs J' ∧ tT K ad J' WF m σ H Q
def tEx (K : PySem.W.Frag) (ad : Str → Addr) (vs : List Nat) (m : EM) : TE := fun σ H Q => ∃ J', Cl vs J' ∧ tE K ad J' WF m σ H Q
theorem gx_of {Y : Cx} {vs : List Nat} (h : ∀ J', Cl vs J' → PG Y tg (tG Y.K ad J' bm)) : PG Y tg (tGx Y.K ad vs bm) := ⟨fun pins s σ H v u Q I r ⟨J', hJ, z⟩ => (h J' hJ).run pins s σ H v u Q I r z⟩
theorem tx_of {Y : Cx} {vs : List Nat} (h : ∀ J', Cl vs J' → PTs Y ifs (tT Y.K ad J' WF tm)) : PTs Y ifs (tTx Y.K ad vs tm) := ⟨fun pins s σ H Q I ⟨J', hJ, z⟩ => (h J' hJ).run pins s σ H Q I z⟩
theorem ex_of {Y : Cx} {vs : List Nat} (h : ∀ J', Cl vs J' → PE Y elt (tE Y.K ad J' WF me)) : PE Y elt (tEx Y.K ad vs me) := ⟨fun pins s σ H Q I ⟨J', hJ, z⟩ => (h J' hJ).run pins s σ H Q I z⟩
theorem dts_nil {Y : Cx} : PTs Y [] (tT Y.K ad J W mYes) := ⟨fun pins s σ H Q I ⟨S, r, L, O, j, rl, rs, z⟩ => pts_nil.run pins s σ H Q I (z S r H true (Ext.refl _ _) rs rfl)⟩
theorem dts_one {Y : Cx} (h : PT Y a (tT Y.K ad J W tm)) : PTs Y [a] (tT Y.K ad J W tm) := pts_one h
/-- a comprehension's loop -/
theorem lc_post {It' : It} {nx : Nat → Store → Option (Option D)} {hm : Bool} {vs : List Nat} {S1 : Hp} {r1 : Rg} {L : Loc} {σ : L2.St} {Q : VK} {k : Nat} {O1 : Store} {H1 : Hp}
    (hgo : ∀ (i : Nat) (S : Hp) (r : Rg) (O : Store) (H : Hp) (d : D), Same S1 S → r1.l <+: r.l → Rs X.K ad S r O H → nx i O = some (some d) → It'.go i H ∧ ∀ x H', It'.yld i H x H' → H' = H ∧ Rp X.K S r d x)
    (hst : ∀ (i : Nat) (S : Hp) (r : Rg) (O : Store) (H : Hp), Same S1 S → r1.l <+: r.l → Rs X.K ad S r O H → nx i O = some none → It'.stop i H)
    (rl : Rl X.K S1 r1 L σ) (rs : Rs X.K ad S1 r1 O1 H1) (z : Post X.K ad (fun S r => Rp X.K S r) W σ S1 r1 Q (lcEnd hm (lcG nx (lcTurn vs bm tm me L) k 0 O1 []))) :
    ∀ Dn, H1 Dn = none → ∃ W' : Nat → Nat → Hp → Prop, (∃ m, W' 0 m (upd H1 Dn (.lst []))) ∧ ∀ i m H, W' i m H →
      (It'.stop i H ∧ Q (.ref Dn) H) ∨ (It'.go i H ∧ ∃ Nx : Hp → Prop, (∀ H', Nx H' → ∃ m', m' < m ∧ W' (i + 1) m' H') ∧ ∀ x H', It'.yld i H x H' → tGx X.K ad vs bm x (wipe σ vs) H' fun σ2 H2 => wipe σ2 vs = wipe σ vs ∧ tTx X.K ad vs tm σ2 H2 fun b H3 =>
        if b = true then tEx X.K ad vs me σ2 H3 fun y H4 => ∃ acc, H4 Dn = some (.lst acc) ∧ acc.length < sizeLine ∧ Nx (upd H4 Dn (.lst (acc ++ [y]))) else Nx H3) := by
  intro Dn hDn
  have hfr : r1.fr Dn = none := rs.fr.free hDn
  have ww : wipe (wipe σ vs) vs = wipe σ vs := by
    have key : ∀ (us : List Nat) (τ : L2.St), (∀ u ∈ us, ∀ w, τ[u]? = some w → w = none) → wipe τ us = τ := fun us => by
      induction us with
      | nil => intro τ _; rfl
      | cons u us ih =>
        intro τ h
        unfold wipe
        rw [ih τ fun u' hu' => h u' (List.mem_cons_of_mem _ hu')]
        refine List.ext_getElem? fun n => ?_
        by_cases hn : u = n
        · subst hn
          by_cases hl : u < τ.length
          · rw [List.getElem?_set_self hl]
            have := h u List.mem_cons_self τ[u] (List.getElem?_eq_getElem hl)
            rw [List.getElem?_eq_getElem hl, this]
          · rw [List.getElem?_eq_none (by rw [List.length_set]; omega), List.getElem?_eq_none (by omega)]
        · rw [List.getElem?_set_ne hn]
    refine key vs _ fun u hu w hw => ?_
    cases w with
    | none => rfl
    | some w => exact absurd hu (wipe_some hw).2
  refine ⟨fun i m H => ∃ S r O acc us, Same S1 S ∧ r1.l <+: r.l ∧ r.fr = r1.fr ∧ Rs X.K ad S (r.at (upd r1.fr Dn (.lst us))) O H ∧ RpAll X.K S r acc us ∧ Post X.K ad (fun S r => Rp X.K S r) W σ S1 r1 Q (lcEnd hm (lcG nx (lcTurn vs bm tm me L) m i O acc)),
    ⟨k, S1, r1, O1, [], [], Same.refl _, List.prefix_rfl, rfl, rs.hold hDn, rfl, z⟩, ?_⟩
  rintro i m H ⟨S, r, O, acc, us, es, el, ef, rs, ra, z⟩
  have fin : nx i O = some none → Post X.K ad (fun S r => Rp X.K S r) W σ S1 r1 Q (lcEnd hm (some (O, acc))) → It'.stop i H ∧ Q (.ref Dn) H := fun hn z => by
    refine ⟨hst i S (r.at (upd r1.fr Dn (.lst us))) O H es el rs hn, ?_⟩
    have rs' : Rs X.K ad S (r.at (upd r.fr Dn (.lst us))) O H := by rw [ef]; exact rs
    obtain ⟨q1, q2, q3, q4⟩ := rs'.unhold (by rw [ef]; exact hfr)
    have e0 : Ext S1 r1 S r := ⟨es, ef, el⟩
    replace z : Post X.K ad (fun S r => Rp X.K S r) W σ S1 r1 Q (newL hm acc O) := z
    unfold newL at z
    split at z
    · cases hm with
      | true =>
        rw [if_pos rfl] at z
        refine z S (r.push Dn) H _ (e0.trans (Ext.push S r Dn)) (q1.pushAt ⟨q3, us, q2, RpAll.mono (Ext.push S r Dn) _ _ ra⟩ q4 (by rw [ef]; exact hfr)) ⟨Dn, rfl, ?_⟩
        show (r.l ++ [Dn])[O.length]? = some Dn
        rw [← q1.len, List.getElem?_append_right (Nat.le_refl _)]
        simp
      | false =>
        rw [if_neg Bool.false_ne_true] at z
        exact z (upd S Dn (.lst us)) r H _ (e0.trans (Ext.new q3)) (q1.sealAt q2 q3 q4 (by rw [ef]; exact hfr)) ⟨Dn, us, rfl, upd_same, RpAll.mono (Ext.new q3) _ _ ra⟩
    · exact z.elim
  have next : ∀ m', m = m' + 1 → ∀ d, nx i O = some (some d) → Post X.K ad (fun S r => Rp X.K S r) W σ S1 r1 Q (lcEnd hm (match lcTurn vs bm tm me L d O acc with | some p => lcG nx (lcTurn vs bm tm me L) m' (i + 1) p.1 p.2 | none => none)) →
      (It'.go i H ∧ ∃ Nx : Hp → Prop, (∀ H', Nx H' → ∃ m'', m'' < m ∧ (∃ S r O acc us, Same S1 S ∧ r1.l <+: r.l ∧ r.fr = r1.fr ∧ Rs X.K ad S (r.at (upd r1.fr Dn (.lst us))) O H' ∧ RpAll X.K S r acc us ∧ Post X.K ad (fun S r => Rp X.K S r) W σ S1 r1 Q (lcEnd hm (lcG nx (lcTurn vs bm tm me L) m'' (i + 1) O acc)))) ∧
        ∀ x H', It'.yld i H x H' → tGx X.K ad vs bm x (wipe σ vs) H' fun σ2 H2 => wipe σ2 vs = wipe σ vs ∧ tTx X.K ad vs tm σ2 H2 fun b H3 =>
          if b = true then tEx X.K ad vs me σ2 H3 fun y H4 => ∃ acc, H4 Dn = some (.lst acc) ∧ acc.length < sizeLine ∧ Nx (upd H4 Dn (.lst (acc ++ [y]))) else Nx H3) := by
    intro m' hm' d hd z
    obtain ⟨g1, g2⟩ := hgo i S (r.at (upd r1.fr Dn (.lst us))) O H d es el rs hd
    refine ⟨g1, _, fun H' hN => ⟨m', by omega, hN⟩, fun x H' hy => ?_⟩
    obtain ⟨rfl, px⟩ := g2 x H' hy
    let rr := r.at (upd r1.fr Dn (.lst us))
    have rlw : Rl X.K S rr (wipeL L vs) (wipe σ vs) := ⟨(wipe_rl rl vs).len, fun n d hn => by
      obtain ⟨v, q1, q2⟩ := (wipe_rl rl vs).at_ n d hn
      exact ⟨v, q1, Rp.monoW (r' := rr) es el d v q2⟩⟩
    refine ⟨Jw vs (wipe σ vs), wipe_cl, S, rr, wipeL L vs, O, d, ww, rlw, rs, px, ?_⟩
    unfold lcTurn at z
    generalize bm d (wipeL L vs) O = w at z
    cases w with
    | none => exact z.elim
    | some w =>
      intro S2 r2 σ2 H2 e2 j2 l2 s2
      refine ⟨j2, Jw vs (wipe σ vs), wipe_cl, S2, r2, w.1, w.2, j2, l2, s2, ?_⟩
      replace z : Post X.K ad (fun S r => Rp X.K S r) W σ S1 r1 Q (lcEnd hm (match (match tm w.1 w.2 with
        | .ok true O2 => match me w.1 O2 with
          | .ok y O3 => if acc.length ≤ 900000 then some (O3, acc ++ [y]) else none
          | _ => none
        | .ok false O2 => some (O2, acc)
        | _ => none) with | some p => lcG nx (lcTurn vs bm tm me L) m' (i + 1) p.1 p.2 | none => none)) := z
      generalize tm w.1 w.2 = t at z
      cases t with
      | exc x O3 => exact z.elim
      | bad => exact z.elim
      | ok k O3 =>
        intro S3 r3 H3 k' e3 s3 ek
        obtain rfl : k' = k := ek
        cases k' with
        | false =>
          rw [if_neg Bool.false_ne_true]
          have e23 := e2.trans e3
          have hr3 : r3 = (r3.at r1.fr).at (upd r1.fr Dn (.lst us)) := by
            obtain ⟨l3, f3⟩ := r3
            have : f3 = upd r1.fr Dn (.lst us) := e23.f
            subst this
            rfl
          rw [hr3] at s3
          exact ⟨S3, r3.at r1.fr, O3, acc, us, es.trans e23.s, List.IsPrefix.trans el e23.r, rfl, s3, RpAll.monoW (r := r) (r' := r3.at r1.fr) e23.s e23.r _ _ ra, z⟩
        | true =>
          rw [if_pos rfl]
          refine ⟨Jw vs (wipe σ vs), wipe_cl, S3, r3, w.1, O3, j2, l2.mono e3, s3, ?_⟩
          replace z : Post X.K ad (fun S r => Rp X.K S r) W σ S1 r1 Q (lcEnd hm (match (match me w.1 O3 with
            | .ok y O3 => if acc.length ≤ 900000 then some (O3, acc ++ [y]) else none
            | _ => none) with | some p => lcG nx (lcTurn vs bm tm me L) m' (i + 1) p.1 p.2 | none => none)) := z
          generalize me w.1 O3 = t at z
          cases t with
          | exc x O3 => exact z.elim
          | bad => exact z.elim
          | ok y O4 =>
            intro S4 r4 H4 v e4 s4 pv
            have e24 := (e2.trans e3).trans e4
            have hr4 : r4 = (r4.at r1.fr).at (upd r1.fr Dn (.lst us)) := by
              obtain ⟨l4, f4⟩ := r4
              have : f4 = upd r1.fr Dn (.lst us) := e24.f
              subst this
              rfl
            rw [hr4] at s4
            replace z : Post X.K ad (fun S r => Rp X.K S r) W σ S1 r1 Q (lcEnd hm (match (if acc.length ≤ 900000 then some (O4, acc ++ [y]) else none) with | some p => lcG nx (lcTurn vs bm tm me L) m' (i + 1) p.1 p.2 | none => none)) := z
            split at z
            · rename_i hacc
              split at hacc
              · rename_i hlen
                cases hacc
                refine ⟨us, s4.fr Dn _ upd_same, by rw [ra.length]; exact million_lt (by omega), S4, r4.at r1.fr, O4, acc ++ [y], us ++ [v], es.trans e24.s, List.IsPrefix.trans el e24.r, rfl, s4.rehold, ?_, z⟩
                exact (RpAll.monoW (r := r) (r' := r4.at r1.fr) e24.s e24.r _ _ ra).append (.cons (Rp.monoW (r := r4) (r' := r4.at r1.fr) (Same.refl _) List.prefix_rfl _ _ pv) .nil)
              · cases hacc
            · exact z.elim
  cases hn : nx i O with
  | none =>
    have e : lcG nx (lcTurn vs bm tm me L) m i O acc = none := by
      cases m with
      | zero => unfold lcG; rw [hn]
      | succ m => unfold lcG; rw [hn]
    rw [e] at z
    exact z.elim
  | some o =>
    cases o with
    | none =>
      have e : lcG nx (lcTurn vs bm tm me L) m i O acc = some (O, acc) := by
        cases m with
        | zero => unfold lcG; rw [hn]
        | succ m => unfold lcG; rw [hn]
      rw [e] at z
      exact .inl (fin hn z)
    | some d =>
      cases m with
      | zero =>
        have e : lcG nx (lcTurn vs bm tm me L) 0 i O acc = none := by unfold lcG; rw [hn]
        rw [e] at z
        exact z.elim
      | succ m =>
        have e : lcG nx (lcTurn vs bm tm me L) (m + 1) i O acc = (match lcTurn vs bm tm me L d O acc with | some p => lcG nx (lcTurn vs bm tm me L) m (i + 1) p.1 p.2 | none => none) := by
          show (match nx i O with | some none => some (O, acc) | some (some d) => (match lcTurn vs bm tm me L d O acc with | some p => lcG nx (lcTurn vs bm tm me L) m (i + 1) p.1 p.2 | none => none) | none => none) = _
          rw [hn]
        rw [e] at z
        exact .inr (next m rfl d hn z)
theorem lcL_imp {hm : Bool} : ∀ σ H Q, (tE X.K ad J W (mLcL hm m (own.map (·.2)) bm tm me)) σ H Q → tLc (iList X.K (tE X.K ad J W m)) (tGx X.K ad (own.map (·.2)) bm) (tTx X.K ad (own.map (·.2)) tm) (tEx X.K ad (own.map (·.2)) me) (own.map (·.2)) σ H Q := by
  rintro σ H Q ⟨S, r, L, O, j, rl, rs, z⟩
  refine ⟨S, r, L, O, j, rl, rs, (Post.bind z).imp ?_⟩
  rintro x H1 ⟨S1, r1, d, O1, e1, s1, p1, q1⟩
  replace q1 : Post X.K ad (fun S r => Rp X.K S r) W σ S1 r1 Q (match lsqOf O1 d with
    | some xs => lcEnd hm (lcG (fun i O => (lsqOf O d).map (·[i]?)) (lcTurn (own.map (·.2)) bm tm me L) xs.length 0 O1 [])
    | none => .bad) := q1
  split at q1
  · rename_i xs hx
    obtain ⟨a, vs, rfl, h1, h2⟩ := lsqOf_ok s1 p1 hx
    refine ⟨a, rfl, ⟨vs, h1⟩, lc_post (fun i S r O H d' es el rs hn => ?_) (fun i S r O H es el rs hn => ?_) (rl.mono e1) s1 q1⟩
    · obtain ⟨ys, hy, e⟩ := Option.map_eq_some_iff.mp (show (lsqOf O d).map (·[i]?) = some (some d') from hn)
      obtain ⟨a', us, ea, g1, g2⟩ := lsqOf_ok rs (Rp.monoW es el d _ p1) hy
      cases ea
      obtain ⟨v, hv, pv⟩ := g2.get e
      exact ⟨⟨us, v, g1, hv⟩, fun x H' hyy => ⟨hyy.1, by rw [Option.some.inj ((hyy.2 us g1).symm.trans hv)]; exact pv⟩⟩
    · obtain ⟨ys, hy, e⟩ := Option.map_eq_some_iff.mp (show (lsqOf O d).map (·[i]?) = some none from hn)
      obtain ⟨a', us, ea, g1, g2⟩ := lsqOf_ok rs (Rp.monoW es el d _ p1) hy
      cases ea
      exact ⟨us, g1, by rw [g2.length]; exact List.getElem?_eq_none_iff.mp e⟩
  · exact q1.elim
theorem de_lcL {hm : Bool} (hc : X.calm = true) (hN : X.N.Nodup) (hi : PE X iter (tE X.K ad J W m)) (ok : BlkOk X.N X.env.scope scope own)
    (hg : ∀ (s : Shared) (H : Hp) (C : Addr) (cl : List (Str × Addr)) (fp : List Addr) (J' : JP), Cl (own.map (·.2)) J' → PG (X.blk s H scope (PySem.compEnvC scope cl C X.env) fp) tg (tG X.K ad J' bm))
    (ht : ∀ (s : Shared) (H : Hp) (C : Addr) (cl : List (Str × Addr)) (fp : List Addr) (J' : JP), Cl (own.map (·.2)) J' → PTs (X.blk s H scope (PySem.compEnvC scope cl C X.env) fp) ifs (tT X.K ad J' WF tm))
    (he : ∀ (s : Shared) (H : Hp) (C : Addr) (cl : List (Str × Addr)) (fp : List Addr) (J' : JP), Cl (own.map (·.2)) J' → PE (X.blk s H scope (PySem.compEnvC scope cl C X.env) fp) elt (tE X.K ad J' WF me)) (hs : ∀ x, foldedSetIterable iter X.env x = pure x := by intro _; rfl) :
    PE X (.ListComp elt [⟨tg, iter, ifs, 0⟩] scope pos) (tE X.K ad J W (mLcL hm m (own.map (·.2)) bm tm me)) :=
  pe_imp (pe_lc hc hN (pi_list hi) ok (g := tGx X.K ad (own.map (·.2)) bm) (tt := tTx X.K ad (own.map (·.2)) tm) (te := tEx X.K ad (own.map (·.2)) me) (fun s H C cl fp => gx_of (hg s H C cl fp)) (fun s H C cl fp => tx_of (ht s H C cl fp)) (fun s H C cl fp => ex_of (he s H C cl fp)) hs) lcL_imp
theorem ds_setLcL {y : Str} {py spos : Pos} {iy : Nat} {hm : Bool} (hc : X.calm = true) (hN : X.N.Nodup) (hi : PE X iter (tE X.K ad J W m)) (ok : BlkOk X.N X.env.scope scope own)
    (hg : ∀ (s : Shared) (H : Hp) (C : Addr) (cl : List (Str × Addr)) (fp : List Addr) (J' : JP), Cl (own.map (·.2)) J' → PG (X.blk s H scope (PySem.compEnvC scope cl C X.env) fp) tg (tG X.K ad J' bm))
    (ht : ∀ (s : Shared) (H : Hp) (C : Addr) (cl : List (Str × Addr)) (fp : List Addr) (J' : JP), Cl (own.map (·.2)) J' → PTs (X.blk s H scope (PySem.compEnvC scope cl C X.env) fp) ifs (tT X.K ad J' WF tm))
    (he : ∀ (s : Shared) (H : Hp) (C : Addr) (cl : List (Str × Addr)) (fp : List Addr) (J' : JP), Cl (own.map (·.2)) J' → PE (X.blk s H scope (PySem.compEnvC scope cl C X.env) fp) elt (tE X.K ad J' WF me)) (hs : ∀ x, foldedSetIterable iter X.env x = pure x := by intro _; rfl) (hy : X.N[iy]? = some y) (hyl : X.env.scope.names.lookup y = some .local) (hsw : swapsWith (.ListComp elt [⟨tg, iter, ifs, 0⟩] scope pos) (some (.Name y py)) spos.line X.env = pure true) (hJ : ∀ (σ : L2.St) (v : Option V) (S : Hp), J.p σ S → J.p (σ.set iy v) S := by intro _ _ _ _; trivial) :
    PS X (.Assign [.Name y py] (.ListComp elt [⟨tg, iter, ifs, 0⟩] scope pos) spos) (tS X.K ad J W (sAsg (mLcL hm m (own.map (·.2)) bm tm me) (bName iy))) := by
  refine ps_imp (ps_setLc hc hN hy hyl hsw (pi_list hi) ok (g := tGx X.K ad (own.map (·.2)) bm) (tt := tTx X.K ad (own.map (·.2)) tm) (te := tEx X.K ad (own.map (·.2)) me) (fun s H C cl fp => gx_of (hg s H C cl fp)) (fun s H C cl fp => tx_of (ht s H C cl fp)) (fun s H C cl fp => ex_of (he s H C cl fp)) hs) ?_
  rintro En σ H h
  refine lcL_imp (hm := hm) (W := W) (J := J) σ H _ ?_
  refine asg_imp (t := gName iy) ?_ En σ H h
  rintro v σ H Q ⟨S, r, L, O, d, j, rl, rs, rp, p⟩
  exact p S r _ H (Ext.refl _ _) (hJ _ _ _ j) (rl.set iy rp) rs
end
end DK
end
section
set_option Elab.async false
set_option linter.all false
set_option autoImplicit false
set_option maxRecDepth 100000
set_option maxHeartbeats 4000000
/-! DKHead: facts of the head by names, a def's datum, the law's own end. -/
namespace DK
open PySem L2
/-! ### more facts -/
/-- these values are these texts -/
def strsB : List Value → List Str → Bool
  | [], [] => true
  | .str a _ :: vs, b :: bs => decide (a = b) && strsB vs bs
  | _, _ => false
theorem strsB_ok : ∀ {vs : List Value} {xs : List Str}, strsB vs xs = true → Vals (xs.map V.str) vs
  | [], [], _ => .nil
  | v :: vs, [], h => by cases v <;> cases h
  | [], x :: xs, h => by cases h
  | v :: vs, x :: xs, h => by
    cases v with
    | str a t =>
      obtain ⟨h1, h2⟩ := Bool.and_eq_true_iff.mp (show (decide (a = x) && strsB vs xs) = true from h)
      obtain rfl := of_decide_eq_true h1
      exact .cons ⟨t, rfl⟩ (strsB_ok h2)
    | _ => cases h
/-- a tuple of texts of the module -/
def tupB (K : PySem.W.Frag) (a : Addr) (xs : List Str) : Bool := match K.lookup a with
  | some o => (o.cls == .type "tuple") && (match o.data with
    | .seq its _ => decide (its.size ≤ sizeLine) && strsB its.toList xs
    | _ => false)
  | none => false
inductive Fx where
  | exc (x : Str)
  | kitR (x y : Str) (b : Bool)
  | kitT (x : Str) (T : String) (b : Bool)
  | own (x : Str)
  | tupS (x : Str) (xs : List Str)
  | tupD (x : Str)
def Fx.ok (K : PySem.W.Frag) : Fx → Bool
  | .exc x => (decide (PySem.W.findIn K (.ref (He.ga K x)) "__getattribute__" = some (some (.builtin "BaseException.__getattribute__")) ∧ PySem.W.findIn K (.ref (He.ga K x)) "__getattr__" = some none ∧ PySem.W.subIn K (.ref (He.ga K x)) (.type "BaseException") = some true ∧ PySem.W.hasDictIn K (He.ga K x) = true ∧ PySem.W.findIn K (.ref (He.ga K x)) "__class__" = some (some (.builtin "object.__class__"))
      ∧ PySem.W.specialIn K (.builtin "object.__class__") "__get__" = some (some (.builtin "getset_descriptor.__get__")) ∧ PySem.W.takesIn K (.builtin "object.__class__") = some true ∧ PySem.W.mroIn K (He.ga K x) (.type "object") = some true))
  | .kitR x y b => decide (PySem.W.kitOne K (.ref (He.ga K x)) (.ref (He.ga K y)) = some b)
  | .kitT x T b => decide (PySem.W.kitOne K (.ref (He.ga K x)) (.type T) = some b)
  | .own x => decide (PySem.W.findIn K (.ref (He.ga K x)) "__class__" = some (some (.builtin "object.__class__")) ∧ PySem.W.specialIn K (.builtin "object.__class__") "__get__" = some (some (.builtin "getset_descriptor.__get__"))
      ∧ PySem.W.takesIn K (.builtin "object.__class__") = some true ∧ PySem.W.mroIn K (He.ga K x) (.type "object") = some true ∧ PySem.W.kitOne K (.ref (He.ga K x)) (.ref (He.ga K x)) = some true ∧ PySem.W.kitOne K (.type "int") (.ref (He.ga K x)) = some false)
  | .tupS x xs => tupB K (He.ga K x) xs
  | .tupD x => (match K.lookup (He.ga K x) with
    | some o => (o.cls == .type "tuple") && o.dict.isNone
    | none => false)
theorem fx_tupS {K : PySem.W.Frag} {x : Str} {xs : List Str} (h : (Fx.tupS x xs).ok K = true) (S : Hp) (r : Rg) : Rp K S r (.tup (xs.map .str)) (.ref (He.ga K x)) := by
  replace h : tupB K (He.ga K x) xs = true := h
  unfold tupB at h
  split at h
  · rename_i o ho
    obtain ⟨h1, h2⟩ := Bool.and_eq_true_iff.mp h
    split at h2
    · rename_i its n hd
      obtain ⟨h3, h4⟩ := Bool.and_eq_true_iff.mp h2
      have rp : ∀ ys : List Str, RpAll K S r (ys.map D.str) (ys.map V.str) := fun ys => by
        induction ys with
        | nil => rfl
        | cons y ys ih => exact ⟨_, _, rfl, rfl, ih⟩
      exact ⟨_, xs.map V.str, rfl, .inr ⟨o, its, n, ho, eq_of_beq h1, hd, of_decide_eq_true h3, strsB_ok h4⟩, rp xs⟩
    · cases h2
  · cases h
theorem fx_exc {K : PySem.W.Frag} {x : Str} (h : (Fx.exc x).ok K = true) : ExcC K (He.ga K x) := by
  obtain ⟨h1, h2, h3, h4, h5, h6, h7, h8⟩ := of_decide_eq_true h
  exact ⟨h1, h2, h3, h4, h5, h6, h7, h8⟩
def allFx (fx : List Fx) (K : PySem.W.Frag) : Bool := fx.all fun f => f.ok K
theorem fx_at {fx : List Fx} {K : PySem.W.Frag} (c : allFx fx K = true) (i : Nat) {f : Fx} (h : fx[i]? = some f := by rfl) : f.ok K = true := List.all_eq_true.mp c f (List.mem_of_getElem? h)
/-- what the head tells of K -/
structure Knows (fa : List He.Fa) (fn : List He.DefD) (fx : List Fx) (K : PySem.W.Frag) (mg : Str → Option Value) : Prop where
  c : He.SaysD fa fn K
  x : allFx fx K = true
  h : ∃ h : Heap, K.In h ∧ h.Ns mainGlobals mg
section
variable {fa : List He.Fa} {fn : List He.DefD} {fx : List Fx} {K : PySem.W.Frag} {mg : Str → Option Value} (k : Knows fa fn fx K mg)
include k
theorem Knows.glo (i : Nat) {x : Str} (e : fa[i]? = some (.glo x) := by rfl) : mg x = some (.ref (He.ga K x)) := by
  obtain ⟨h, X, G⟩ := k.h
  exact He.glo_ok X G (k.c.fact i e)
theorem Knows.free (i : Nat) {x : Str} (e : fa[i]? = some (.free x) := by rfl) : mg x = none := by
  obtain ⟨h, X, G⟩ := k.h
  exact He.free_ok X G (k.c.fact i e)
theorem Knows.int (i : Nat) {x : Str} {z : Int} (e : fa[i]? = some (.int x z) := by rfl) : ∃ t, mg x = some (.int z t) := by
  obtain ⟨h, X, G⟩ := k.h
  exact He.int_ok X G (k.c.fact i e)
theorem Knows.str (i : Nat) {x z : Str} (e : fa[i]? = some (.str x z) := by rfl) : ∃ t, mg x = some (.str z t) := by
  obtain ⟨h, X, G⟩ := k.h
  exact He.str_ok X G (k.c.fact i e)
theorem Knows.cls (i : Nat) {x : Str} (e : fa[i]? = some (.cls x) := by rfl) : Cls K (He.ga K x) := He.cls_ok (k.c.fact i e)
theorem Knows.noat (i : Nat) {x f : Str} (e : fa[i]? = some (.noat x f) := by rfl) : NoAttr K (He.ga K x) f := He.noat_ok (k.c.fact i e)
theorem Knows.meth (i : Nat) {x m : Str} (e : fa[i]? = some (.meth x m) := by rfl) : Meth K (He.ga K x) m (He.fAd K (x, some m)) := He.meth_ok (k.c.fact i e)
theorem Knows.mkr (i : Nat) {x : Str} (e : fa[i]? = some (.mkr x) := by rfl) : Mk K (He.ga K x) (He.fAd K (x, some "__init__")) := He.mkr_ok (k.c.fact i e)
theorem Knows.exc (i : Nat) {x : Str} (e : fa[i]? = some (.exc x) := by rfl) : PySem.W.excIn K (He.ga K x) He.veBase "ValueError.__new__" = true ∧ PySem.W.keepIn K (.ref (He.ga K x)) = true ∧ PySem.W.subIn K (.ref (He.ga K x)) (.type "BaseException") = some true ∧ PySem.W.typeIn K (.ref (He.ga K x)) = some (.type "type") := He.exc_ok (k.c.fact i e)
theorem Knows.exm (i : Nat) {x y : Str} {b : Bool} (e : fa[i]? = some (.exm x y b) := by rfl) : PySem.W.exmOne K (.ref (He.ga K x)) (.ref (He.ga K y)) = some b := He.exm_ok (k.c.fact i e)
end
/-- a def that the mirror tells -/
def Has (P : Program) (w : World) (K : PySem.W.Frag) (mg : Str → Option Value) (base : Heap) (k : Nat) (d : He.DefD) (ps : List Str) (fm : FM) : Prop :=
  ∃ fd, FunD K d.name d.qual d.params d.body d.scope (d.dvs K) (d.kws K) (He.fAd K d.at_) fd ∧ FnOk P w K mg base (L2.CX P w) k (He.fAd K d.at_) fd ps (spM K (He.ga K) ps.length fm)
section
variable {P : Program} {w : World} {K : PySem.W.Frag} {mg : Str → Option Value} {base : Heap} {d : He.DefD} {ps N : List Str} {fm : FM} {b : SM}
theorem has_def {k : Nat} (c : ∃ fd, FunD K d.name d.qual d.params d.body d.scope (d.dvs K) (d.kws K) (He.fAd K d.at_) fd) (sc : FnScope N ps d.scope)
    (hb : ∀ (f : Addr) (cdv : Value) (A : Around) (outer : List Env) (s : Shared) (H : Hp) (E : XK), Room k (A.deeper (PyProof.Rows.envOfC d.qual d.scope s.heap.objs.size f cdv)) →
      PSs (cxOf (L2.CX P w) P w K mg base N d.qual d.scope f cdv A outer s H E) d.body (tS K (He.ga K) JT (fun c d _ H => E c d H) b)) :
    Has P w K mg base (k + 1) d ps (runF N.length b) := by
  obtain ⟨fd, F⟩ := c
  exact ⟨fd, F, fn_def F sc fun cdv A outer s H E hr => hb _ cdv A outer s H E hr⟩
end
/-! ### the law's def: nothing is let out -/
section
variable {P : Program} {w : World} {K : PySem.W.Frag} {mg : Str → Option Value} {base : Heap} {ad : Str → Addr}
/-- the promise: the law gives True -/
def spLaw (K : PySem.W.Frag) (m : FM) : Sp := fun vs H Q _ => ∃ (a : Addr) (ns : List Int), vs = [.ref a] ∧ SqL K H a (ns.map V.int) ∧ ns.length ≤ 63 ∧ (∃ O, m [.rol (ns.map D.int)] [] = .ok (.bl true) O) ∧ ∀ H', Q (.bl true) H'
theorem ints_rp {S : Hp} {r : Rg} : ∀ ns : List Int, RpAll K S r (ns.map D.int) (ns.map V.int)
  | [] => rfl
  | n :: ns => ⟨_, _, rfl, rfl, ints_rp ns⟩
theorem law_def {x qual : Str} {params : Arguments} {bd : List Stmt} {scope : Scope} {f : Addr} {fd : FuncData} {N : List Str} {k : Nat} {b : SM} {y : Str} (F : FunD K x qual params bd scope [] [] f fd) (sc : FnScope N [y] scope)
    (hb : ∀ (cdv : Value) (A : Around) (outer : List Env) (s : Shared) (H : Hp) (E : XK), Room k (A.deeper (PyProof.Rows.envOfC qual scope s.heap.objs.size f cdv)) →
      PSs (cxOf CX0 P w K mg base N qual scope f cdv A outer s H E) bd (tS K ad JT WF b)) :
    FnOk P w K mg base CX0 (k + 1) f fd [y] (spLaw K (runF N.length b)) := by
  have hpl : 1 ≤ N.length := by have := congrArg List.length sc.pre; rw [List.length_take] at this; simp at this; omega
  refine F.ok sc (fun vs H Q E h => ?_) (fun cdv A outer s H vs Q E hr h => ?_)
  · obtain ⟨a, ns, rfl, _⟩ := h
    rfl
  · refine ⟨_, hb cdv A outer s H E hr, ?_⟩
    obtain ⟨a, ns, rfl, hS, hl, ⟨O1, hm⟩, hQ⟩ := h
    have p1 : RpAll K H ⟨[], fun _ => none⟩ [.rol (ns.map D.int)] [.ref a] := ⟨_, _, rfl, ⟨a, _, rfl, hS, ints_rp ns⟩, rfl⟩
    have rs : Rs K ad H ⟨[], fun _ => none⟩ [] H := ⟨Same.refl H, rfl, List.nodup_nil, fun n a o h => (by simp at h), fun b u e => (by cases e), fun a o e => (by cases e)⟩
    refine ⟨H, ⟨[], fun _ => none⟩, _, [], trivial, start_rl (ds := [.rol (ns.map D.int)]) hpl p1, rs, ?_⟩
    unfold runF at hm
    generalize b (([D.rol (ns.map D.int)] : List D).map some ++ List.replicate (N.length - ([D.rol (ns.map D.int)] : List D).length) none) [] = z at hm ⊢
    cases z with
    | next L O => cases hm
    | ret d O =>
      cases hm
      exact fun S' r' H' v e _ p => by
        rw [show v = .bl true from p]
        exact hQ H'
    | brk L O => cases hm
    | cnt L O => cases hm
    | exc x L O => cases hm
    | bad => cases hm
end
/-- one address, one function object -/
theorem fd_eq {K : PySem.W.Frag} {x x' qual qual' : Str} {params params' : Arguments} {bd bd' : List Stmt} {scope scope' : Scope} {dvs dvs' : List V} {kws kws' : List (Str × V)} {f : Addr} {fd fd' : FuncData} (F : FunD K x qual params bd scope dvs kws f fd) (G : FunD K x' qual' params' bd' scope' dvs' kws' f fd') : fd = fd' := by
  obtain ⟨_, _, _, _, _, _, _, _, _, _, rfl, l1, _⟩ := F.ex
  obtain ⟨_, _, _, _, _, _, _, _, _, _, rfl, l2, _⟩ := G.ex
  have e := l1.symm.trans l2
  injection e with e
  injection e with _ _ e _
  injection e
/-! ### small helps -/
theorem tk_of {P : Program} {w : World} {K : PySem.W.Frag} {mg : Str → Option Value} {base : Heap} {N : List Str} {qual : Str} {scope : Scope} {f : Addr} {cdv : Value} {A : Around} {outer : List Env} {s : Shared} {H : Hp} {E : XK} : Takes (cxOf (L2.CX P w) P w K mg base N qual scope f cdv A outer s H E) (fun c d _ H => E c d H) := takes_of rfl rfl rfl rfl
theorem own_of {CX : CXT} {P : Program} {w : World} {K : PySem.W.Frag} {mg : Str → Option Value} {base : Heap} {N : List Str} {qual : Str} {scope : Scope} {f : Addr} {cdv : Value} {A : Around} {outer : List Env} {s : Shared} {H : Hp} {E : XK} : PassesOwn (model P w) (cxOf CX P w K mg base N qual scope f cdv A outer s H E).A (cxOf CX P w K mg base N qual scope f cdv A outer s H E).env (cxOf CX P w K mg base N qual scope f cdv A outer s H E).xe := passes_of rfl
def inC (st : Stmt) (i : Nat) : Stmt := match st with
  | .ClassDef _ _ _ b _ _ _ _ _ _ _ => b.getD i (.Pass ⟨0, 0, 0, 0⟩)
  | _ => .Pass ⟨0, 0, 0, 0⟩
end DK
end
section
set_option Elab.async false
set_option linter.all false
set_option autoImplicit false
set_option maxRecDepth 100000
set_option maxHeartbeats 4000000
/-! DKSup: own errors whose first word is super().__init__(..): the def as a promise. -/
namespace DK
open PySem L2
/-- the part of the heap that super() looks at -/
structure SupK (K : PySem.W.Frag) (main : Str) (f C cc cda : Addr) : Prop where
  cell : ∃ cl cld csl, K.lookup cc = some ⟨cl, cld, .cell (some (.ref C)), csl⟩
  code : ∃ ccl cdd vs ccs tf, K.lookup cda = some ⟨ccl, cdd, .fields vs, ccs⟩ ∧ vs[2]? = some (.str main tf)
  sub : PySem.W.mroIn K C (.ref C) = some true
  sup : PySem.W.ks_superIn K C C "__init__" = some (some (.builtin "ValueError.__init__"))
  ve : PySem.W.subIn K (.ref C) (.type "ValueError") = some true
  opq : PySem.W.nsIn K cStatics "thirdparty.any" = some none
  fr : PySem.W.nsIn K mainGlobals "super" = some none
/-- a method's scope: nothing captured but the class -/
structure SupScope (N ps : List Str) (sc : Scope) : Prop where
  kind : sc.kind = .function
  co : sc.isCoroutine = false
  gen : sc.isGenerator = false
  nd : N.Nodup
  pre : N.take ps.length = ps
  par : ∀ x ∈ ps, sc.names.lookup x = some .local
  nocell : ∀ y ∈ sc.names, y.2 ≠ .cell
  free : ∀ y, sc.names.lookup y = some .free → y = "__class__"
  sup : sc.names.lookup ("super" : Str) = some .globalImplicit
  cls : sc.names.lookup ("__class__" : Str) = some .free
section
variable {P : Program} {w : World} {K : PySem.W.Frag} {mg : Str → Option Value} {base : Heap}
def cxI (P : Program) (w : World) (K : PySem.W.Frag) (mg : Str → Option Value) (base : Heap) (N : List Str) (qual : Str) (scope : Scope) (f : Addr) (cd : Value) (cc : Addr) (A : Around) (outer : List Env) (s : Shared) (H : Hp) (E : XK) : Cx where
  prog := P
  w := w
  K := K
  mg := mg
  base := base
  A := A.deeper (PySem.W.ksEnv qual scope s.heap.objs.size f cd cc)
  N := N
  s_0 := s
  H_0 := H
  env := PySem.W.ksEnv qual scope s.heap.objs.size f cd cc
  outer := outer
  stack := PySem.W.ksEnv qual scope s.heap.objs.size f cd cc :: outer
  ex := []
  calm := true
  fn := fun x => !(x == "__class__")
  pn := []
  xe := fun e s' => wpAny (model P w) (A.deeper (PySem.W.ksEnv qual scope s.heap.objs.size f cd cc)) (leaving (PySem.W.ksEnv qual scope s.heap.objs.size f cd cc) e) (fun _ s'' => L2.CX P w outer H s E e s'') (fun e' s'' => L2.CX P w outer H s E e' s'') s'
theorem zip_fst {α β : Type} : ∀ (l : List α) (m : List β), ((l.zip m).map (·.1)).Sublist l
  | [], _ => by simp
  | a :: l, [] => by simp
  | a :: l, b :: m => by
    rw [List.zip_cons_cons, List.map_cons]
    exact (zip_fst l m).cons₂ a
theorem lookup_rev {ps : List Str} {us : List Value} (nd : ps.Nodup) : ∀ {i : Nat} {x : Str} {u : Value}, ps[i]? = some x → us[i]? = some u → (ps.zip us).reverse.lookup x = some u := by
  have key : ∀ (l : List (Str × Value)) (x : Str) (u : Value), (x, u) ∈ l → (l.map (·.1)).Nodup → l.lookup x = some u := fun l => by
    induction l with
    | nil => intro x u h; cases h
    | cons p l ih =>
      intro x u h hn
      rw [List.map_cons, List.nodup_cons] at hn
      obtain ⟨y, v⟩ := p
      rw [List.lookup_cons]
      rcases List.mem_cons.mp h with e | h2
      · cases e
        rw [beq_self_eq_true]
      · have : (x == y) = false := by
          refine beq_eq_false_iff_ne.mpr fun z => hn.1 ?_
          subst z
          exact List.mem_map.mpr ⟨(x, u), h2, rfl⟩
        rw [this]
        exact ih x u h2 hn.2
  intro i x u h1 h2
  refine key _ x u (List.mem_reverse.mpr (List.mem_of_getElem? (i := i) ?_)) ?_
  · rw [List.getElem?_zip_eq_some]
    exact ⟨h1, h2⟩
  · rw [List.map_reverse]
    unfold List.Nodup
    rw [List.pairwise_reverse]
    have : ((ps.zip us).map (·.1)).Sublist ps := by
      exact zip_fst ps us
    exact (List.Pairwise.sublist this nd).imp Ne.symm
theorem inv_startI {main : Str} {N ps : List Str} {qual : Str} {scope : Scope} {f C cc cda : Addr} {cd : Value} {A : Around} {outer : List Env} {s : Shared} {H : Hp} {E : XK} {us : List Value} {vs : List V} {h₀ : Heap} {tk : Nat}
    (S : SupScope N ps scope) (Z : SupK K main f C cc cda) (hd : A.handled = none) (e0 : Env0 P w K mg base A outer s H) (hl : vs.length = ps.length) (r : Vals vs us)
    (hns : h₀.Ns s.heap.objs.size (fun x => (ps.zip us).reverse.lookup x)) (hk : ∀ b o, s.heap.get? b = some o → h₀.get? b = some o) :
    Inv (cxI P w K mg base N qual scope f cd cc A outer s H E) [] (L2.start N vs) H { s with heap := h₀, toks := tk } := by
  have hpl : ps.length ≤ N.length := by have := congrArg List.length S.pre; rw [List.length_take] at this; omega
  have noA : ∀ b : Addr, b ∉ (cxI P w K mg base N qual scope f cd cc A outer s H E).ex := fun b z => absurd (show b ∈ ([] : List Addr) from z) (by simp)
  have one : ∀ {x : Str} {c : Addr}, ([(("__class__" : Str), cc)] : List (Str × Addr)).lookup x = some c → x = "__class__" ∧ c = cc := fun {x c} h => by
    rw [List.lookup_cons] at h
    cases hb : x == ("__class__" : Str) with
    | true =>
      rw [hb] at h
      exact ⟨beq_iff_eq.mp hb, (Option.some.inj h).symm⟩
    | false =>
      rw [hb] at h
      cases h
  obtain ⟨cl, cld, csl, hcell⟩ := Z.cell
  have hcb := e0.mod.kin _ _ hcell
  refine ⟨⟨e0.mod, S.kind, rfl, rfl, Nat.le_refl _, fun y z c h1 h2 => (one h1).1.trans (one h2).1.symm, fun y hy => ?_, fun y c hf h => ?_, fun _ => hd, Around.frames_deeper e0.frames, .inr ⟨rfl, rfl⟩, fun b z => absurd z (noA b), e0.bs, e0.bsz, fun b _ _ => noA b, fun b z => absurd z (noA b), e0.funs, e0.frf⟩,
    rfl, e0.bare, Un.kept hk, ⟨_, hns, fun i y v h1 h2 h3 => ?_⟩, fun y c h => ?_, e0.hok.fresh (Nat.le_refl _), fun y c h => ?_, fun p hp => absurd (show p ∈ ([] : List (Addr × Obj)) from hp) (by simp), e0.hok.kept hk, ?_⟩
  · rcases (show scope.names.lookup y = some .cell ∨ scope.names.lookup y = some .free from hy) with hy | hy
    · exact absurd rfl (S.nocell _ (PySem.mem_of_lookup hy))
    · rw [S.free y hy]
      exact ⟨cc, rfl⟩
  · rw [(one h).1] at hf
    cases hf
  · have hi : i < vs.length := by
      unfold L2.start at h2
      by_cases hi : i < vs.length
      · exact hi
      · rw [List.getElem?_append_right (by simpa using hi), List.getElem?_replicate] at h2
        split at h2 <;> cases h2
    have ha : vs[i]? = some v := by
      unfold L2.start at h2
      rw [List.getElem?_append_left (by simpa using hi), List.getElem?_map] at h2
      cases e : vs[i]? with
      | none => rw [e] at h2; cases h2
      | some a => rw [e] at h2; cases h2; rfl
    obtain ⟨u, hu, rv⟩ := r.get ha
    have hp : ps[i]? = some y := by
      rw [← S.pre, List.getElem?_take_of_lt (by omega)]; exact h1
    have ndP : ps.Nodup := by rw [← S.pre]; exact S.nd.sublist (List.take_sublist _ _)
    exact ⟨u, rv, .inl ⟨S.par y (List.mem_of_getElem? hp), lookup_rev ndP hp hu⟩⟩
  · obtain ⟨rfl, rfl⟩ := one h
    exact ⟨_, _, hk _ _ (e0.bs _ _ hcb).1, rfl⟩
  · obtain ⟨rfl, rfl⟩ := one h
    exact (e0.bs _ _ hcb).2
  · unfold L2.start
    show _ = N.length
    rw [List.length_append, List.length_map, List.length_replicate]
    omega
end
/-! ### the wrapper called -/
section
variable {X : Cx} {pins : List (Addr × Obj)} {σ : L2.St} {H : Hp} {s : Shared} {a C u : Addr}
theorem Inv.addpin {p : Addr × Obj} (I : Inv X pins σ H s) (h : s.heap.get? p.1 = some p.2) (n : H p.1 = none) (nl : p.1 ≠ X.env.locals) (nf : p.1 ∉ X.fs) (nc : ∀ v, p.2.data ≠ .cell v) : Inv X (p :: pins) σ H s :=
  I.pins_of fun q hq => by
    rcases List.mem_cons.mp hq with rfl | hq
    · exact ⟨h, n, nl, nf, nc⟩
    · exact I.pin q (List.mem_append_right _ hq)
theorem Inv.unpin1 {p : Addr × Obj} (I : Inv X (p :: pins) σ H s) : Inv X pins σ H s := I.pins_of fun q hq => I.pin q (List.mem_append_right _ (List.mem_cons_of_mem _ hq))
theorem wrap_call {us : List Value} {Q : Value → Shared → Prop} {E : Value → Shared → Prop} {A : Around} (T : OexC X.K C) (I : Inv X pins σ H s) (e : H a = some (exo a C none)) (hu : s.heap.get? u = some (PySem.W.kxs_mw "ValueError.__init__" a)) (hl : us.length ≤ sizeLine) (h : ∀ s', Inv X pins σ H s' → Q .none s') :
    wpAny (model X.prog X.w) A (call (.ref u) us) Q E s := by
  obtain ⟨nm, q, N, bs, bm, sn, sub, ab, col, dd, k0, k1, k2, k3, k5, hC, hbm⟩ := T.cls
  obtain ⟨t1, ho⟩ := exo_at I.hok e
  have hCh := I.kIn _ _ hC
  have fin : ∀ h', (∀ b o, b ≠ a → s.heap.get? b = some o → h'.get? b = some o) → (∃ t2 : Addr, h'.get? a = some ({ cls := .ref C, dict := none, data := .fields #[.ref t2, .none, .none, .none, .bool false, .none] } : Obj)) → Q .none { s with heap := h' } := fun h' k hx => by
    obtain ⟨t2, hx⟩ := hx
    have J := I.write (t' := s.toks) (x := a) (e := a) (o := exo a C none) (by rw [e]; exact True.intro) (.inl rfl) k ⟨_, hx⟩ (exo_ok hx)
    have eu : upd H a (exo a C none) = H := funext fun b => by
      by_cases hb : b = a
      · rw [hb, upd_same, e]
      · rw [upd_ne hb]
    rw [eu] at J
    exact h _ J
  obtain ⟨hp, g, d, t, os⟩ := s
  have FB := PySem.F.excBase_ValueError
  refine wpAny_call (codeAny_of_tree ?_)
  show wpAny _ A.in1 (callAny (.ref u) ⟨us, []⟩) _ _ _
  unfold callAny
  refine wpAny_bind (wpAny_load hu ?_)
  refine PySem.W.KFB.if_so (by rfl) ?_
  refine wpAny_bind (PySem.W.check_bound_init FB.toExcCallFacts hCh ho rfl ?_)
  refine wpAny_bind (wpAny_pure (wpAny_pure ?_))
  refine ⟨plainId_quiet FB.init.plain _, codeAny_builtin FB.initEntry ?_⟩
  exact PySem.W.exc_init_tree ho hl fun h' k hx _ => fin h' k ⟨_, hx⟩
/-- the first word: super().__init__(e) -/
theorem sup_stmt {main : Str} {N ps : List Str} {qual self : Str} {scope : Scope} {L f cc cda : Addr} {fd : FuncData} {ar : Arg} {oc : Value} {od : Option Addr} {osl : Array (Option Value)} {body : List Stmt} {e : Expr} {te : TE} {p0 p1 apos pos pos2 : Pos} {Q : Hp → Prop}
    (hX : X.env = PySem.W.ksEnv qual scope L f (.ref cda) cc) (S : SupScope N ps scope) (Z : SupK X.K main f C cc cda) (T : OexC X.K C) (hN : X.N = N) (h0 : N[0]? = some self) (hself : scope.names.lookup self = some .local)
    (lk : X.K.lookup f = some ⟨oc, od, .func fd, osl⟩) (hp : (fd.params.posonlyargs ++ fd.params.args).head? = some ar) (har : ar.arg = self) (hmain : ((X.prog.main.file : Str) == main) = true) (htop : (X.prog.main.scope.names.lookup ("super" : Str)).isSome = false) (hm : X.mg "super" = none)
    (I : Inv X pins σ H s) (hs : σ[0]? = some (some (.ref a))) (ea : H a = some (exo a C none)) (he : PE X e te) (hq : te σ H fun v H2 => H2 a = some (exo a C none) ∧ Q H2)
    {pl : Sem Bool} (hev : eval (.Call (.Attribute (.Call (.Name "super" p0) [] [] p1) "__init__" apos) [e] [] pos) X.env = (do
      let ov ← attributeBase (.Call (.Name "super" p0) [] [] p1) "__init__" X.env (eval (.Call (.Name "super" p0) [] [] p1) X.env)
      standAt apos.atName
      let (f, first) ← holding [ov] (getMethod ov "__init__" pl)
      callWith pos f first (backTo pos (starEach [e] X.env)) []) := by rfl)
    (hst : starEach [e] X.env = [(false, eval e X.env)] := by rfl) (hsw : swapsWith (.Call (.Attribute (.Call (.Name "super" p0) [] [] p1) "__init__" apos) [e] [] pos) none pos2.line X.env = pure false := by rfl) (hint : interactive X.env = false := by rfl) :
    wpAt (model X.prog X.w) X.A (.func body X.env) (exec (.Expr (.Call (.Attribute (.Call (.Name "super" p0) [] [] p1) "__init__" apos) [e] [] pos) pos2) X.env) (fun fl s' => fl = .next ∧ ∃ H2, Inv X pins σ H2 s' ∧ Q H2) X.xe s := by
  have KX := I.kIn
  obtain ⟨cl, cld, csl, hcell⟩ := Z.cell
  obtain ⟨ccl, cdd, vsc, ccs, tf, hcode, hvs⟩ := Z.code
  obtain ⟨t1, ho⟩ := exo_at I.hok ea
  have IA : PySem.W.InstAt s.heap a _ C none := ⟨ho, rfl, rfl, trivial⟩
  obtain ⟨m, hns, hloc⟩ := I.loc
  obtain ⟨u0, ru0, lu0⟩ := hloc 0 self (.ref a) (by rw [hN]; exact h0) hs (.inl (by rw [hX]; exact hself))
  obtain rfl : u0 = Value.ref a := ru0
  have hmself : m self = some (.ref a) := by
    rcases lu0 with ⟨_, h⟩ | ⟨h, _⟩
    · exact h
    · rw [hX] at h
      rcases (show scope.names.lookup self = some .cell ∨ scope.names.lookup self = some .free from h) with h | h
      · rw [hself] at h; cases h
      · rw [hself] at h; cases h
  have hsup := Z.sup
  unfold PySem.W.ks_superIn at hsup
  cases hcd : PySem.W.clsIn X.K C with
  | none => rw [hcd] at hsup; cases hsup
  | some cd =>
    rw [hcd] at hsup
    obtain ⟨oD, hD1, hD2⟩ : ∃ oD, s.heap.get? C = some oD ∧ oD.data = .cls cd := by
      unfold PySem.W.clsIn at hcd
      split at hcd
      · rename_i c d cd' sl hlk
        cases hcd
        exact ⟨_, KX _ _ hlk, rfl⟩
      · cases hcd
    have hfs : X.env.func = some f := by rw [hX]
    have hkind : X.env.scope.kind = .function := by rw [hX]; exact S.kind
    refine PySem.ks_wpAt_Expr_any ?_ hint hsw
    refine PySem.ks_wpAt_MethodCall (pl := pl) ?_ hev
    refine PySem.ks_wpAt_super_base (f := f) (cc := cda) (by rw [hX]; exact S.sup) (by rw [hX]; exact S.cls) rfl hfs (KX _ _ lk) rfl hp (by rw [hX]) (KX _ _ hcode) rfl hvs hmain htop ?_
    obtain ⟨mb, hb1, hb2⟩ := I.mod.blt
    refine PySem.W.ks_loadName_global hkind (by rw [hX]; exact S.sup) (Calls.loadGlobal_builtin (by rw [I.ok.glob]; exact I.mod.glob.keeps I.bk) hm (by rw [I.ok.blt]; exact hb1.keeps I.bk) ((hb2 _ (by decide)).trans (show bootBuiltins ("super" : Str) = some (.type "super") by decide +kernel)) ⟨rfl, ?_⟩)
    refine wpAny_loadName_free hkind (by rw [hX]; exact S.cls) (by rw [hX]; rfl) ⟨_, KX _ _ hcell, rfl⟩ ?_
    rw [har]
    refine wpAny_loadName_local hkind (by rw [hX]; exact hself) hns hmself ?_
    refine PySem.ks_wpAny_isType_cls hD1 hD2 ⟨rfl, ?_⟩
    obtain ⟨hp1, g, d, t, os⟩ := s
    refine PySem.ks_wpAny_call_super hD1 hD2 IA.at_ IA.cls (fun c hc => by cases hc) (PySem.W.looks_mroIn KX Z.sub) (fun h' eso k => ?_)
    have I1 : Inv X pins σ H ⟨h', g, d, t, os⟩ := I.kept (t' := t) k
    have IA1 : PySem.W.InstAt h' a _ C none := ⟨k _ _ ho, rfl, rfl, trivial⟩
    refine PySem.W.kxs_getMethod PySem.W.kxs_ValueError eso (PySem.W.looks_opaque I1.kIn Z.opq) (l₀ := cd.mro) (fun A Q E s k q => wpAny_bind ((PySem.W.looks_clsIn I1.kIn hcd) A _ E s k (wpAny_pure q))) rfl I1.kIn hsup (IA1.type.andThen (PySem.W.looks_subIn I1.kIn Z.ve)) (PySem.W.ks_ne I1.kIn IA1 hcd) rfl ?_
    have hmw : (h'.push (PySem.W.kxs_mw "ValueError.__init__" a)).get? h'.objs.size = some (PySem.W.kxs_mw "ValueError.__init__" a) := Heap.get?_push_at rfl rfl
    have I2 : Inv X pins σ H ⟨h'.push (PySem.W.kxs_mw "ValueError.__init__" a), g, d, t + 1, os⟩ := I1.kept (t' := t + 1) fun b o eb => Heap.get?_push_of_some _ eb
    have hnl : h'.objs.size ≠ X.env.locals := fun z => by
      obtain ⟨m1, hn1, _⟩ := I1.loc
      obtain ⟨oL, es, ep, hL, _⟩ := hn1
      exact absurd (Heap.lt_size hL) (by rw [← z]; exact Nat.lt_irrefl _)
    have I3 := Inv.addpin (p := (h'.objs.size, PySem.W.kxs_mw "ValueError.__init__" a)) I2 hmw (I1.hok.fresh (Nat.le_refl _)) hnl (I1.nofs (Nat.le_refl _)) (fun v z => by cases z)
    have ha := (pa_cons he pa_nil (hs := hst)).run pos _ _ σ H (fun vs H2 => match vs with | [_] => H2 a = some (exo a C none) ∧ Q H2 | _ => False) I3 hq
    rw [hst] at ha ⊢
    refine PySem.W.kxs_callWith (i := "ValueError.__init__") (x := a) (by rfl) ?_
    refine Calls.evalArgs_plain (thn ha fun us s1 ⟨vs, H2, J, rr, q⟩ => ?_)
    cases vs with
    | nil => exact q.elim
    | cons v vs =>
      cases vs with
      | cons _ _ => exact q.elim
      | nil =>
        obtain ⟨q1, q2⟩ := q
        have hl : us.length = 1 := (Paired.length rr).symm
        have pu := (J.pin (h'.objs.size, PySem.W.kxs_mw "ValueError.__init__" a) (List.mem_append_right _ List.mem_cons_self)).1
        refine ⟨pu, ?_⟩
        exact wrap_call (us := us) T (Inv.unpin1 J) q1 pu (by rw [hl]; decide) fun s' J2 => ⟨rfl, H2, J2, q2⟩
end
/-! ### the def -/
section
variable {P : Program} {w : World} {K : PySem.W.Frag} {mg : Str → Option Value} {base : Heap}
def spI (N ps : List Str) (C : Addr) (te : TE) (tr : TS) : Sp := fun vs H Q E => vs.length = ps.length ∧ ∃ a, vs[0]? = some (.ref a) ∧ H a = some (exo a C none) ∧ te (L2.start N vs) H fun _ H2 => H2 a = some (exo a C none) ∧ tr { nx := fun _ H' => Q .non H', rt := Q } (L2.start N vs) H2
theorem fnI_of {main : Str} {N ps : List Str} {name qual self : Str} {params : Arguments} {scope : Scope} {f C cc cda : Addr} {ar : Arg} {kV doc pm ct oc : Value} {an od : Option Addr} {osl : Array (Option Value)} {e : Expr} {rest : List Stmt} {te : TE} {tr : TS} {p0 p1 apos pos pos2 : Pos} {k : Nat}
    (lk : K.lookup f = some ⟨oc, od, .func (PySem.W.ksFn name qual params (.Expr (.Call (.Attribute (.Call (.Name "super" p0) [] [] p1) "__init__" apos) [e] [] pos) pos2 :: rest) scope .none kV doc pm an (.ref cda) ct cc), osl⟩) (hcd : PySem.W.codeIn K (.ref cda) qual = true)
    (S : SupScope N ps scope) (Z : SupK K main f C cc cda) (T : OexC K C) (h0 : N[0]? = some self) (hps : 0 < ps.length) (hp : (params.posonlyargs ++ params.args).head? = some ar) (har : ar.arg = self) (hself : scope.names.lookup self = some .local)
    (hmain : ((P.main.file : Str) == main) = true) (htop : (P.main.scope.names.lookup ("super" : Str)).isSome = false) (hm : mg "super" = none)
    (he : ∀ (A : Around) (outer : List Env) (s : Shared) (H : Hp) (E : XK), Room k (A.deeper (PySem.W.ksEnv qual scope s.heap.objs.size f (.ref cda) cc)) → PE (cxI P w K mg base N qual scope f (.ref cda) cc A outer s H E) e te)
    (hrest : ∀ (A : Around) (outer : List Env) (s : Shared) (H : Hp) (E : XK), Room k (A.deeper (PySem.W.ksEnv qual scope s.heap.objs.size f (.ref cda) cc)) → PSs (cxI P w K mg base N qual scope f (.ref cda) cc A outer s H E) rest tr)
    {pl : Sem Bool} (hev : ∀ L : Addr, eval (.Call (.Attribute (.Call (.Name "super" p0) [] [] p1) "__init__" apos) [e] [] pos) (PySem.W.ksEnv qual scope L f (.ref cda) cc) = (do
      let ov ← attributeBase (.Call (.Name "super" p0) [] [] p1) "__init__" (PySem.W.ksEnv qual scope L f (.ref cda) cc) (eval (.Call (.Name "super" p0) [] [] p1) (PySem.W.ksEnv qual scope L f (.ref cda) cc))
      standAt apos.atName
      let (f1, first) ← holding [ov] (getMethod ov "__init__" pl)
      callWith pos f1 first (backTo pos (starEach [e] (PySem.W.ksEnv qual scope L f (.ref cda) cc))) []))
    (hst : ∀ L : Addr, starEach [e] (PySem.W.ksEnv qual scope L f (.ref cda) cc) = [(false, eval e (PySem.W.ksEnv qual scope L f (.ref cda) cc))])
    (hsw : ∀ L : Addr, swapsWith (.Call (.Attribute (.Call (.Name "super" p0) [] [] p1) "__init__" apos) [e] [] pos) none pos2.line (PySem.W.ksEnv qual scope L f (.ref cda) cc) = pure false)
    (hint : ∀ L : Addr, interactive (PySem.W.ksEnv qual scope L f (.ref cda) cc) = false) :
    FnOk P w K mg base (L2.CX P w) (k + 1) f (PySem.W.ksFn name qual params (.Expr (.Call (.Attribute (.Call (.Name "super" p0) [] [] p1) "__init__" apos) [e] [] pos) pos2 :: rest) scope .none kV doc pm an (.ref cda) ct cc) ps (spI N ps C te tr) := by
  refine ⟨fun vs H Q E h => h.1, fun A outer s H args us vs Q E hr e0 hb r hsp => ?_⟩
  obtain ⟨hl, a, ha0, ea, hq⟩ := hsp
  have KX : K.In s.heap := e0.mod.kin.keeps fun b o e => (e0.bs b o e).1
  have lim : s.heap.NoLimit := e0.mod.nolimit.keeps fun b o e => (e0.bs b o e).1
  have hrd := hr.deeper (PySem.W.ksEnv qual scope s.heap.objs.size f (.ref cda) cc)
  refine PySem.ks_codeAny_call_defAt hr.depth (KX _ _ lk) rfl lim (PySem.W.codeRec_of KX hcd) rfl hb S.nocell (fun y hy => S.par y.1 (List.of_mem_zip hy).1) (fun h₀ hns hk => ?_) S.co S.gen S.kind
  have I := inv_startI (P := P) (w := w) (E := E) (qual := qual) (f := f) (cd := .ref cda) (tk := s.toks + (ps.zip us).length) S Z hr.hd e0 hl r hns hk
  have hs0 : (L2.start N vs)[0]? = some (some (.ref a)) := by
    unfold L2.start
    rw [List.getElem?_append_left (by rw [List.length_map, hl]; exact hps), List.getElem?_map, ha0]
    rfl
  have w1 := sup_stmt (X := cxI P w K mg base N qual scope f (.ref cda) cc A outer s H E) (p0 := p0) (p1 := p1) (apos := apos) (pos := pos) (pos2 := pos2) (body := .Expr (.Call (.Attribute (.Call (.Name "super" p0) [] [] p1) "__init__" apos) [e] [] pos) pos2 :: rest) rfl S Z T rfl h0 hself lk hp har hmain htop hm I hs0 ea (he A outer s H E hrd) hq (hev _) (hst _) (hsw _) (hint _)
  refine PySem.ks_wpAt_execs_cons ?_
  refine PySem.ks_wpAt_mono w1 (fun fl s1 h1 => ?_) fun _ _ z => z
  obtain ⟨rfl, H2, I2, q2⟩ := h1
  refine wpAt_of_wpAny ?_
  refine wpAny_mono ((hrest A outer s H E hrd).run [] s1 (L2.start N vs) H2 _ I2 q2) (fun fl s' hs => ?_) fun e s' hs => hs
  have fin : ∀ {σ' : L2.St} {H' : Hp} {v : V} {u : Value}, Inv (cxI P w K mg base N qual scope f (.ref cda) cc A outer s H E) [] σ' H' s' → RelV v u → Q v H' → CE outer P w H s Q u s' :=
    fun {σ' H' v u} J rv q => ⟨v, H', J.os, J.bare, J.base, J.hok, rv, q⟩
  cases fl with
  | ret u =>
    obtain ⟨v, σ', H', J, rv, q⟩ := hs
    exact fin J rv q
  | next =>
    obtain ⟨σ', H', J, q⟩ := hs
    exact fin (v := V.non) (u := Value.none) J rfl q
  | brk =>
    obtain ⟨_, _, _, q⟩ := hs
    exact q.elim
  | cont =>
    obtain ⟨_, _, _, q⟩ := hs
    exact q.elim
end
end DK
end
section
set_option Elab.async false
set_option linter.all false
set_option autoImplicit false
set_option maxRecDepth 100000
set_option maxHeartbeats 4000000
/-! DKSupR: an own error with fields is raised. -/
namespace DK
open PySem L2
section
variable {K : PySem.W.Frag} {ad : Str → Addr} {S S' : Hp} {r r' : Rg} {O O' : Store} {H H' : Hp}
/-- all that nobody knows, held -/
noncomputable def allFr (S : Hp) (r : Rg) (H : Hp) : Hp := fun b => open Classical in if S b = none ∧ b ∉ r.l then H b else none
theorem Rs.holdAll (h : Rs K ad S r O H) : Rs K ad S (r.at (allFr S r H)) O H where
  sub := h.sub
  len := h.len
  nd := h.nd
  ob := fun n a o e1 e2 => (h.ob n a o e1 e2).at_
  fr := fun b u e => by
    have e : (open Classical in if S b = none ∧ b ∉ r.l then H b else none) = some u := e
    split at e
    · exact e
    · cases e
  off := fun b u e => by
    have e : (open Classical in if S b = none ∧ b ∉ r.l then H b else none) = some u := e
    split at e
    · rename_i hc; exact hc
    · cases e
/-- what stood then stands now -/
theorem Rs.dom (h0 : Rs K ad S r O H) (es : Same S S') (er : r.l <+: r'.l) (ef : ∀ b o, allFr S r H b = some o → r'.fr b = some o) (h : Rs K ad S' r' O' H') {b : Addr} (hb : H' b = none) : H b = none := by
  cases hH : H b with
  | none => rfl
  | some o =>
    exfalso
    by_cases hS : S b = none
    · by_cases hl : b ∈ r.l
      · obtain ⟨n, hn, en⟩ := List.getElem_of_mem hl
        have e1 : r'.l[n]? = some b := pre_get er (by show r.l[n]? = some b; rw [List.getElem?_eq_getElem hn, en])
        have hO : n < O'.length := by rw [← h.len]; exact (List.getElem?_eq_some_iff.mp e1).1
        obtain ⟨u, q⟩ := (h.ob n b O'[n] e1 (List.getElem?_eq_getElem hO)).there
        rw [hb] at q
        cases q
      · have : r'.fr b = some o := by
          refine ef b o ?_
          show (open Classical in if S b = none ∧ b ∉ r.l then H b else none) = some o
          rw [if_pos ⟨hS, hl⟩]
          exact hH
        have q := h.fr b o this
        rw [hb] at q
        cases q
    · cases hS2 : S b with
      | none => exact hS hS2
      | some u =>
        have q := h.sub b u (es b u hS2)
        rw [hb] at q
        cases q
theorem Rs.notS (h : Rs K ad S r O H) {b : Addr} (hb : H b = none) : S b = none := h.sub.free hb
/-- behind the making of an error at a with its dict at d -/
theorem Rs.afterExc {a d : Addr} {u : HO} {H4 fr0 : Hp} (h : Rs K ad S r O H) (ha : r.fr a ≠ none) (hd : H d = none) (hda : d ≠ a) (h4 : ∀ b, b ≠ a → b ≠ d → H4 b = H b) (h5 : H4 d = some u) (hf : ∀ b o, fr0 b = some o → b ≠ a ∧ b ≠ d ∧ r.fr b = some o) : Rs K ad (upd S d u) (r.at fr0) O H4 := by
  obtain ⟨oa, hoa⟩ := Option.ne_none_iff_exists'.mp ha
  have offa := h.off a oa hoa
  have Sd := h.notS hd
  have ld : d ∉ r.l := h.notin hd
  refine ⟨fun b o e => ?_, h.len, h.nd, fun n b o e1 e2 => ?_, fun b o e => ?_, fun b o e => ?_⟩
  · by_cases hb : b = d
    · rw [hb, upd_same] at e
      rw [hb, h5]
      exact e
    · rw [upd_ne hb] at e
      have : b ≠ a := fun z => by rw [z, offa.1] at e; cases e
      rw [h4 b this hb]
      exact h.sub b o e
  · have hm : b ∈ r.l := List.mem_of_getElem? e1
    have n1 : b ≠ a := fun z => offa.2 (z ▸ hm)
    have n2 : b ≠ d := fun z => ld (z ▸ hm)
    exact ((h.ob n b o e1 e2).mono (Ext.new Sd) (fun x q => by rw [h4 b n1 n2]; exact q) (fun q => by rw [upd_ne n2]; exact q)).at_
  · obtain ⟨n1, n2, e'⟩ := hf b o e
    rw [h4 b n1 n2]
    exact h.fr b o e'
  · obtain ⟨n1, n2, e'⟩ := hf b o e
    rw [upd_ne n2]
    exact h.off b o e'
end
section
variable {K : PySem.W.Frag} {ad : Str → Addr} {S : Hp} {r : Rg} {O O' : Store} {H : Hp}
theorem rl_init {N : List Str} {a : Addr} {ds : List D} {ws : List V} (hl : ds.length + 1 ≤ N.length) (p : RpAll K S r ds ws) : Rl K S r (none :: (ds.map some ++ List.replicate (N.length - (ds.length + 1)) none)) (L2.start N (V.ref a :: ws)) where
  len := by
    unfold L2.start
    have := p.length
    simp [this]
  at_ := fun i d q => by
    cases i with
    | zero => cases q
    | succ i =>
      rw [List.getElem?_cons_succ] at q
      have hi : i < ds.length := by
        by_cases hi : i < ds.length
        · exact hi
        · rw [List.getElem?_append_right (by rw [List.length_map]; omega), List.getElem?_replicate] at q
          split at q <;> cases q
      rw [List.getElem?_append_left (by rw [List.length_map]; exact hi), List.getElem?_map] at q
      cases e : ds[i]? with
      | none => rw [e] at q; cases q
      | some d' =>
        rw [e] at q
        obtain rfl : d' = d := Option.some.inj (Option.some.inj q)
        obtain ⟨v, hv, pv⟩ := p.get e
        refine ⟨v, ?_, pv⟩
        unfold L2.start
        rw [List.map_cons, List.cons_append, List.getElem?_cons_succ, List.getElem?_append_left (by rw [List.length_map, p.length]; exact hi), List.getElem?_map, hv]
        rfl
def iniL (N : List Str) (ds : List D) : Loc := none :: (ds.map some ++ List.replicate (N.length - (ds.length + 1)) none)
/-- what the end of an __init__ needs -/
structure EndI (K : PySem.W.Frag) (ad : Str → Addr) (S : Hp) (r : Rg) (O' : Store) (fs : List (Str × D)) (Qx : Option Addr → Hp → Prop) : Prop where
  q : ∀ (S2 : Hp) (r2 : Rg) (H4 : Hp) (dd : Addr) (gs : List (Str × V)), Ext S r S2 r2 → Rs K ad S2 r2 O' H4 → S2 dd = some (.xd gs) → RpP K S2 r2 fs gs → Qx (some dd) H4
abbrev QI (a C : Addr) (H1 : Hp) (Qx : Option Addr → Hp → Prop) : VK := fun v H2 => v = .non ∧ ∃ (d : Addr) (fs : List (Str × V)), H2 a = some (exo a C (some d)) ∧ H2 d = some (exd d fs) ∧ H1 d = none ∧ Qx (some d) (upd (del H2 a) d (.xd fs))
/-- behind the message -/
theorem spI_mid {N ps : List Str} {a C : Addr} {ds : List D} {ws : List V} {ms : EM} {tr : TS} {Q : VK} {E : XK} {dm : D} (rs : Rs K ad S r O H) (p : RpAll K S r ds ws) (hl : ds.length + 1 = ps.length) (hN : ps.length ≤ N.length) (ha : H a = none)
    (hm : ms (iniL N ds) O = .ok dm O')
    (k : ∀ (S' : Hp) (r' : Rg) (H2 : Hp), Same S S' → r.l <+: r'.l → Rs K ad S' r' O' H2 → H2 a = some (exo a C none) → r'.fr a ≠ none → (∀ b o, r.fr b = some o → b ≠ a ∧ r'.fr b = some o) → (∀ b, H2 b = none → H b = none) → Rl K S' r' (iniL N ds) (L2.start N (V.ref a :: ws)) →
      tr { nx := fun _ H' => Q .non H', rt := Q } (L2.start N (V.ref a :: ws)) H2) :
    spI N ps C (tE K ad JT WF ms) tr (V.ref a :: ws) (upd H a (exo a C none)) Q E := by
  refine ⟨by rw [List.length_cons, p.length]; exact hl, a, rfl, upd_same, ?_⟩
  have hA := rs.holdAll
  have hh := Rs.hold (o := exo a C none) hA ha
  refine ⟨S, _, iniL N ds, O, trivial, ⟨(rl_init (by omega) p).len, fun i d q => ?_⟩, hh, ?_⟩
  · obtain ⟨v, q1, q2⟩ := (rl_init (a := a) (N := N) (by omega) p).at_ i d q
    exact ⟨v, q1, Rp.monoW (r := r) (r' := (r.at (allFr S r H)).at (upd (r.at (allFr S r H)).fr a (exo a C none))) (Same.refl S) List.prefix_rfl d v q2⟩
  · rw [hm]
    intro S' r' H2 v e2 s2 _
    have efr : ∀ b o, allFr S r H b = some o → r'.fr b = some o := fun b o eb => by
      rw [e2.f]
      show upd (allFr S r H) a (exo a C none) b = some o
      have : b ≠ a := fun z => by
        have q := hA.fr b o eb
        rw [z, ha] at q
        cases q
      rw [upd_ne this]
      exact eb
    have ea : r'.fr a = some (exo a C none) := by
      rw [e2.f]
      exact upd_same
    have h2a := s2.fr a _ ea
    refine ⟨h2a, k S' r' H2 e2.s e2.r s2 h2a (by rw [ea]; exact fun z => by cases z) (fun b o eb => ?_) (fun b hb => rs.dom e2.s e2.r efr s2 hb) ?_⟩
    · have hb := rs.fr b o eb
      have n1 : b ≠ a := fun z => by rw [z, ha] at hb; cases hb
      refine ⟨n1, efr b o ?_⟩
      show (open Classical in if S b = none ∧ b ∉ r.l then H b else none) = some o
      rw [if_pos (rs.off b o eb)]
      exact hb
    · refine ⟨(rl_init (by omega) p).len, fun i d q => ?_⟩
      obtain ⟨v, q1, q2⟩ := (rl_init (a := a) (N := N) (by omega) p).at_ i d q
      exact ⟨v, q1, Rp.monoW (r := r) (r' := r') e2.s e2.r d v q2⟩
/-- the end -/
theorem endI_of {S' : Hp} {r' : Rg} {H2 H3 : Hp} {a C dx : Addr} {fs : List (Str × D)} {gs : List (Str × V)} {Qx : Option Addr → Hp → Prop} (rs : Rs K ad S r O H) (ha : H a = none) (es : Same S S') (er : r.l <+: r'.l) (s2 : Rs K ad S' r' O' H2) (hfa : r'.fr a ≠ none) (hfr : ∀ b o, r.fr b = some o → b ≠ a ∧ r'.fr b = some o) (hdom : ∀ b, H2 b = none → H b = none)
    (hdx : H2 dx = none) (hne : dx ≠ a) (h3 : ∀ b, b ≠ a → b ≠ dx → H3 b = H2 b) (h3a : H3 a = some (exo a C (some dx))) (h3d : H3 dx = some (exd dx gs)) (pf : RpP K S' r' fs gs) (q : EndI K ad S r O' fs Qx) : QI a C H Qx .non H3 := by
  have hS : S' dx = none := s2.notS hdx
  refine ⟨rfl, dx, gs, h3a, h3d, hdom dx hdx, ?_⟩
  refine q.q (upd S' dx (.xd gs)) (r'.at r.fr) _ dx gs ⟨fun b u eb => ?_, rfl, er⟩ (Rs.afterExc s2 hfa hdx hne (fun b n1 n2 => by rw [upd_ne n2, del_ne n1, h3 b n1 n2]) upd_same (fun b o eb => ?_)) upd_same ?_
  · have := es b u eb
    rw [upd_ne (fun z => by rw [z, hS] at this; cases this)]
    exact this
  · obtain ⟨n1, e1⟩ := hfr b o eb
    refine ⟨n1, fun z => ?_, e1⟩
    have q1 := rs.fr b o eb
    rw [z, hdom dx hdx] at q1
    cases q1
  · exact RpP.monoW (r := r') (r' := r'.at r.fr) (Ext.new (r := r') hS).s List.prefix_rfl _ _ pf
theorem spI_one {N ps : List Str} {a C : Addr} {ds : List D} {ws : List V} {ms : EM} {E : XK} {dm d1 : D} {f1 : Str} {j1 : Nat} {Qx : Option Addr → Hp → Prop} (T : OexC K C) (hno : PySem.W.findIn K (.ref C) f1 = some none) (rs : Rs K ad S r O H) (p : RpAll K S r ds ws) (hl : ds.length + 1 = ps.length) (hN : ps.length ≤ N.length) (ha : H a = none)
    (hm : ms (iniL N ds) O = .ok dm O') (hj : (iniL N ds)[j1]? = some (some d1)) (q : EndI K ad S r O' [(f1, d1)] Qx) :
    spI N ps C (tE K ad JT WF ms) (tOst K f1 (tVar 0) (tVar j1)) (V.ref a :: ws) (upd H a (exo a C none)) (QI a C H Qx) E := by
  refine spI_mid rs p hl hN ha hm fun S' r' H2 es er s2 h2a hfa hfr hdom rl => ?_
  obtain ⟨v1, q1, p1⟩ := rl.at_ j1 d1 hj
  refine ⟨v1, q1, .ref a, rfl, a, C, rfl, T, hno, .inl ⟨h2a, fun dx hdx hne => ?_⟩⟩
  exact endI_of rs ha es er s2 hfa hfr hdom hdx hne (fun b n1 n2 => by rw [upd_ne n1, upd_ne n2]) upd_same (by rw [upd_ne hne, upd_same]) (show RpP K S' r' [(f1, d1)] [(f1, v1)] from ⟨v1, [], rfl, p1, rfl⟩) q
end
end DK
end
section
set_option Elab.async false
set_option linter.all false
set_option autoImplicit false
set_option maxRecDepth 100000
set_option maxHeartbeats 4000000
/-! DKMore: loops over a text, methods of texts, repr. -/
namespace DK
open PySem L2
def charsD (s : Str) : List D := s.cps.toList.map fun c => .str ⟨#[c]⟩
theorem chars_rp {K : PySem.W.Frag} {S : Hp} {r : Rg} : ∀ cs : List Nat, RpAll K S r (cs.map fun c => D.str ⟨#[c]⟩) (cs.map fun c => V.str ⟨#[c]⟩)
  | [] => rfl
  | _ :: cs => ⟨_, _, rfl, rfl, chars_rp cs⟩
def sForS (m : EM) (b : BM) (body : SM) : SM := fun L O => ofRes L (m L O) fun d O1 => match d with
  | .str s => loopD (turnOf b body) (charsD s) L O1
  | _ => .bad
def mLcS (h : Bool) (src : EM) (vs : List Nat) (b : BM) (tt : TM) (el : EM) : EM := fun L O => (src L O).bind fun d O1 => match d with
  | .str s => lcEnd h (lcG (fun i _ => some (charsD s)[i]?) (lcTurn vs b tt el L) (charsD s).length 0 O1 [])
  | _ => .bad
section
variable {X : Cx} {ad : Str → Addr} {J : JP} {W : WX} {pos : Pos} {a b c e tg iter elt : Expr} {es ifs : List Expr} {m me : EM} {mt : AM} {tm : TM} {st : Stmt} {rest body els : List Stmt} {s1 s2 : SM} {bm : BM} {bs : BsM} {scope : Scope} {own : List (Str × Nat)}
theorem its_at {x : Str} {i : Nat} {v : V} (h : (x.cps.toList.map fun c => V.str ⟨#[c]⟩)[i]? = some v) : ∃ c, x.cps[i]? = some c ∧ v = .str ⟨#[c]⟩ := by
  rw [List.getElem?_map] at h
  obtain ⟨c, hc, rfl⟩ := Option.map_eq_some_iff.mp h
  exact ⟨c, by rw [← Array.getElem?_toList]; exact hc, rfl⟩
theorem ds_forS (hp : PassesOwn (model X.prog X.w) X.A X.env X.xe) (hc : X.calm = true) (hi : PE X iter (tE X.K ad J W m)) (hg : PG X tg (tG X.K ad J bm)) (hb : PSs X body (tS X.K ad J W s1)) (hs : ∀ x, foldedSetIterable iter X.env x = pure x := by intro _; rfl) :
    PS X (.For tg iter body [] pos) (tS X.K ad J W (sForS m bm s1)) := by
  refine ps_imp (ps_for hp hc (pi_str hi) hg hb hs) ?_
  rintro En σ H ⟨S, r, L, O, j, rl, rs, p⟩
  refine ⟨S, r, L, O, j, rl, rs, (bindS j rl p).imp ?_⟩
  rintro x H1 ⟨S1, r1, d, O1, e1, q1, p1, k1⟩
  have rl1 := rl.mono e1
  cases d with
  | str s =>
    refine ⟨s, p1, for_still (It' := Its s) (charsD s) (chars_rp s.cps.toList) (fun i H S x e e' hx => ?_) (fun i H S x y H' e e' hx hy => ?_) (fun i H S e e' hl => ?_) (J.mono e1.s j) rl1 q1 k1⟩
    · obtain ⟨c, hc, _⟩ := its_at hx
      exact (Array.getElem?_eq_some_iff.mp hc).1
    · obtain ⟨c, hc, rfl⟩ := its_at hx
      obtain ⟨h1, c2, h2, h3⟩ := hy
      rw [hc] at h2
      cases h2
      exact ⟨h3, h1⟩
    · rw [List.length_map] at hl
      exact hl
  | hdl n => exact k1.elim
  | lst n => exact k1.elim
  | rol n => exact k1.elim
  | tup n => exact k1.elim
  | non => exact k1.elim
  | bl b => exact k1.elim
  | int i => exact k1.elim
theorem lcS_imp {hm : Bool} : ∀ σ H Q, (tE X.K ad J W (mLcS hm m (own.map (·.2)) bm tm me)) σ H Q → tLc (iStr (tE X.K ad J W m)) (tGx X.K ad (own.map (·.2)) bm) (tTx X.K ad (own.map (·.2)) tm) (tEx X.K ad (own.map (·.2)) me) (own.map (·.2)) σ H Q := by
  rintro σ H Q ⟨S, r, L, O, j, rl, rs, z⟩
  refine ⟨S, r, L, O, j, rl, rs, (Post.bind z).imp ?_⟩
  rintro x H1 ⟨S1, r1, d, O1, e1, s1, p1, q1⟩
  cases d with
  | str s =>
    refine ⟨s, p1, lc_post (nx := fun i _ => some (charsD s)[i]?) (fun i S r O H d' es el rs hn => ?_) (fun i S r O H es el rs hn => ?_) (rl.mono e1) s1 q1⟩
    · have hn' : (charsD s)[i]? = some d' := Option.some.inj hn
      unfold charsD at hn'
      rw [List.getElem?_map] at hn'
      obtain ⟨c, hc, rfl⟩ := Option.map_eq_some_iff.mp hn'
      rw [Array.getElem?_toList] at hc
      refine ⟨(Array.getElem?_eq_some_iff.mp hc).1, fun x H' hyy => ⟨hyy.1, ?_⟩⟩
      obtain ⟨_, c2, h2, h3⟩ := hyy
      rw [hc] at h2
      cases h2
      exact h3
    · have := List.getElem?_eq_none_iff.mp (Option.some.inj hn)
      unfold charsD at this
      rw [List.length_map] at this
      exact this
  | hdl n => exact q1.elim
  | lst n => exact q1.elim
  | rol n => exact q1.elim
  | tup n => exact q1.elim
  | non => exact q1.elim
  | bl b => exact q1.elim
  | int i => exact q1.elim
theorem de_lcS {hm : Bool} (hc : X.calm = true) (hN : X.N.Nodup) (hi : PE X iter (tE X.K ad J W m)) (ok : BlkOk X.N X.env.scope scope own)
    (hg : ∀ (s : Shared) (H : Hp) (C : Addr) (cl : List (Str × Addr)) (fp : List Addr) (J' : JP), Cl (own.map (·.2)) J' → PG (X.blk s H scope (PySem.compEnvC scope cl C X.env) fp) tg (tG X.K ad J' bm))
    (ht : ∀ (s : Shared) (H : Hp) (C : Addr) (cl : List (Str × Addr)) (fp : List Addr) (J' : JP), Cl (own.map (·.2)) J' → PTs (X.blk s H scope (PySem.compEnvC scope cl C X.env) fp) ifs (tT X.K ad J' WF tm))
    (he : ∀ (s : Shared) (H : Hp) (C : Addr) (cl : List (Str × Addr)) (fp : List Addr) (J' : JP), Cl (own.map (·.2)) J' → PE (X.blk s H scope (PySem.compEnvC scope cl C X.env) fp) elt (tE X.K ad J' WF me)) (hs : ∀ x, foldedSetIterable iter X.env x = pure x := by intro _; rfl) :
    PE X (.ListComp elt [⟨tg, iter, ifs, 0⟩] scope pos) (tE X.K ad J W (mLcS hm m (own.map (·.2)) bm tm me)) :=
  pe_imp (pe_lc hc hN (pi_str hi) ok (g := tGx X.K ad (own.map (·.2)) bm) (tt := tTx X.K ad (own.map (·.2)) tm) (te := tEx X.K ad (own.map (·.2)) me) (fun s H C cl fp => gx_of (hg s H C cl fp)) (fun s H C cl fp => tx_of (ht s H C cl fp)) (fun s H C cl fp => ex_of (he s H C cl fp)) hs) lcS_imp
/-! ### repr -/
end
/-! ### methods of texts -/
structure MethS (X : Cx) (ad : Str → Addr) (id : String) (g : Store → Str → List D → Option (D × Store)) : Prop where
  ok : ∃ rr, MtR X id rr ∧ ∀ (S : Hp) (r : Rg) (O : Store) (H : Hp) (s : Str) (vs : List V) (ds : List D) (W : WX) (σ : L2.St) (Q : VK), Rs X.K ad S r O H → RpAll X.K S r ds vs →
    Post X.K ad (fun S r => Rp X.K S r) W σ S r Q (ofO (g O s ds)) → rr (.str s) vs H Q
def mBS (g : Store → Str → List D → Option (D × Store)) (mo : EM) (mt : AM) : EM := fun L O => (mo L O).bind fun d O1 => match d with
  | .str s => (mt L O1).bind fun ds O2 => ofO (g O2 s ds)
  | _ => .bad
def rows (h : Bool) (ys : List Str) (O : Store) : Option (D × Store) := newLO h (ys.map .str) O
def gSplit (h : Bool) : Store → Str → List D → Option (D × Store) := fun O a ds => match ds with
  | [.str b] => if (b.length == 0) = false ∧ a.length ≤ 1000000 then rows h (Txt.split a b) O else none
  | _ => none
def strsOf : List D → Option (List Str)
  | [] => some []
  | .str s :: ds => (strsOf ds).map (s :: ·)
  | _ => none
def gJoin : Store → Str → List D → Option (D × Store) := fun O a ds => match ds with
  | [d] => match seqOf O d with
    | some xs => match strsOf xs with
      | some ys => if (ys.map (·.length)).sum + ys.length * a.length ≤ 16777216 then some (.str (Txt.join a ys), O) else none
      | none => none
    | none => none
  | _ => none
theorem strsOf_rp {K : PySem.W.Frag} {S : Hp} {r : Rg} : ∀ {ds : List D} {vs : List V} {ns : List Str}, RpAll K S r ds vs → strsOf ds = some ns → vs = ns.map V.str
  | [], vs, ns, h, e => by cases e; exact h
  | .str i :: ds, vs, ns, h, e => by
    obtain ⟨v, vr, rfl, rfl, h2⟩ := h
    have e : (strsOf ds).map (i :: ·) = some ns := e
    obtain ⟨ms, e1, rfl⟩ := Option.map_eq_some_iff.mp e
    rw [strsOf_rp h2 e1]
    rfl
  | .non :: _, _, _, _, e => by cases e
  | .int _ :: _, _, _, _, e => by cases e
  | .bl _ :: _, _, _, _, e => by cases e
  | .lst _ :: _, _, _, _, e => by cases e
  | .rol _ :: _, _, _, _, e => by cases e
  | .tup _ :: _, _, _, _, e => by cases e
  | .hdl _ :: _, _, _, _, e => by cases e
theorem strs_rp {K : PySem.W.Frag} {S : Hp} {r : Rg} : ∀ ys : List Str, RpAll K S r (ys.map D.str) (ys.map V.str)
  | [] => rfl
  | _ :: ys => ⟨_, _, rfl, rfl, strs_rp ys⟩
section
variable {X : Cx} {ad : Str → Addr} {J : JP} {W : WX} {apos cpos : Pos} {o e : Expr} {es : List Expr} {mo : EM} {mt : AM}
theorem de_bS {name : Str} {id : String} {g : Store → Str → List D → Option (D × Store)} (pa : PlainAttrs "str") (slot : Slot "str" name id) (hty : typeOf (.builtin id) = pure (.type "method_descriptor")) (hm : MethS X ad id g) (ho : PE X o (tE X.K ad J W mo)) (ha : PA X (e :: es) (tA X.K ad J W mt))
    (hbase : attributeBase o name X.env (eval o X.env) = eval o X.env := by rfl)
    (hfew : ((backTo cpos (starEach (e :: es) X.env)).all (fun x => !x.1) && (backToKw cpos (keywordEach [] X.env)).all (fun x => x.1.isSome)
      && decide ((e :: es).length + ([] : List Keyword).length + (if ([] : List Keyword).isEmpty then 0 else 1) < 30)) = true := by rfl)
    (hline : (apos.endLine == cpos.line) = true := by rfl) (hs : starEach (e :: es) X.env = (false, eval e X.env) :: starEach es X.env := by rfl) (hplain : (backTo cpos (starEach es X.env)).any (·.1) = false := by rfl) :
    PE X (.Call (.Attribute o name apos) (e :: es) [] cpos) (tE X.K ad J W (mBS g mo mt)) := by
  obtain ⟨rr, h1, h2⟩ := hm.ok
  refine pe_imp (pe_bm pa slot hty h1 ho ha hbase hfew hline hs hplain) ?_
  rintro σ H Q ⟨S, r, L, O, j, rl, rs, q⟩
  refine ⟨S, r, L, O, j, rl, rs, (Post.bind q).imp ?_⟩
  rintro x H1 ⟨S1, r1, d, O1, e1, s1, p1, q1⟩
  cases d with
  | str s =>
    refine ⟨by rw [show x = .str s from p1]; rfl, S1, r1, L, O1, J.mono e1.s j, rl.mono e1, s1, (Post.bind q1).imp ?_⟩
    rintro vs H2 ⟨S2, r2, ds, O2, e2, s2, p2, q2⟩
    rw [show x = .str s from p1]
    exact h2 S2 r2 O2 H2 s vs ds W σ Q s2 p2 q2
  | hdl n => exact q1.elim
  | lst n => exact q1.elim
  | rol n => exact q1.elim
  | tup n => exact q1.elim
  | non => exact q1.elim
  | bl b => exact q1.elim
  | int i => exact q1.elim
theorem rows_post {h : Bool} {ys : List Str} {S : Hp} {r : Rg} {O : Store} {H : Hp} {σ : L2.St} {Q : VK} (rs : Rs X.K ad S r O H) (q : Post X.K ad (fun S r => Rp X.K S r) W σ S r Q (ofO (rows h ys O))) : rNewStrs ys H Q := by
  unfold rows at q
  rw [ofO_newLO] at q
  exact (newL_post rs (strs_rp ys) q).2
theorem ms_split (h : Bool) : MethS X ad "str.split" (gSplit h) where
  ok := ⟨_, mt_split, fun S r O H s vs ds W σ Q rs p q => by
    unfold gSplit at q
    split at q
    · rename_i b
      obtain ⟨v, vr, rfl, rfl, rfl⟩ := p
      split at q
      · rename_i hc
        exact ⟨s, b, rfl, rfl, hc.1, by rw [sizeLine_eq]; omega, rows_post rs q⟩
      · exact q.elim
    · exact q.elim⟩
theorem ms_join : MethS X ad "str.join" gJoin where
  ok := ⟨_, mt_join, fun S r O H s vs ds W σ Q rs p q => by
    unfold gJoin at q
    split at q
    · rename_i d
      obtain ⟨v, vr, rfl, p1, rfl⟩ := p
      split at q
      · rename_i xs hx
        split at q
        · rename_i ys hy
          split at q
          · rename_i hl
            obtain ⟨a, us, rfl, h1, h2⟩ := seqOf_ok rs p1 hx
            rw [strsOf_rp h2 hy] at h1
            exact ⟨s, a, ys, rfl, rfl, h1, hl, q S r H _ (Ext.refl _ _) rs rfl⟩
          · exact q.elim
        · exact q.elim
      · exact q.elim
    · exact q.elim⟩
end
end DK
end
section
set_option Elab.async false
set_option linter.all false
set_option autoImplicit false
set_option maxRecDepth 100000
set_option maxHeartbeats 4000000
/-! DKHeadI: the head's facts of own errors with an __init__; raising them. -/
namespace DK
open PySem L2
def oexOk (K : PySem.W.Frag) (C : Addr) : Bool := match K.lookup C with
  | some ⟨.type t, _, .cls cd, sl⟩ => decide (t = "type") && (decide (cd.mro.head? = some (.ref C)) && (PySem.HandSPX.refsVE (cd.mro.drop 1) && (cd.hasDict && (!cd.hasDel && (match sl.toList with
    | [_, _, _, _, some (.builtin id), _] => decide (id = "ValueError.__new__")
    | _ => false)))))
  | _ => false
theorem oexOk_ok {K : PySem.W.Frag} {C : Addr} (h : oexOk K C = true) : ∃ nm q N bs bm sn sub ab col dd k0 k1 k2 k3 k5, K.lookup C = some (excClassObj nm q C N bs bm true sn sub ab col dd k0 k1 k2 k3 k5 "ValueError.__new__") ∧ PySem.HandSPX.refsVE bm = true := by
  unfold oexOk at h
  split at h
  · rename_i t dd cd sl hl
    obtain ⟨h1, h⟩ := He.ba h
    obtain ⟨h2, h⟩ := He.ba h
    obtain ⟨h3, h⟩ := He.ba h
    obtain ⟨h4, h⟩ := He.ba h
    obtain ⟨h5, h6⟩ := He.ba h
    have e1 := of_decide_eq_true h1
    have e2 := of_decide_eq_true h2
    obtain ⟨nm, bs, mro, ns, qn, hd, sn, sb, ab, col, del⟩ := cd
    have e4 : hd = true := h4
    have e5 : del = false := by
      have : (!del) = true := h5
      cases del
      · rfl
      · cases this
    subst e1 e4 e5
    cases mro with
    | nil => cases e2
    | cons m bm =>
      have em : m = .ref C := Option.some.inj e2
      subst em
      split at h6
      · rename_i k0 k1 k2 k3 id k5 hs
        have ei := of_decide_eq_true h6
        subst ei
        obtain ⟨sl⟩ := sl
        have hs : sl = [k0, k1, k2, k3, some (.builtin "ValueError.__new__"), k5] := hs
        subst hs
        exact ⟨nm, qn, ns, bs, bm, sn, sb, ab, col, dd, k0, k1, k2, k3, k5, hl, h3⟩
      · cases h6
  · cases h
/-- an error's __init__: its class, parameters, body, scope -/
structure IniD where
  cls : Str
  qual : Str
  params : Arguments
  body : List Stmt
  scope : Scope
abbrev FnC : Type := Option (Str × Str × Arguments × FuncBody × Scope × Addr × List Str × Value × Addr)
def IniD.at_ (d : IniD) : Str × Option Str := (d.cls, some "__init__")
def fnC (K : PySem.W.Frag) (p : Str × Option Str) : FnC := match K.lookup (He.fAd K p) with
  | some ⟨_, _, .func fd, _⟩ => some (fd.name, fd.qualname, fd.params, fd.body, fd.scope, fd.globals, fd.closure.map (·.1), fd.defaults, fd.builtins)
  | _ => none
def IniD.val (d : IniD) : FnC := some (("__init__" : Str), d.qual, d.params, FuncBody.stmts d.body, d.scope, mainGlobals, [("__class__" : Str)], Value.none, builtinsNs)
def IniD.ok (K : PySem.W.Frag) (main : Str) (d : IniD) : Bool := match K.lookup (He.fAd K d.at_) with
  | some ⟨_, _, .func fd, _⟩ => (match fd.closure, fd.code with
    | [(_, cc)], .ref cda => PySem.W.codeIn K (.ref cda) d.qual && ((match K.lookup cc with
        | some ⟨_, _, .cell (some v), _⟩ => decide (v = .ref (He.ga K d.cls))
        | _ => false) && ((match K.lookup cda with
        | some ⟨_, _, .fields vs, _⟩ => (match vs[2]? with
          | some (Value.str x _) => decide (x = main)
          | _ => false)
        | _ => false) && decide (PySem.W.mroIn K (He.ga K d.cls) (.ref (He.ga K d.cls)) = some true ∧ PySem.W.ks_superIn K (He.ga K d.cls) (He.ga K d.cls) "__init__" = some (some (.builtin "ValueError.__init__")) ∧ PySem.W.subIn K (.ref (He.ga K d.cls)) (.type "ValueError") = some true
          ∧ PySem.W.nsIn K cStatics "thirdparty.any" = some none ∧ PySem.W.nsIn K mainGlobals "super" = some none ∧ PySem.W.findIn K (.ref (He.ga K d.cls)) "__setattr__" = some (some (.builtin "object.__setattr__")) ∧ PySem.W.subIn K (.ref (He.ga K d.cls)) (.type "BaseException") = some true
          ∧ PySem.W.typeIn K (.ref (He.ga K d.cls)) = some (.type "type") ∧ PySem.W.keepIn K (.ref (He.ga K d.cls)) = true ∧ PySem.W.findIn K (.ref (He.ga K d.cls)) "__init__" = some (some (.ref (He.fAd K d.at_))) ∧ PySem.W.typeIn K (.ref (He.fAd K d.at_)) = some (.type "function") ∧ oexOk K (He.ga K d.cls) = true)))
    | _, _ => false)
  | _ => false
/-- what is known of it -/
structure IniK (K : PySem.W.Frag) (main : Str) (d : IniD) : Prop where
  lk : ∃ oc od kV doc pm an cda ct cc osl, K.lookup (He.fAd K d.at_) = some ⟨oc, od, .func (PySem.W.ksFn "__init__" d.qual d.params d.body d.scope .none kV doc pm an (.ref cda) ct cc), osl⟩ ∧ PySem.W.codeIn K (.ref cda) d.qual = true ∧ SupK K main (He.fAd K d.at_) (He.ga K d.cls) cc cda
  T : OexC K (He.ga K d.cls)
  iC : PySem.W.findIn K (.ref (He.ga K d.cls)) "__init__" = some (some (.ref (He.fAd K d.at_)))
  tI : PySem.W.typeIn K (.ref (He.fAd K d.at_)) = some (.type "function")
theorem iniK_of {K : PySem.W.Frag} {main : Str} {d : IniD} (e : fnC K d.at_ = d.val) (c : d.ok K main = true) : IniK K main d := by
  unfold IniD.ok at c
  unfold fnC at e
  cases q : K.lookup (He.fAd K d.at_) with
  | none => rw [q] at c; cases c
  | some o =>
    obtain ⟨oc, od, dt, osl⟩ := o
    rw [q] at c e
    cases dt with
    | func fd =>
      obtain ⟨n1, n2, n3, n4, n5, n6, n7, n8, n9, n10, n11, n12, n13, n14, n15⟩ := fd
      have e2 : (some (n1, n2, n3, n4, n5, n6, n7.map (·.1), n8, n15) : FnC) = some (("__init__" : Str), d.qual, d.params, FuncBody.stmts d.body, d.scope, mainGlobals, [("__class__" : Str)], Value.none, builtinsNs) := e
      simp only [Option.some.injEq, Prod.mk.injEq] at e2
      obtain ⟨h1, h2, h3, h4, h5, h6, h7, h8, h9⟩ := e2
      subst h1 h2 h3 h4 h5 h6 h8 h9
      cases n7 with
      | nil => cases h7
      | cons p r =>
        cases r with
        | cons _ _ => simp at h7
        | nil =>
          obtain ⟨pn, cc⟩ := p
          have hpn : pn = "__class__" := by simpa using h7
          subst hpn
          cases n13 with
          | ref cda =>
            obtain ⟨c1, c⟩ := He.ba c
            obtain ⟨c2, c⟩ := He.ba c
            obtain ⟨c3, c4⟩ := He.ba c
            obtain ⟨g1, g2, g3, g4, g5, g6, g7, g8, g9, g10, g11, g12⟩ := of_decide_eq_true c4
            refine ⟨⟨oc, od, _, _, _, _, cda, _, cc, osl, q, c1, ?_, ?_, g1, g2, g3, g4, g5⟩, ⟨oexOk_ok g12, g6, g7, g8, g9⟩, g10, g11⟩
            · split at c2
              · rename_i cl cld v csl hc
                have := of_decide_eq_true c2
                subst this
                exact ⟨_, _, _, hc⟩
              · cases c2
            · split at c3
              · rename_i ccl cdd vs ccs hc
                split at c3
                · rename_i x tf hv
                  have := of_decide_eq_true c3
                  subst this
                  exact ⟨_, _, _, _, tf, hc, hv⟩
                · cases c3
              · cases c3
          | _ => cases c
    | _ => cases c
/-! ### the Hook -/
abbrev AlI : Type := He.AlD × Bool × List FnC
structure SaysI (fa : List He.Fa) (fn : List He.DefD) (fx : List Fx) (main : Str) (ins : List IniD) (K : PySem.W.Frag) : Prop where
  c : He.SaysD fa fn K
  x : allFx fx K = true
  i : ∀ d ∈ ins, IniK K main d
def obsI (fa : List He.Fa) (fn : List He.DefD) (fx : List Fx) (main : Str) (ins : List IniD) (K : PySem.W.Frag) : AlI := (He.obsD fa fn K, allFx fx K && ins.all (fun d => d.ok K main), ins.map fun d => fnC K d.at_)
theorem saysI_of {fa : List He.Fa} {fn : List He.DefD} {fx : List Fx} {main : Str} {ins : List IniD} {K : PySem.W.Frag} (e : obsI fa fn fx main ins K = (He.valD fn, true, ins.map IniD.val)) : SaysI fa fn fx main ins K := by
  have e1 : He.obsD fa fn K = He.valD fn := congrArg (fun z : AlI => z.1) e
  have e2 : (allFx fx K && ins.all (fun d => d.ok K main)) = true := congrArg (fun z : AlI => z.2.1) e
  have e3 : ins.map (fun d => fnC K d.at_) = ins.map IniD.val := congrArg (fun z : AlI => z.2.2) e
  obtain ⟨h1, h2⟩ := He.ba e2
  refine ⟨e1, h1, fun d hd => iniK_of ?_ (List.all_eq_true.mp h2 d hd)⟩
  obtain ⟨n, hn, rfl⟩ := List.mem_iff_getElem.mp hd
  have := congrArg (fun l : List FnC => l[n]?) e3
  simp only [List.getElem?_map, List.getElem?_eq_getElem hn, Option.map_some, Option.some.injEq] at this
  exact this
/-! ### a def that makes an error -/
/-- the mirror of an __init__: of the arguments the fields -/
abbrev XM := List D → Store → Option (List (Str × D) × Store)
def HasX (P : Program) (w : World) (K : PySem.W.Frag) (mg : Str → Option Value) (base : Heap) (k : Nat) (c : Str) (n : Nat) (mk : XM) : Prop :=
  OexC K (He.ga K c) ∧ PySem.W.findIn K (.ref (He.ga K c)) "__init__" = some (some (.ref (He.fAd K (c, some "__init__")))) ∧ PySem.W.typeIn K (.ref (He.fAd K (c, some "__init__"))) = some (.type "function") ∧
  ∃ fd ps sp, FnOk P w K mg base (L2.CX P w) k (He.fAd K (c, some "__init__")) fd ps sp ∧ Binds K fd ps [] ∧ ∀ (S : Hp) (r : Rg) (O : Store) (H : Hp) (a : Addr) (ds : List D) (ws : List V) (fs : List (Str × D)) (O' : Store) (Qx : Option Addr → Hp → Prop) (E : XK), Rs K (He.ga K) S r O H → RpAll K S r ds ws → ds.length = n → H a = none → mk ds O = some (fs, O') →
    EndI K (He.ga K) S r O' fs Qx → sp (V.ref a :: ws) (upd H a (exo a (He.ga K c) none)) (QI a (He.ga K c) H Qx) E
def sRaiseX (c : Str) (n : Nat) (mk : XM) (t : AM) : SM := fun L O => ofRes L (t L O) fun ds O1 => if ds.length = n ∧ n ≤ 1000 then (match mk ds O1 with
  | some p => .exc ⟨c, some p.1⟩ L p.2
  | none => .bad) else .bad
theorem ds_raiseX {X : Cx} {J : JP} {W : WX} {k n : Nat} {c x : Str} {mk : XM} {p p2 pos : Pos} {e : Expr} {es : List Expr} {mt : AM} (hc : X.calm = true) (tk : Takes X W) (F : HasX X.prog X.w X.K X.mg X.base k c n mk) (hr : Room (k + 1) X.A) (hg : Gl X x) (hm : X.mg x = some (.ref (He.ga X.K c))) (ha : PA X (e :: es) (tA X.K (He.ga X.K) J W mt))
    (hdb : (x == ("__debug__" : Str)) = false := by decide) (he : starEach (e :: es) X.env = (false, eval e X.env) :: starEach es X.env := by rfl) (hpl : (backTo p2 (starEach es X.env)).any (·.1) = false := by rfl) :
    PS X (.Raise (some (.Call (.Name x p) (e :: es) [] p2)) none pos) (tS X.K (He.ga X.K) J W (sRaiseX c n mk mt)) := by
  obtain ⟨T, iC, tI, fd, ps, sp, F1, hb, hsp⟩ := F
  have hx : Passes (L2.CX X.prog X.w) X (fun _ _ _ => False) := fun pins σ H s e s' I c => by
    obtain ⟨_, _, _, _, _, _, _, _, _, _, _, _, z⟩ := c
    exact z.elim
  refine ps_imp (ps_raise hc tk (pmk_oex T iC tI F1 hr hb .nil hx hg hm ha hdb he hpl)) ?_
  rintro En σ H ⟨S, r, L, O, j, rl, rs, z⟩
  refine ⟨S, r, L, O, j, rl, rs, (bindS j rl z).imp ?_⟩
  rintro vs H1 ⟨S1, r1, ds, O1, e1, q1, p1, k1⟩
  split at k1
  · rename_i hn
    split at k1
    · rename_i fp hmk
      refine ⟨by rw [p1.length, hn.1]; exact hn.2, fun a ha => ?_⟩
      rw [List.append_nil]
      refine hsp S1 r1 O1 H1 a ds vs fp.1 fp.2 (fun d H' => W (.ref (He.ga X.K c)) d σ H') _ q1 p1 hn.1 ha hmk ⟨fun S2 r2 H4 dd gs e2 q2 hdd pg => ?_⟩
      exact k1 S2 r2 σ H4 (some dd) e2 (J.mono (e1.trans e2).s j) (rl.mono (e1.trans e2)) q2 ⟨dd, gs, rfl, hdd, pg⟩
    · exact k1.elim
  · exact k1.elim
end DK
end
section
set_option Elab.async false
set_option linter.all false
set_option autoImplicit false
set_option maxRecDepth 100000
set_option maxHeartbeats 4000000
/-! DKRun: the run of the top, looked at part by part (each part by itself is less for the kernel to hold). -/
namespace DK
open PySem L2 HandSHeadRun
/-- one look at the run's end -/
def hkL (α : Type) (v : α) : PySem.W.Hook where
  α := α
  obs := fun _ => v
  val := fun _ => v
  says := fun _ _ => True
  of := fun _ _ _ => trivial
  keeps := fun _ _ _ h _ => h
theorem run_of {r : PySem.W.OpenRow} {q : Program} {H : PySem.W.Hook} {ob : PySem.W.SharedT → H.α} {M : Nat} {loose : List PySem.Str} {w : World} {α : Type} {va : α} {a : PySem.W.SharedT → α} (h : RunEq r q (hkL α va) a M loose w) (j : ∀ s, a s = va → ob s = H.val w) : RunEq r q H ob M loose w := fun os => by
  obtain ⟨s, e, z⟩ := Option.map_eq_some_iff.mp (h os)
  refine Option.map_eq_some_iff.mpr ⟨s, e, ?_⟩
  have z1 := congrArg (fun z => z.1) z
  have z2 := congrArg (fun z => z.2.1) z
  have z3 : a s = va := congrArg (fun z => z.2.2) z
  exact Prod.ext z1 (Prod.ext z2 (j s z3))
theorem run_and {r : PySem.W.OpenRow} {q : Program} {M : Nat} {loose : List PySem.Str} {w : World} {α β : Type} {va : α} {vb : β} {a : PySem.W.SharedT → α} {b : PySem.W.SharedT → β} (h : RunEq r q (hkL α va) a M loose w) (g : RunEq r q (hkL β vb) b M loose w) : RunEq r q (hkL (α × β) (va, vb)) (fun s => (a s, b s)) M loose w := fun os => by
  obtain ⟨s, e, z⟩ := Option.map_eq_some_iff.mp (h os)
  obtain ⟨s', e', z'⟩ := Option.map_eq_some_iff.mp (g os)
  have es : s = s' := Option.some.inj (e.symm.trans e')
  subst es
  refine Option.map_eq_some_iff.mpr ⟨s, e, ?_⟩
  have z1 := congrArg (fun z => z.1) z
  have z2 := congrArg (fun z => z.2.1) z
  have z3 : a s = va := congrArg (fun z => z.2.2) z
  have z4 : b s = vb := congrArg (fun z => z.2.2) z'
  exact Prod.ext z1 (Prod.ext z2 (Prod.ext z3 z4))
/-- what a function names -/
def kidsF (fd : FuncData) : List Addr := He.refV fd.code ++ (He.refV fd.defaults ++ (He.refV fd.kwdefaults ++ fd.closure.map (·.2)))
def ownF (g : Addr → Option Obj) (a : Addr) : List Addr := match g a with
  | some ⟨_, _, .func fd, _⟩ => kidsF fd
  | _ => []
/-- what stands in a namespace -/
def inNs (g : Addr → Option Obj) (a : Addr) : List Addr := match g a with
  | some ⟨_, _, .dict es _, _⟩ => es.toList.flatMap fun e => He.refV e.val
  | _ => []
/-- what a global names: a function's code, a class's methods and their code -/
def ownG (g : Addr → Option Obj) (a : Addr) : List Addr := match g a with
  | some ⟨_, _, .func fd, _⟩ => kidsF fd
  | some ⟨_, _, .cls cd, _⟩ => cd.ns :: (inNs g cd.ns ++ (inNs g cd.ns).flatMap (ownF g))
  | _ => []
def asJ (g : Addr → Option Obj) : List Addr := cStatics :: mainGlobals :: (inNs g mainGlobals ++ (inNs g mainGlobals).flatMap (ownG g))
def hookJ (fa : List He.Fa) (fn : List He.DefD) (fx : List Fx) (main : Str) (ins : List IniD) : PySem.W.Hook where
  α := AlI
  obs := fun s => obsI fa fn fx main ins (He.frG s.heap.get? (asJ s.heap.get?))
  val := fun _ => (He.valD fn, true, ins.map IniD.val)
  says := fun _ h => ∃ K : PySem.W.Frag, K.In h ∧ SaysI fa fn fx main ins K
  of := fun _ _ e => ⟨_, He.frG_in, saysI_of e⟩
  keeps := fun _ _ _ ⟨K, hK, c⟩ k => ⟨K, PySem.W.Frag.In.keeps hK k, c⟩
def obsJG (fa : List He.Fa) (fn : List He.DefD) (fx : List Fx) (main : Str) (ins : List IniD) (g : Addr → Option Obj) : AlI := obsI fa fn fx main ins (He.frG g (asJ g))
theorem obsJG_eq {fa : List He.Fa} {fn : List He.DefD} {fx : List Fx} {main : Str} {ins : List IniD} {g : Addr → Option Obj} {s : Shared} (h : ∀ a, g a = s.heap.get? a) : obsJG fa fn fx main ins g = (hookJ fa fn fx main ins).obs s := by
  have e : g = s.heap.get? := funext h
  rw [e] <;> rfl
/-- the objects that are looked at -/
def frT (s : PySem.W.SharedT) : PySem.W.Frag := He.frG (getT s) (asJ (getT s))
def lookA (fa : List He.Fa) (s : PySem.W.SharedT) : Bool := fa.all fun f => f.ok (frT s)
def lookD (fn : List He.DefD) (s : PySem.W.SharedT) : Bool := fn.all fun d => d.ok (frT s)
def lookV (fn : List He.DefD) (s : PySem.W.SharedT) : List He.FnW := fn.map fun d => He.fnW (frT s) d.at_
def lookX (fx : List Fx) (s : PySem.W.SharedT) : Bool := allFx fx (frT s)
def lookI (main : Str) (ins : List IniD) (s : PySem.W.SharedT) : Bool × List FnC := (ins.all fun d => d.ok (frT s) main, ins.map fun d => fnC (frT s) d.at_)
theorem look_join {fa : List He.Fa} {fn : List He.DefD} {fx : List Fx} {main : Str} {ins : List IniD} {s : PySem.W.SharedT} (h : ((lookA fa s, lookX fx s, lookI main ins s), (lookD fn s, lookV fn s)) = ((true, true, (true, ins.map IniD.val)), (true, fn.map He.DefD.val))) :
    obsJG fa fn fx main ins (getT s) = (He.valD fn, true, ins.map IniD.val) := by
  have h1 : lookA fa s = true := congrArg (fun z => z.1.1) h
  have h2 : lookX fx s = true := congrArg (fun z => z.1.2.1) h
  have h3 : (ins.all fun d => d.ok (frT s) main) = true := congrArg (fun z => z.1.2.2.1) h
  have h4 : (ins.map fun d => fnC (frT s) d.at_) = ins.map IniD.val := congrArg (fun z => z.1.2.2.2) h
  have h5 : lookD fn s = true := congrArg (fun z => z.2.1) h
  have h6 : lookV fn s = fn.map He.DefD.val := congrArg (fun z => z.2.2) h
  unfold lookA at h1
  unfold lookX at h2
  unfold lookD at h5
  unfold lookV at h6
  show obsI fa fn fx main ins (frT s) = _
  unfold obsI He.obsD He.valD
  rw [h1, h2, h3, h4, h5, h6]
  rfl
end DK
end
section
set_option Elab.async false
set_option linter.all false
set_option autoImplicit false
set_option maxRecDepth 100000
set_option maxHeartbeats 4000000
/-! DKMeth: methods of a list of the store (pop, insert, extend, remove, reverse), by mirrors. -/
namespace DK
open PySem L2
end DK
end
section
set_option Elab.async false
set_option linter.all false
set_option autoImplicit false
set_option maxRecDepth 100000
set_option maxHeartbeats 4000000
/-! DKDict: dicts of the store, sorting. -/
namespace DK
open PySem L2
def keyD : D → Option Key
  | .int i => some (.inl i)
  | .str s => some (.inr s)
  | _ => none
def kD : Key → D
  | .inl i => .int i
  | .inr s => .str s
def valD (kvs : List (Key × D)) (k : Key) : Option D := (kvs.find? fun kv => decide (kv.1 = k)).map (·.2)
def putKD (kvs : List (Key × D)) (k : Key) (d : D) : List (Key × D) := if (kvs.any fun kv => decide (kv.1 = k)) = true then kvs.map (fun kv => if kv.1 = k then (kv.1, d) else kv) else kvs ++ [(k, d)]
def dctOf (O : Store) : D → Option (List (Key × D))
  | .hdl n => match O[n]? with
    | some (.dct kvs) => some kvs
    | _ => none
  | _ => none
def mDNew : EM := fun _ O => .ok (.hdl O.length) (O ++ [.dct []])
def mDGet (mo mi : EM) : EM := fun L O => (mo L O).bind fun x O1 => (mi L O1).bind fun y O2 => match dctOf O2 x, keyD y with
  | some kvs, some k => match valD kvs k with
    | some d => .ok d O2
    | none => .bad
  | _, _ => .bad
def mDIn (yes : Bool) (mi mo : EM) : EM := fun L O => (mi L O).bind fun y O1 => (mo L O1).bind fun x O2 => match dctOf O2 x, keyD y with
  | some kvs, some k => .ok (.bl ((valD kvs k).isSome == yes)) O2
  | _, _ => .bad
def mDGet1 (mo mi : EM) : EM := fun L O => (mo L O).bind fun x O1 => match dctOf O1 x with
  | some _ => (mi L O1).bind fun y O2 => match dctOf O2 x, keyD y with
    | some kvs, some k => .ok ((valD kvs k).getD .non) O2
    | _, _ => .bad
  | none => .bad
def hdlN : D → Nat
  | .hdl n => n
  | _ => 0
def sDPutM (mo mi mv : EM) : SM := fun L O => ofRes L (mv L O) fun v O1 => ofRes L (mo L O1) fun x O2 => ofRes L (mi L O2) fun y O3 => match dctOf O3 x, keyD y with
  | some kvs, some k => if kvs.length ≤ 1000000 then .next L (O3.set (hdlN x) (.dct (putKD kvs k v))) else .bad
  | _, _ => .bad
section
variable {K : PySem.W.Frag} {ad : Str → Addr} {S : Hp} {r : Rg} {O : Store} {H : Hp}
theorem keyD_rp {d : D} {v : V} {k : Key} (h : keyD d = some k) (p : Rp K S r d v) : v = kV k := by
  cases d <;> cases h
  · exact p
  · exact p
theorem RpP.val {k : Key} : ∀ {fs : List (Key × D)} {gs : List (Key × V)}, RpP K S r fs gs → (∀ d, valD fs k = some d → ∃ v, valV gs k = some v ∧ Rp K S r d v) ∧ (valD fs k = none → valV gs k = none)
  | [], gs, h => by
    rw [show gs = [] from h]
    exact ⟨fun d e => (by cases e), fun _ => rfl⟩
  | (g, x) :: fs, gs, h => by
    obtain ⟨v, gr, rfl, h1, h2⟩ := h
    obtain ⟨i1, i2⟩ := RpP.val (k := k) h2
    by_cases e : g = k
    · have e1 : valD ((g, x) :: fs) k = some x := by simp [valD, List.find?_cons, e]
      have e2 : valV ((g, v) :: gr) k = some v := valV_pos e
      exact ⟨fun d hd => ⟨v, e2, by rw [e1] at hd; cases hd; exact h1⟩, fun hn => by rw [e1] at hn; cases hn⟩
    · have e1 : valD ((g, x) :: fs) k = valD fs k := by simp [valD, List.find?_cons, e]
      have e2 : valV ((g, v) :: gr) k = valV gr k := valV_neg e
      rw [e1, e2]
      exact ⟨i1, i2⟩
theorem RpP.keys {κ : Type} : ∀ {fs : List (κ × D)} {gs : List (κ × V)}, RpP K S r fs gs → gs.map (·.1) = fs.map (·.1)
  | [], gs, h => by rw [show gs = [] from h]; rfl
  | (g, x) :: fs, gs, h => by
    obtain ⟨v, gr, rfl, h1, h2⟩ := h
    rw [List.map_cons, List.map_cons, RpP.keys h2]
theorem any_keys {α β : Type} {k : Key} {fs : List (Key × α)} {gs : List (Key × β)} (h : gs.map (·.1) = fs.map (·.1)) : (gs.any fun kv => decide (kv.1 = k)) = (fs.any fun kv => decide (kv.1 = k)) := by
  have e : ∀ {γ : Type} (l : List (Key × γ)), (l.any fun kv => decide (kv.1 = k)) = (l.map (·.1)).any fun x => decide (x = k) := fun l => by rw [List.any_map]; rfl
  rw [e, e, h]
theorem RpP.mapPut {k : Key} {d : D} {v : V} (hv : Rp K S r d v) : ∀ {fs : List (Key × D)} {gs : List (Key × V)}, RpP K S r fs gs → RpP K S r (fs.map fun kv => if kv.1 = k then (kv.1, d) else kv) (gs.map fun kv => if kv.1 = k then (kv.1, v) else kv)
  | [], gs, h => by rw [show gs = [] from h]; exact rfl
  | (g, x) :: fs, gs, h => by
    obtain ⟨u, gr, rfl, h1, h2⟩ := h
    rw [List.map_cons, List.map_cons]
    by_cases e : g = k
    · exact ⟨v, _, by simp [e], by simpa [e] using hv, RpP.mapPut hv h2⟩
    · exact ⟨u, _, by simp [e], by simpa [e] using h1, RpP.mapPut hv h2⟩
theorem RpP.snoc {k : Key} {d : D} {v : V} (hv : Rp K S r d v) : ∀ {fs : List (Key × D)} {gs : List (Key × V)}, RpP K S r fs gs → RpP K S r (fs ++ [(k, d)]) (gs ++ [(k, v)])
  | [], gs, h => by rw [show gs = [] from h]; exact ⟨v, [], rfl, hv, rfl⟩
  | (g, x) :: fs, gs, h => by
    obtain ⟨u, gr, rfl, h1, h2⟩ := h
    exact ⟨u, gr ++ [(k, v)], rfl, h1, RpP.snoc hv h2⟩
theorem RpP.putK {k : Key} {d : D} {v : V} {fs : List (Key × D)} {gs : List (Key × V)} (hv : Rp K S r d v) (h : RpP K S r fs gs) : RpP K S r (putKD fs k d) (L2.putK gs k v) := by
  unfold putKD L2.putK
  rw [any_keys (RpP.keys h)]
  split
  · exact RpP.mapPut hv h
  · exact RpP.snoc hv h
theorem dct_at (rs : Rs K ad S r O H) {d : D} {x : V} {kvs : List (Key × D)} (p : Rp K S r d x) (h : dctOf O d = some kvs) : ∃ n a ks, d = .hdl n ∧ x = .ref a ∧ r.l[n]? = some a ∧ S a = none ∧ H a = some (.dK ks) ∧ RpP K S r kvs ks := by
  cases d with
  | hdl n =>
    replace h : (match O[n]? with | some (.dct kvs) => some kvs | _ => none) = some kvs := h
    split at h
    · rename_i ks hk
      cases h
      obtain ⟨a, rfl, h1, h2, us, h3, h4⟩ := hdl_at rs p hk
      exact ⟨n, a, us, rfl, rfl, h1, h2, h3, h4⟩
    · cases h
  | non => cases h
  | bl b => cases h
  | int i => cases h
  | str s => cases h
  | lst s => cases h
  | rol s => cases h
  | tup s => cases h
end
section
variable {X : Cx} {ad : Str → Addr} {J : JP} {W : WX} {pos p p2 apos cpos tpos pos' : Pos} {a b e o i value f : Expr} {es : List Expr} {m me mo mi mv mf : EM} {mt : AM}
theorem de_dnew : PE X (.Dict [] [] pos) (tE X.K ad J W mDNew) := by
  refine pe_imp pe_dnewK ?_
  rintro σ H Q ⟨S, r, L, O, j, rl, rs, q⟩ p hp
  replace q : Post X.K ad (fun S r => Rp X.K S r) W σ S r Q (.ok (.hdl O.length) (O ++ [.dct []])) := q
  refine q S (r.push p) _ _ (Ext.push S r p) (rs.push hp ⟨rs.fresh hp, [], upd_same, rfl⟩) ⟨p, rfl, ?_⟩
  show (r.l ++ [p])[O.length]? = some p
  rw [← rs.len, List.getElem?_append_right (Nat.le_refl _)]
  simp
theorem de_dget (hu : X.A.units + 1 < cLine) (ho : PE X o (tE X.K ad J W mo)) (hi : PE X i (tE X.K ad J W mi)) (hs : NoSl i := by intro _ _; rfl) : PE X (.Subscript o i pos) (tE X.K ad J W (mDGet mo mi)) := by
  refine pe_imp (pe_dget hu ho hi hs) ?_
  rintro σ H Q ⟨S, r, L, O, j, rl, rs, q⟩
  refine ⟨S, r, L, O, j, rl, rs, (Post.bind q).imp ?_⟩
  rintro x H1 ⟨S1, r1, d, O1, e1, s1, p1, q1⟩
  refine ⟨S1, r1, L, O1, J.mono e1.s j, rl.mono e1, s1, (Post.bind q1).imp ?_⟩
  rintro y H2 ⟨S2, r2, d2, O2, e2, s2, p2, q2⟩
  split at q2
  · rename_i kvs k hk hy
    obtain ⟨n, a, ks, rfl, rfl, h1, h2, h3, h4⟩ := dct_at s2 (Rp.mono e2 _ _ p1) hk
    split at q2
    · rename_i v hv
      obtain ⟨u, hu1, hu2⟩ := h4.val.1 v hv
      exact ⟨a, u, rfl, by rw [keyD_rp hy p2, ← hu1]; exact DGet.k h3, q2 S2 r2 H2 u (Ext.refl _ _) s2 hu2⟩
    · exact q2.elim
  · exact q2.elim
theorem din_imp {yes : Bool} : ∀ σ H Q, tE X.K ad J W (mDIn yes mi mo) σ H Q → (tE X.K ad J W mi) σ H fun y H1 => (tE X.K ad J W mo) σ H1 fun x H2 => ∃ a o, x = .ref a ∧ DGet H2 a y o ∧ Q (.bl (o.isSome == yes)) H2 := by
  rintro σ H Q ⟨S, r, L, O, j, rl, rs, q⟩
  refine ⟨S, r, L, O, j, rl, rs, (Post.bind q).imp ?_⟩
  rintro y H1 ⟨S1, r1, d, O1, e1, s1, p1, q1⟩
  refine ⟨S1, r1, L, O1, J.mono e1.s j, rl.mono e1, s1, (Post.bind q1).imp ?_⟩
  rintro x H2 ⟨S2, r2, d2, O2, e2, s2, p2, q2⟩
  split at q2
  · rename_i kvs k hk hy
    obtain ⟨n, a, ks, rfl, rfl, h1, h2, h3, h4⟩ := dct_at s2 p2 hk
    refine ⟨a, valV ks k, rfl, by rw [keyD_rp hy (Rp.mono e2 _ _ p1)]; exact DGet.k h3, ?_⟩
    have es : (valV ks k).isSome = (valD kvs k).isSome := by
      cases hv : valD kvs k with
      | some v =>
        obtain ⟨u, hu1, _⟩ := h4.val.1 v hv
        rw [hu1]; rfl
      | none => rw [h4.val.2 hv]; rfl
    rw [es]
    exact q2 S2 r2 H2 _ (Ext.refl _ _) s2 rfl
  · exact q2.elim
theorem dt_din (hu : X.A.units + 1 < cLine) (hi : PE X i (tE X.K ad J W mi)) (ho : PE X o (tE X.K ad J W mo)) (hm : behindInMarks .In o = false) : PT X (.Compare i [.In] [o] pos) (tT X.K ad J W (mTest (mDIn true mi mo))) := by
  refine pt_imp (pt_cmp (pc_din hu hi ho) hm) (test_imp (t := tDIn (tE X.K ad J W mi) (tE X.K ad J W mo)) fun σ H Q h => ?_)
  obtain ⟨S, r, L, O, j, rl, rs, q⟩ := din_imp σ H Q h
  refine ⟨S, r, L, O, j, rl, rs, q.imp ?_⟩
  rintro y H1 ⟨S1, r1, L1, O1, j1, rl1, rs1, q1⟩
  refine ⟨S1, r1, L1, O1, j1, rl1, rs1, q1.imp ?_⟩
  rintro x H2 ⟨a, v, e1, e2, e3⟩
  exact ⟨a, v, e1, e2, by cases v <;> exact e3⟩
theorem dt_dnotin (hu : X.A.units + 1 < cLine) (hi : PE X i (tE X.K ad J W mi)) (ho : PE X o (tE X.K ad J W mo)) (hm : behindInMarks .NotIn o = false) : PT X (.Compare i [.NotIn] [o] pos) (tT X.K ad J W (mTest (mDIn false mi mo))) := by
  refine pt_imp (pt_cmp (pc_dnotin hu hi ho) hm) (test_imp (t := tDNotIn (tE X.K ad J W mi) (tE X.K ad J W mo)) fun σ H Q h => ?_)
  obtain ⟨S, r, L, O, j, rl, rs, q⟩ := din_imp σ H Q h
  refine ⟨S, r, L, O, j, rl, rs, q.imp ?_⟩
  rintro y H1 ⟨S1, r1, L1, O1, j1, rl1, rs1, q1⟩
  refine ⟨S1, r1, L1, O1, j1, rl1, rs1, q1.imp ?_⟩
  rintro x H2 ⟨a, v, e1, e2, e3⟩
  exact ⟨a, v, e1, e2, by cases v <;> exact e3⟩
theorem ds_dput (hu : X.A.units + 1 < cLine) (ho : PE X o (tE X.K ad J W mo)) (hi : PE X i (tE X.K ad J W mi)) (hv : PE X value (tE X.K ad J W mv)) (hs : swapsWith value (some (.Subscript o i pos')) pos.line X.env = pure false := by rfl) :
    PS X (.Assign [.Subscript o i pos'] value pos) (tS X.K ad J W (sDPutM mo mi mv)) := by
  refine ps_imp (ps_dput hu ho hi hv hs) ?_
  rintro En σ H ⟨S, r, L, O, j, rl, rs, q⟩
  refine ⟨S, r, L, O, j, rl, rs, (bindS j rl q).imp ?_⟩
  rintro v H1 ⟨S1, r1, dv, O1, e1, s1, p1, q1⟩
  refine ⟨S1, r1, L, O1, J.mono e1.s j, rl.mono e1, s1, (bindS (J.mono e1.s j) (rl.mono e1) q1).imp ?_⟩
  rintro x H2 ⟨S2, r2, dx, O2, e2, s2, p2, q2⟩
  refine ⟨S2, r2, L, O2, J.mono (e1.trans e2).s j, rl.mono (e1.trans e2), s2, (bindS (J.mono (e1.trans e2).s j) (rl.mono (e1.trans e2)) q2).imp ?_⟩
  rintro y H3 ⟨S3, r3, dy, O3, e3, s3, p3, q3⟩
  split at q3
  · rename_i kvs k hk hy
    obtain ⟨n, a, ks, rfl, rfl, h1, h2, h3, h4⟩ := dct_at s3 (Rp.mono e3 _ _ p2) hk
    split at q3
    · rename_i hl
      have pv := Rp.mono (e2.trans e3) _ _ p1
      refine ⟨a, _, rfl, by rw [keyD_rp hy p3]; exact DPut.k h3 (by rw [RpP.length h4]; exact million_lt hl), ?_⟩
      exact q3 S3 r3 σ _ (Ext.refl _ _) (J.mono (e1.trans (e2.trans e3)).s j) (rl.mono (e1.trans (e2.trans e3))) (s3.write h1 h2 ⟨h2, _, upd_same, h4.putK pv⟩)
    · exact q3.elim
  · exact q3.elim
theorem isD_of {S : Hp} {r : Rg} {O : Store} {H : Hp} {d : D} {x : V} {kvs : List (Key × D)} (rs : Rs X.K ad S r O H) (p : Rp X.K S r d x) (h : dctOf O d = some kvs) : ∃ a, x = .ref a ∧ IsD H a := by
  obtain ⟨n, a, ks, rfl, rfl, h1, h2, h3, h4⟩ := dct_at rs p h
  exact ⟨a, rfl, .inl ⟨ks, .inl h3⟩⟩
theorem dget_fin {S : Hp} {r : Rg} {O : Store} {H : Hp} {d dy z : D} {a : Addr} {y vz : V} {kvs : List (Key × D)} {k : Key} {σ : L2.St} {Q : VK} (rs : Rs X.K ad S r O H) (p : Rp X.K S r d (.ref a)) (hk : dctOf O d = some kvs) (hy : keyD dy = some k) (py : Rp X.K S r dy y) (pz : Rp X.K S r z vz)
    (q : Post X.K ad (fun S r => Rp X.K S r) W σ S r Q (.ok ((valD kvs k).getD z) O)) : ∃ o, DGet H a y o ∧ Q (o.getD vz) H := by
  obtain ⟨n, a', ks, rfl, e, h1, h2, h3, h4⟩ := dct_at rs p hk
  cases e
  refine ⟨valV ks k, by rw [keyD_rp hy py]; exact DGet.k h3, ?_⟩
  cases hv : valD kvs k with
  | some v =>
    obtain ⟨u, hu1, hu2⟩ := h4.val.1 v hv
    rw [hv] at q
    rw [hu1]
    exact q S r H u (Ext.refl _ _) rs hu2
  | none =>
    rw [hv] at q
    rw [h4.val.2 hv]
    exact q S r H vz (Ext.refl _ _) rs pz
theorem de_dget1 (hu : X.A.units + 1 < cLine) (ho : PE X o (tE X.K ad J W mo)) (hi : PE X e (tE X.K ad J W mi)) (m : M1 X o "get" apos e cpos := by exact ⟨rfl, rfl, rfl, rfl⟩) : PE X (.Call (.Attribute o "get" apos) [e] [] cpos) (tE X.K ad J W (mDGet1 mo mi)) := by
  refine pe_imp (pe_dget1 hu ho hi m) ?_
  rintro σ H Q ⟨S, r, L, O, j, rl, rs, q⟩
  refine ⟨S, r, L, O, j, rl, rs, (Post.bind q).imp ?_⟩
  rintro x H1 ⟨S1, r1, d, O1, e1, s1, p1, q1⟩
  split at q1
  · rename_i kvs hk
    obtain ⟨a, rfl, hd⟩ := isD_of s1 p1 hk
    refine ⟨a, rfl, hd, S1, r1, L, O1, J.mono e1.s j, rl.mono e1, s1, (Post.bind q1).imp ?_⟩
    rintro y H2 ⟨S2, r2, dy, O2, e2, s2, p2, q2⟩
    split at q2
    · rename_i kvs2 k hk2 hy
      exact dget_fin (z := .non) s2 (Rp.mono e2 _ _ p1) hk2 hy p2 rfl q2
    · exact q2.elim
  · exact q1.elim
end
/-! ### list, dict, sorted -/
def gDictD : Store → D → Option (D × Store) := fun O d => match dctOf O d with
  | some kvs => some (.hdl O.length, O ++ [.dct kvs])
  | none => none
def inrs : List Key → Option (List Str)
  | [] => some []
  | .inr s :: ks => (inrs ks).map (s :: ·)
  | .inl _ :: _ => none
def strsD : List D → Option (List Str)
  | [] => some []
  | .str s :: ds => (strsD ds).map (s :: ·)
  | _ => none
/-- texts in order -/
def leS (a b : Str) : Bool := !decide (b.cps.toList < a.cps.toList)
def sortS (l : List Str) : List Str := l.mergeSort leS
def sortI (l : List Int) : List Int := l.mergeSort fun a b => decide (a ≤ b)
/-- sorted: of a list of texts (fewer than 64), of ints, of a dict by texts -/
def gSorted (h : Bool) : Store → D → Option (D × Store) := fun O d => match dctOf O d with
  | some kvs => match inrs (kvs.map (·.1)) with
    | some ks => if ks.length < 64 then newLO h ((sortS ks).map .str) O else none
    | none => none
  | none => match lsqOf O d with
    | some xs => match intsOf xs with
      | some ns => if ns.length ≤ 1000000 then newLO h ((sortI ns).map .int) O else none
      | none => match strsD xs with
        | some ks => if ks.length < 64 then newLO h ((sortS ks).map .str) O else none
        | none => none
    | none => none
theorem strsD_rp {K : PySem.W.Frag} {S : Hp} {r : Rg} : ∀ {ds : List D} {vs : List V} {ns : List Str}, RpAll K S r ds vs → strsD ds = some ns → vs = ns.map V.str
  | [], vs, ns, h, e => by cases e; exact h
  | .str i :: ds, vs, ns, h, e => by
    obtain ⟨v, vr, rfl, rfl, h2⟩ := h
    have e : (strsD ds).map (i :: ·) = some ns := e
    obtain ⟨ms, e1, rfl⟩ := Option.map_eq_some_iff.mp e
    rw [strsD_rp h2 e1]
    rfl
  | .non :: _, _, _, _, e => by cases e
  | .int _ :: _, _, _, _, e => by cases e
  | .bl _ :: _, _, _, _, e => by cases e
  | .lst _ :: _, _, _, _, e => by cases e
  | .rol _ :: _, _, _, _, e => by cases e
  | .tup _ :: _, _, _, _, e => by cases e
  | .hdl _ :: _, _, _, _, e => by cases e
theorem strV_rp {K : PySem.W.Frag} {S : Hp} {r : Rg} : ∀ ys : List Str, RpAll K S r (ys.map D.str) (ys.map V.str)
  | [] => rfl
  | _ :: ys => ⟨_, _, rfl, rfl, strV_rp ys⟩
theorem intV_rp {K : PySem.W.Frag} {S : Hp} {r : Rg} : ∀ ys : List Int, RpAll K S r (ys.map D.int) (ys.map V.int)
  | [] => rfl
  | _ :: ys => ⟨_, _, rfl, rfl, intV_rp ys⟩
theorem inrs_map : ∀ {ks : List Key} {ns : List Str}, inrs ks = some ns → ks = ns.map Sum.inr
  | [], ns, e => by cases e; rfl
  | .inr s :: ks, ns, e => by
    have e : (inrs ks).map (s :: ·) = some ns := e
    obtain ⟨ms, e1, rfl⟩ := Option.map_eq_some_iff.mp e
    rw [inrs_map e1]
    rfl
  | .inl _ :: _, _, e => by cases e
/-- two orders of the same things are one, if the order is total -/
theorem perm_sorted {α : Type} {le : α → α → Prop} (anti : ∀ a b, le a b → le b a → a = b) : ∀ (l m : List α), l.Perm m → l.Pairwise le → m.Pairwise le → l = m
  | [], m, p, _, _ => (List.nil_perm.mp p).symm ▸ rfl
  | a :: l, [], p, _, _ => by cases List.perm_nil.mp p
  | a :: l, b :: m, p, hl, hm => by
    obtain ⟨l1, l2⟩ := List.pairwise_cons.mp hl
    obtain ⟨m1, m2⟩ := List.pairwise_cons.mp hm
    have e : a = b := by
      have ha := (p.mem_iff (a := a)).mp List.mem_cons_self
      have hb := (p.mem_iff (a := b)).mpr List.mem_cons_self
      rcases List.mem_cons.mp ha with e | ha
      · exact e
      · rcases List.mem_cons.mp hb with e | hb
        · exact e.symm
        · exact anti a b (l1 b hb) (m1 a ha)
    subst e
    rw [perm_sorted anti l m (List.Perm.cons_inv p) l2 m2]
theorem leS_total (a b : Str) : (leS a b || leS b a) = true := by
  unfold leS
  by_cases h : b.cps.toList < a.cps.toList
  · have : ¬ a.cps.toList < b.cps.toList := fun z => (List.lt_asymm h) z
    simp [h, this]
  · simp [h]
theorem leS_anti (a b : Str) (h1 : leS a b = true) (h2 : leS b a = true) : a = b := by
  unfold leS at h1 h2
  have e : a.cps.toList = b.cps.toList := List.le_antisymm (by simpa using h1) (by simpa using h2)
  obtain ⟨⟨x⟩⟩ := a
  obtain ⟨⟨y⟩⟩ := b
  cases e
  rfl
theorem leS_iff (a b : Str) : leS a b = true ↔ ¬ b.cps.toList < a.cps.toList := by
  unfold leS
  by_cases h : b.cps.toList < a.cps.toList
  · rw [decide_eq_true h]
    exact ⟨fun z => (by cases z), fun z => absurd h z⟩
  · rw [decide_eq_false h]
    exact ⟨fun _ => h, fun _ => rfl⟩
theorem leS_trans (a b c : Str) (h1 : leS a b = true) (h2 : leS b c = true) : leS a c = true := by
  rw [leS_iff] at *
  exact List.not_lt.mpr (List.le_trans (List.not_lt.mp h1) (List.not_lt.mp h2))
theorem ltCps_lt : ∀ a b : List Nat, PySem.Spec.ltCps a b = decide (a < b)
  | [], [] => by simp [PySem.Spec.ltCps]
  | [], _ :: _ => by simp [PySem.Spec.ltCps]
  | _ :: _, [] => by simp [PySem.Spec.ltCps]
  | x :: a, y :: b => by
    rw [PySem.Spec.ltCps, ltCps_lt a b]
    by_cases h : x < y
    · simp [List.cons_lt_cons_iff, h]
    · by_cases h2 : x = y
      · subst h2
        simp [List.cons_lt_cons_iff]
      · simp [List.cons_lt_cons_iff, h, h2]
theorem risingS_pw : ∀ (p : Str) (l : List Str), PyProof.Rows.risingS p l = true → l.Pairwise (fun a b => leS a b = true) ∧ ∀ x ∈ l, leS p x = true
  | p, [], _ => ⟨.nil, fun x h => by cases h⟩
  | p, x :: l, h => by
    have h' : (!PySem.Spec.ltCps x.cps.toList p.cps.toList && PyProof.Rows.risingS x l) = true := h
    obtain ⟨h1, h2⟩ := Bool.and_eq_true_iff.mp h'
    rw [ltCps_lt] at h1
    obtain ⟨i1, i2⟩ := risingS_pw x l h2
    refine ⟨List.pairwise_cons.mpr ⟨i2, i1⟩, fun y hy => ?_⟩
    rcases List.mem_cons.mp hy with rfl | hy
    · exact h1
    · exact leS_trans _ _ _ h1 (i2 y hy)
theorem sortedS_pw : ∀ (l : List Str), PyProof.Rows.sortedS l = true → l.Pairwise (fun a b => leS a b = true)
  | [], _ => .nil
  | x :: l, h => by
    obtain ⟨i1, i2⟩ := risingS_pw x l h
    exact List.pairwise_cons.mpr ⟨i2, i1⟩
theorem sortS_is {ys ks : List Str} (p : ys.Perm ks) (h : PyProof.Rows.sortedS ys = true) : ys = sortS ks :=
  perm_sorted (le := fun a b => leS a b = true) leS_anti ys (sortS ks) (p.trans (List.mergeSort_perm ks leS).symm) (sortedS_pw ys h) (List.pairwise_mergeSort leS_trans leS_total ks)
theorem sortI_is {ys ks : List Int} (p : ys.Perm ks) (h : ys.Pairwise (· ≤ ·)) : ys = sortI ks :=
  perm_sorted (le := fun a b : Int => a ≤ b) (fun a b => Int.le_antisymm) ys (sortI ks) (p.trans (List.mergeSort_perm ks _).symm) h
    ((List.pairwise_mergeSort (le := fun a b : Int => decide (a ≤ b)) (fun a b c h1 h2 => decide_eq_true (Int.le_trans (of_decide_eq_true h1) (of_decide_eq_true h2))) (fun a b => by
      rcases Int.le_total a b with h | h
      · simp [h]
      · simp [h]) ks).imp fun h => of_decide_eq_true h)
section
variable {X : Cx} {ad : Str → Addr} {J : JP} {W : WX}
theorem new_obj {S : Hp} {r : Rg} {O : Store} {H : Hp} {σ : L2.St} {Q : VK} {o : Ob} {u : HO} (rs : Rs X.K ad S r O H) (q : Post X.K ad (fun S r => Rp X.K S r) W σ S r Q (.ok (.hdl O.length) (O ++ [o]))) (ho : ∀ p, H p = none → RO X.K ad S (r.push p) (upd H p u) p o) : ∀ p, H p = none → Q (.ref p) (upd H p u) := fun p hp => by
  refine q S (r.push p) _ _ (Ext.push S r p) (rs.push hp (ho p hp)) ⟨p, rfl, ?_⟩
  show (r.l ++ [p])[O.length]? = some p
  rw [← rs.len, List.getElem?_append_right (Nat.le_refl _)]
  simp
theorem cd_sorted (h : Bool) (hc : X.calm = true) : CallD X ad (.builtin "sorted") (g1 (gSorted h)) := cd_1 (CallR.or (call_sortedD hc) (CallR.or cr_sortedI cr_sortedS)) fun S r O H x d W σ Q rs p q => by
  unfold gSorted at q
  split at q
  · rename_i kvs hk
    obtain ⟨n, a, ks, rfl, rfl, h1, h2, h3, h4⟩ := dct_at rs p hk
    split at q
    · rename_i zs hz
      split at q
      · rename_i hl
        rw [ofO_newLO] at q
        refine .inl ⟨a, ks, zs, rfl, .inl h3, by rw [RpP.keys h4, inrs_map hz], hl, fun ys p hp hs hn => ?_⟩
        rw [sortS_is hp hs]
        exact (newL_post rs (strV_rp _) q).2 p hn
      · exact q.elim
    · exact q.elim
  · split at q
    · rename_i xs hx
      obtain ⟨a, vs, rfl, h1, h2⟩ := lsqOf_ok rs p hx
      split at q
      · rename_i ns hn
        split at q
        · rw [ofO_newLO] at q
          rw [intsOf_rp h2 hn] at h1
          refine .inr (.inl ⟨a, ns, rfl, h1, fun ys p hp hs hnn => ?_⟩)
          rw [sortI_is hp hs]
          exact (newL_post rs (intV_rp _) q).2 p hnn
        · exact q.elim
      · split at q
        · rename_i ks hks
          split at q
          · rename_i hl
            rw [ofO_newLO] at q
            rw [strsD_rp h2 hks] at h1
            refine .inr (.inr ⟨a, ks, rfl, h1, hl, fun ys p hp hs hn => ?_⟩)
            rw [sortS_is hp hs]
            exact (newL_post rs (strV_rp _) q).2 p hn
          · exact q.elim
        · exact q.elim
    · exact q.elim
theorem cd_dictD : CallD X ad (.type "dict") (g1 gDictD) := cd_1 call_dictD fun S r O H x d W σ Q rs p q => by
  unfold gDictD at q
  split at q
  · rename_i kvs hk
    obtain ⟨n, a, ks, rfl, rfl, h1, h2, h3, h4⟩ := dct_at rs p hk
    exact ⟨a, ks, rfl, .inl h3, new_obj rs q fun p hp => ⟨rs.fresh hp, ks, upd_same, RpP.monoW (Same.refl S) (List.prefix_append r.l [p]) _ _ h4⟩⟩
  · exact q.elim
end
end DK
end
section
set_option Elab.async false
set_option linter.all false
set_option autoImplicit false
set_option maxRecDepth 100000
set_option maxHeartbeats 4000000
/-! DKConv: tuple(list), and other conversions, by mirrors. -/
namespace DK
open PySem L2
theorem un1 {k : Nat} {A : Around} (r : Room k A) : A.units + 1 < cLine := by have := r.un; omega
end DK
end
section
set_option Elab.async false
set_option linter.all false
set_option autoImplicit false
set_option maxRecDepth 100000
set_option maxHeartbeats 4000000
/-! DKMin: min and max of two texts, by mirrors. -/
namespace DK
open PySem PySem.Spec PyProof.Rows L2
def ltSV (a b : Str) : Bool := decide (a.cps.toList < b.cps.toList)
end DK
end
section
set_option Elab.async false
set_option linter.all false
set_option autoImplicit false
set_option maxRecDepth 100000
set_option maxHeartbeats 4000000
/-! DKFrz: a list of the store that nobody writes any more is let be for good. -/
namespace DK
open PySem L2
end DK
end
section
set_option Elab.async false
set_option linter.all false
set_option autoImplicit false
set_option maxRecDepth 100000
set_option maxHeartbeats 4000000
/-! DKRev: list(reversed(a list)), by mirrors. -/
namespace DK
open PySem PySem.Spec PyProof.Rows L2 RT
end DK
end
section
set_option Elab.async false
set_option linter.all false
set_option autoImplicit false
set_option maxRecDepth 100000
set_option maxHeartbeats 4000000
/-! DKOwn: == by an own __eq__, isinstance of an own class, remove from a list of texts; by mirrors. -/
namespace DK
open PySem L2
/-! ### remove from a list of texts -/
end DK
end
section
set_option Elab.async false
set_option linter.all false
set_option autoImplicit false
set_option maxRecDepth 100000
set_option maxHeartbeats 4000000
/-! DKMany: several except clauses, by mirrors; suites that are never asked. -/
namespace DK
open PySem L2
/-- a clause: which classes it takes, and its suite's mirrors -/
structure HdM where
  sub : Str → Option Bool
  ss : Str → SM
section
variable {X : Cx} {ad : Str → Addr} {J : JP} {W : WX} {pos : Pos} {body : List Stmt} {sb : SM} {st : List Stmt}
/-- the clauses, one by one -/
inductive HdsD (X : Cx) (ad : Str → Addr) : List ExceptHandler → List HdM → List (Value × (Addr → Value → Option Addr → TS)) → Prop
  | nil : HdsD X ad [] [] []
  | cons {x : Str} {cv : Value} {h : HdM} {b0 : Stmt} {suite : List Stmt} {np pos' : Pos} {hds : List ExceptHandler} {ms : List HdM} {l : List (Value × (Addr → Value → Option Addr → TS))} (hc : Names X x cv)
      (hsub : ∀ nm b, h.sub nm = some b → PySem.W.exmOne X.K (.ref (ad nm)) cv = some b)
      (hsu : ∀ (nm : Str) (a : Addr) (oe : Obj) (pn : List (Addr × Obj)), h.sub nm = some true → Zc (.ref (ad nm)) none oe → (∃ vs, oe.data = .fields vs) → PSs (X.suite a ((a, oe) :: pn)) (b0 :: suite) (tS X.K ad JT WF (h.ss nm)))
      (r : HdsD X ad hds ms l) : HdsD X ad (.ExceptHandler (some (.Name x np)) none (b0 :: suite) pos' :: hds) (h :: ms)
        ((cv, fun a cls d En σ H => ∃ nm : Str, (cls = .ref (ad nm) ∧ d = none ∧ h.sub nm = some true) ∧ tS X.K ad JT WF (h.ss nm) En σ H) :: l)
theorem HdsD.ok {hds : List ExceptHandler} {ms : List HdM} {l : List (Value × (Addr → Value → Option Addr → TS))} (k : HdsD X ad hds ms l) : HdsOk X hds l := by
  induction k with
  | nil => exact .nil
  | cons hc hsub hsu r ih =>
    refine .cons hc (fun a oe cls d pn hz hfl => ?_) ih
    exact pss_ex fun nm hp => by
      obtain ⟨rfl, rfl, h3⟩ := hp
      exact hsu nm a oe pn h3 hz hfl
end
end DK
end
section
set_option Elab.async false
set_option linter.all false
set_option autoImplicit false
set_option maxRecDepth 100000
set_option maxHeartbeats 4000000
/-! DKSortD: sorted and min of lists of alike data (tuples of ints and texts, any length), by mirrors. -/
namespace DK
open PySem PySem.Spec PyProof.Rows L2 PySem.W
/-! ### min -/
/-! ### sorted of a dict by texts, any length -/
end DK
end
section
set_option Elab.async false
set_option linter.all false
set_option autoImplicit false
set_option maxRecDepth 100000
set_option maxHeartbeats 4000000
/-! DKLock: comprehensions over a dict of the store, which is locked meanwhile; by mirrors. -/
namespace DK
open PySem L2
/-- S without what stands at a -/
def del (S : Hp) (a : Addr) : Hp := fun b => if b = a then none else S b
theorem del_ne {S : Hp} {a b : Addr} (h : b ≠ a) : del S a b = S b := if_neg h
theorem del_at {S : Hp} {a : Addr} : del S a a = none := if_pos rfl
section
variable {K : PySem.W.Frag} {ad : Str → Addr} {S : Hp} {r : Rg} {a : Addr} {od : Obj} {ks : List (Key × V)}
theorem sqL_del {b : Addr} {vs : List V} (ha : S a = some (.frz od (.dK ks))) (h : SqL K S b vs) : SqL K (del S a) b vs := by
  rcases h with (h | ⟨o, h⟩) | h
  · exact .inl (.inl (by rw [del_ne (fun z => by rw [z, ha] at h; cases h)]; exact h))
  · exact .inl (.inr ⟨o, by rw [del_ne (fun z => by rw [z, ha] at h; cases h)]; exact h⟩)
  · exact .inr h
theorem sqT_del {b : Addr} {vs : List V} (ha : S a = some (.frz od (.dK ks))) (h : SqT K S b vs) : SqT K (del S a) b vs := by
  rcases h with (h | ⟨o, h⟩) | h
  · exact .inl (.inl (by rw [del_ne (fun z => by rw [z, ha] at h; cases h)]; exact h))
  · exact .inl (.inr ⟨o, by rw [del_ne (fun z => by rw [z, ha] at h; cases h)]; exact h⟩)
  · exact .inr h
mutual
theorem rp_del (ha : S a = some (.frz od (.dK ks))) : ∀ (d : D) (v : V), Rp K S r d v → Rp K (del S a) r d v
  | .non, v, h => h
  | .bl b, v, h => h
  | .int i, v, h => h
  | .str z, v, h => h
  | .lst ds, v, h => by
    obtain ⟨b, vs, q1, q2, q3⟩ := h
    exact ⟨b, vs, q1, by rw [del_ne (fun z => by rw [z, ha] at q2; cases q2)]; exact q2, rpAll_del ha ds vs q3⟩
  | .rol ds, v, h => by
    obtain ⟨b, vs, q1, q2, q3⟩ := h
    exact ⟨b, vs, q1, sqL_del ha q2, rpAll_del ha ds vs q3⟩
  | .tup ds, v, h => by
    obtain ⟨b, vs, q1, q2, q3⟩ := h
    exact ⟨b, vs, q1, sqT_del ha q2, rpAll_del ha ds vs q3⟩
  | .hdl n, v, h => h
theorem rpAll_del (ha : S a = some (.frz od (.dK ks))) : ∀ (ds : List D) (vs : List V), RpAll K S r ds vs → RpAll K (del S a) r ds vs
  | [], vs, h => h
  | d :: ds, vs, h => by
    obtain ⟨v, vr, q1, q2, q3⟩ := h
    exact ⟨v, vr, q1, rp_del ha d v q2, rpAll_del ha ds vr q3⟩
end
theorem rpP_del {κ : Type} (ha : S a = some (.frz od (.dK ks))) : ∀ (ds : List (κ × D)) (vs : List (κ × V)), RpP K S r ds vs → RpP K (del S a) r ds vs
  | [], vs, h => h
  | d :: ds, vs, h => by
    obtain ⟨v, vr, q1, q2, q3⟩ := h
    exact ⟨v, vr, q1, rp_del ha d.2 v q2, rpP_del ha ds vr q3⟩
theorem ro_del {H : Hp} {b : Addr} {ob : Ob} {u : HO} (ha : S a = some (.frz od (.dK ks))) (hb : b ≠ a) (h : RO K ad S r H b ob) : RO K ad (del S a) r (upd H a u) b ob := by
  cases ob with
  | lst ds => obtain ⟨z, vs, q, p⟩ := h; exact ⟨by rw [del_ne hb]; exact z, vs, by rw [upd_ne hb]; exact q, rpAll_del ha _ _ p⟩
  | dct kvs => obtain ⟨z, vs, q, p⟩ := h; exact ⟨by rw [del_ne hb]; exact z, vs, by rw [upd_ne hb]; exact q, rpP_del ha _ _ p⟩
  | ins c fs => obtain ⟨z, dx, vs, q, p⟩ := h; exact ⟨by rw [del_ne hb]; exact z, dx, vs, by rw [upd_ne hb]; exact q, rpP_del ha _ _ p⟩
  | dead => obtain ⟨w, q⟩ := h; exact ⟨w, by rw [upd_ne hb]; exact q⟩
  | fdc kvs => obtain ⟨od', ks', z, q, p⟩ := h; exact ⟨od', ks', by rw [del_ne hb]; exact z, by rw [upd_ne hb]; exact q, rpP_del ha _ _ p⟩
variable {O : Store} {H : Hp} {n : Nat} {kvs : List (Key × D)}
theorem Rs.lock (h : Rs K ad S r O H) (hn : r.l[n]? = some a) (hz : S a = none) (p : RpP K S r kvs ks) : Rs K ad (upd S a (.frz od (.dK ks))) r (O.set n (.fdc kvs)) (upd H a (.frz od (.dK ks))) where
  sub := fun b w e => by
    by_cases hb : b = a
    · rw [hb, upd_same] at e ⊢; exact e
    · rw [upd_ne hb] at e ⊢; exact h.sub b w e
  len := by rw [List.length_set]; exact h.len
  nd := h.nd
  ob := fun m b ob e1 e2 => by
    by_cases hm : m = n
    · subst hm
      rw [hn] at e1
      cases e1
      rw [List.getElem?_set_self (by rw [← h.len]; exact (List.getElem?_eq_some_iff.mp hn).1)] at e2
      cases e2
      exact ⟨od, ks, upd_same, upd_same, RpP.mono (Ext.new hz) _ _ p⟩
    · rw [List.getElem?_set_ne (Ne.symm hm)] at e2
      have ne : b ≠ a := fun z => hm (nd_get h.nd e1 (z ▸ hn))
      exact (h.ob m b ob e1 e2).mono (Ext.new hz) (fun w q => by rw [upd_ne ne]; exact q) (fun q => by rw [upd_ne ne]; exact q)
  fr := same_upd h.fr (h.nofr hn)
  off := fun b o e => ⟨by
    rw [upd_ne (ne_of_none e (h.nofr hn))]
    exact (h.off b o e).1, (h.off b o e).2⟩
theorem Rs.unlock (h : Rs K ad S r O H) (hn : r.l[n]? = some a) (hO : O[n]? = some (.fdc kvs)) (ha : S a = some (.frz od (.dK ks))) : Rs K ad (del S a) r (O.set n (.dct kvs)) (upd H a (.dK ks)) where
  sub := fun b w e => by
    by_cases hb : b = a
    · rw [hb, del_at] at e; cases e
    · rw [del_ne hb] at e; rw [upd_ne hb]; exact h.sub b w e
  len := by rw [List.length_set]; exact h.len
  nd := h.nd
  ob := fun m b ob e1 e2 => by
    by_cases hm : m = n
    · subst hm
      obtain ⟨od', ks', z, q, p⟩ := h.ob m a _ hn hO
      rw [hn] at e1
      cases e1
      rw [List.getElem?_set_self (by rw [← h.len]; exact (List.getElem?_eq_some_iff.mp hn).1)] at e2
      cases e2
      rw [ha] at z
      cases z
      exact ⟨del_at, ks, upd_same, rpP_del ha _ _ p⟩
    · rw [List.getElem?_set_ne (Ne.symm hm)] at e2
      have ne : b ≠ a := fun z => hm (nd_get h.nd e1 (z ▸ hn))
      exact ro_del ha ne (h.ob m b ob e1 e2)
  fr := same_upd h.fr (h.nofr hn)
  off := fun b o e => ⟨by
    rw [del_ne (ne_of_none e (h.nofr hn))]
    exact (h.off b o e).1, (h.off b o e).2⟩
end
/-- .. for x in a dict of the store, locked meanwhile -/
def unlockR (n : Nat) : Res D → Res D
  | .ok d O => match O[n]? with
    | some (.fdc kvs) => .ok d (O.set n (.dct kvs))
    | _ => .bad
  | _ => .bad
def mLcD (h : Bool) (src : EM) (vs : List Nat) (b : BM) (tt : TM) (el : EM) : EM := fun L O => match src L O with
  | .ok (.hdl n) _ => match O[n]? with
    | some (.dct kvs) => match src L (O.set n (.fdc kvs)) with
      | .ok (.hdl n') O1 => if n' = n then unlockR n (lcEnd h (lcG (fun i _ => some (kvs.map fun kv => kD kv.1)[i]?) (lcTurn vs b tt el L) kvs.length 0 O1 [])) else .bad
      | _ => .bad
    | _ => .bad
  | _ => .bad
section
variable {X : Cx} {ad : Str → Addr} {J : JP} {W : WX} {m : EM} {bm : BM} {tm : TM} {me : EM} {elt tg iter : Expr} {ifs : List Expr} {scope : Scope} {own : List (Str × Nat)} {pos : Pos}
theorem lcD_imp {hm : Bool} : ∀ σ H Q, (tE X.K ad J W (mLcD hm m (own.map (·.2)) bm tm me)) σ H Q → tLockE (tLc (iKeys (tE X.K ad J W m)) (tGx X.K ad (own.map (·.2)) bm) (tTx X.K ad (own.map (·.2)) tm) (tEx X.K ad (own.map (·.2)) me) (own.map (·.2))) σ H Q := by
  rintro σ H Q ⟨S, r, L, O, j, rl, rs, z⟩
  unfold mLcD at z
  split at z
  · rename_i n O' hs0
    split at z
    · rename_i kvs hO
      split at z
      · rename_i n' O1 hs1
        split at z
        · rename_i hnn
          subst hnn
          have hlt : n' < r.l.length := by rw [rs.len]; exact (List.getElem?_eq_some_iff.mp hO).1
          obtain ⟨a, hn⟩ : ∃ a, r.l[n']? = some a := ⟨_, List.getElem?_eq_getElem hlt⟩
          obtain ⟨hz, ks, ha, hp⟩ := rs.ob n' a _ hn hO
          refine ⟨a, .dK ks, ha, True.intro, fun od => ?_⟩
          have rsl := rs.lock (od := od) hn hz hp
          have ex : Ext S r (upd S a (.frz od (.dK ks))) r := Ext.new hz
          refine ⟨_, r, L, O.set n' (.fdc kvs), J.mono ex.s j, rl.mono ex, rsl, ?_⟩
          rw [hs1]
          intro S2 r2 H2 v e2 s2 p2
          obtain ⟨a2, rfl, hn2⟩ := p2
          have ea : a2 = a := by
            have := pre_get e2.r hn
            rw [hn2] at this
            exact Option.some.inj this
          subst ea
          have hS2 : S2 a2 = some (.frz od (.dK ks)) := e2.s _ _ upd_same
          refine ⟨a2, od, rfl, .inl ⟨ks, s2.sub _ _ hS2, ?_⟩⟩
          have kl : ks.length = kvs.length := RpP.length hp
          have kk : ks.map (·.1) = kvs.map (·.1) := (RpP.keys hp)
          dsimp only
          refine lc_post (W := W) (hm := hm) (Q := fun v H' => H' a2 = some (.frz od (.dK ks)) ∧ Q v (upd H' a2 (.dK ks))) (It' := Itk a2 od ks) (nx := fun i _ => some (kvs.map fun kv => kD kv.1)[i]?) (k := kvs.length) (fun i S r O H d' es el rs hnx => ?_) (fun i S r O H es el rs hnx => ?_) (rl.mono (ex.trans e2)) s2 ?_
          · have hd : (kvs.map fun kv => kD kv.1)[i]? = some d' := Option.some.inj hnx
            rw [List.getElem?_map] at hd
            obtain ⟨kv, hkv, rfl⟩ := Option.map_eq_some_iff.mp hd
            have hi := (List.getElem?_eq_some_iff.mp hkv).1
            refine ⟨⟨rs.sub _ _ (es _ _ hS2), by omega⟩, fun x H' hyy => ⟨hyy.1, ?_⟩⟩
            obtain ⟨_, k, v, h1, h2⟩ := hyy
            have h3 : (ks.map (·.1))[i]? = some k := by rw [List.getElem?_map, h1]; rfl
            rw [kk, List.getElem?_map, hkv] at h3
            cases h3
            have h4 : ∀ q : Key, Rp X.K S r (kD q) (kV q) := fun q => by cases q <;> rfl
            rw [h2]
            exact h4 _
          · have hd : (kvs.map fun kv => kD kv.1)[i]? = none := Option.some.inj hnx
            have := List.getElem?_eq_none_iff.mp hd
            rw [List.length_map] at this
            exact ⟨rs.sub _ _ (es _ _ hS2), by omega⟩
          · generalize lcEnd hm _ = res at z ⊢
            cases res with
            | bad => exact z.elim
            | exc x O => exact z.elim
            | ok d O3 =>
              replace z : Post X.K ad (fun S r => Rp X.K S r) W σ S r Q (match O3[n']? with | some (.fdc kvs) => .ok d (O3.set n' (.dct kvs)) | _ => .bad) := z
              split at z
              · rename_i kvs3 hO3
                intro S3 r3 H3 v3 e3 s3 p3
                have hS3 : S3 a2 = some (.frz od (.dK ks)) := e3.s _ _ hS2
                have hn3 := pre_get e3.r hn2
                have e13 : Ext S r (del S3 a2) r3 := by
                  have e03 := (ex.trans e2).trans e3
                  refine ⟨fun b w hb => ?_, e03.f, e03.r⟩
                  rw [del_ne (fun q => by rw [q, hz] at hb; cases hb)]
                  exact e03.s _ _ hb
                exact ⟨s3.sub _ _ hS3, z (del S3 a2) r3 _ v3 e13 (s3.unlock hn3 hO3 hS3) (rp_del hS3 _ _ p3)⟩
              · exact z.elim
        · exact z.elim
      · exact z.elim
    · exact z.elim
  · exact z.elim
theorem de_lcD {hm : Bool} (hc : X.calm = true) (hN : X.N.Nodup) (hi : PE X iter (tE X.K ad J W m)) (ok : BlkOk X.N X.env.scope scope own)
    (hg : ∀ (s : Shared) (H : Hp) (C : Addr) (cl : List (Str × Addr)) (fp : List Addr) (J' : JP), Cl (own.map (·.2)) J' → PG (X.blk s H scope (PySem.compEnvC scope cl C X.env) fp) tg (tG X.K ad J' bm))
    (ht : ∀ (s : Shared) (H : Hp) (C : Addr) (cl : List (Str × Addr)) (fp : List Addr) (J' : JP), Cl (own.map (·.2)) J' → PTs (X.blk s H scope (PySem.compEnvC scope cl C X.env) fp) ifs (tT X.K ad J' WF tm))
    (he : ∀ (s : Shared) (H : Hp) (C : Addr) (cl : List (Str × Addr)) (fp : List Addr) (J' : JP), Cl (own.map (·.2)) J' → PE (X.blk s H scope (PySem.compEnvC scope cl C X.env) fp) elt (tE X.K ad J' WF me)) (hs : ∀ x, foldedSetIterable iter X.env x = pure x := by intro _; rfl) :
    PE X (.ListComp elt [⟨tg, iter, ifs, 0⟩] scope pos) (tE X.K ad J W (mLcD hm m (own.map (·.2)) bm tm me)) :=
  pe_imp (pe_lock (pe_lc hc hN (pi_keys hi) ok (g := tGx X.K ad (own.map (·.2)) bm) (tt := tTx X.K ad (own.map (·.2)) tm) (te := tEx X.K ad (own.map (·.2)) me) (fun s H C cl fp => gx_of (hg s H C cl fp)) (fun s H C cl fp => tx_of (ht s H C cl fp)) (fun s H C cl fp => ex_of (he s H C cl fp)) hs)) lcD_imp
end
end DK
end
section
set_option Elab.async false
set_option linter.all false
set_option autoImplicit false
set_option maxRecDepth 100000
set_option maxHeartbeats 4000000
/-! DKDictC: dict comprehensions, by mirrors. -/
namespace DK
open PySem L2
end DK
end
section
set_option Elab.async false
set_option linter.all false
set_option autoImplicit false
set_option maxRecDepth 100000
set_option maxHeartbeats 4000000
/-! DKIdx: index of a text in a list of texts, by mirrors. -/
namespace DK
open PySem L2
end DK
end
section
set_option Elab.async false
set_option linter.all false
set_option autoImplicit false
set_option maxRecDepth 100000
set_option maxHeartbeats 4000000
/-! DKSetC: sorted({.. for ..}) over ints, by a mirror. -/
namespace DK
open PySem L2 PyProof.Rows
/-! ### a set comprehension over any kind of sets -/
/-! ### ints -/
/-! ### the mirror -/
end DK
end
section
set_option Elab.async false
set_option linter.all false
set_option autoImplicit false
set_option maxRecDepth 100000
set_option maxHeartbeats 4000000
/-! DKIsB: `is True`, `is False` of truth values. -/
namespace DK
open PySem L2
end DK
end
section
set_option Elab.async false
set_option linter.all false
set_option autoImplicit false
set_option maxRecDepth 100000
set_option maxHeartbeats 4000000
/-! DKOrdD: < > <= >= of data that are alike (tuples), in and not in with data, by mirrors. -/
namespace DK
open PySem PySem.Spec PyProof.Rows L2 PySem.W
def notNone : PyData → Bool
  | .none => false
  | _ => true
theorem notNone_ok {p : PyData} (h : notNone p = true) : p ≠ .none := fun e => by subst e; cases h
def gCmpD (f : PyData → PyData → Bool) : Store → D → D → Option (D × Store) := fun O x y => match deep O 20 x, deep O 20 y with
  | some p, some q => if alike p q = true ∧ notNone p = true ∧ p.depth ≤ 40 then some (.bl (f p q), O) else none
  | _, _ => none
def gLeD := gCmpD fun p q => !dataLt q p
def gGeD := gCmpD fun p q => !dataLt p q
def rCmpD (K : PySem.W.Frag) (f : PyData → PyData → Bool) : R2 := fun x y H Q => ∃ p q, Dp K H x p ∧ Dp K H y q ∧ alike p q = true ∧ p ≠ .none ∧ p.depth ≤ 40 ∧ Q (.bl (f p q)) H
section
variable {X : Cx} {ad : Str → Addr}
theorem od_cmpD {bop : Value → Value → Sem Value} {f : PyData → PyData → Bool} (h : OpR X bop (rCmpD X.K f)) : OpD X ad bop (gCmpD f) where
  ok := by
    refine ⟨_, h, ?_⟩
    intro S r O H x y d e W σ Q rs px py p
    unfold gCmpD at p
    split at p
    · rename_i q1 q2 e1 e2
      split at p
      · rename_i hh
        exact ⟨q1, q2, deep_ok rs _ _ _ _ px e1, deep_ok rs _ _ _ _ py e2, hh.1, notNone_ok hh.2.1, hh.2.2, p S r H _ (Ext.refl _ _) rs rfl⟩
      · exact p.elim
    · exact p.elim
theorem op_leD (hu : X.A.units + 64 < cLine) : OpR X (compareOp .LtE) (rCmpD X.K fun p q => !dataLt q p) := by
  intro pins s σ H x y v u Q I rx ry h
  obtain ⟨d, e, hd, he, ha, hn, hdp, q⟩ := h
  obtain ⟨as, r1⟩ := Dp.reads I d x v hd rx
  obtain ⟨bs, r2⟩ := Dp.reads I e y u he ry
  exact le_data r1 r2 ha hn (by omega) ⟨.bl _, H, I, rfl, q⟩
theorem op_geD (hu : X.A.units + 64 < cLine) : OpR X (compareOp .GtE) (rCmpD X.K fun p q => !dataLt p q) := by
  intro pins s σ H x y v u Q I rx ry h
  obtain ⟨d, e, hd, he, ha, hn, hdp, q⟩ := h
  obtain ⟨as, r1⟩ := Dp.reads I d x v hd rx
  obtain ⟨bs, r2⟩ := Dp.reads I e y u he ry
  exact ge_data r1 r2 ha hn (by omega) ⟨.bl _, H, I, rfl, q⟩
theorem od_leD (hu : X.A.units + 64 < cLine) : OpD X ad (compareOp .LtE) gLeD := od_cmpD (op_leD hu)
theorem od_geD (hu : X.A.units + 64 < cLine) : OpD X ad (compareOp .GtE) gGeD := od_cmpD (op_geD hu)
/-! ### in -/
end
end DK
end
section
set_option Elab.async false
set_option linter.all false
set_option autoImplicit false
set_option maxRecDepth 100000
set_option maxHeartbeats 4000000
/-! DKForD: `for x in d`, d a dict of the store, which is locked meanwhile, by mirrors. -/
namespace DK
open PySem PySem.Spec PyProof.Rows L2 PySem.W
end DK
end
section
set_option Elab.async false
set_option linter.all false
set_option autoImplicit false
set_option maxRecDepth 100000
set_option maxHeartbeats 4000000
/-! DKEqV: == of lists and dicts that are equal, whatever stands within. -/
namespace DK
open PySem L2
end DK
end
section
set_option Elab.async false
set_option linter.all false
set_option autoImplicit false
set_option maxRecDepth 100000
set_option maxHeartbeats 4000000
/-! DKPopD: d.pop(k) of a dict, by mirrors. -/
namespace DK
open PySem L2
end DK
end
section
set_option Elab.async false
set_option linter.all false
set_option autoImplicit false
set_option maxRecDepth 100000
set_option maxHeartbeats 4000000
/-! DKSetT: len({.. for ..}) over texts, by a mirror. -/
namespace DK
open PySem L2 PyProof.Rows
/-! ### texts -/
/-! ### the mirror -/
end DK
end
section
set_option Elab.async false
set_option linter.all false
set_option autoImplicit false
set_option maxRecDepth 100000
set_option maxHeartbeats 4000000
/-! DKIsN: `is not True`, `is not False` of truth values. -/
namespace DK
open PySem L2
end DK
end
section
set_option Elab.async false
set_option linter.all false
set_option autoImplicit false
set_option maxRecDepth 100000
set_option maxHeartbeats 4000000
/-! DKMaxD: max of alike data, by a mirror. -/
namespace DK
open PySem PySem.Spec PyProof.Rows L2 PySem.W
end DK
end
section
set_option Elab.async false
set_option linter.all false
set_option autoImplicit false
set_option maxRecDepth 100000
set_option maxHeartbeats 4000000
/-! DKInR: `k in d` of a dict that may be locked, by a mirror. -/
namespace DK
open PySem L2
end DK
end
section
set_option Elab.async false
set_option linter.all false
set_option autoImplicit false
set_option maxRecDepth 100000
set_option maxHeartbeats 4000000
/-! DKNeV: != of two lists that are the same, their items lists or dicts or flat; != of such dicts: False. -/
namespace DK
open PySem L2
end DK
end
section
set_option Elab.async false
set_option linter.all false
set_option autoImplicit false
set_option maxRecDepth 100000
set_option maxHeartbeats 4000000
/-! DKDOne: {k: v}, a dict of one pair, by mirrors. -/
namespace DK
open PySem L2
end DK
end
section
set_option Elab.async false
set_option linter.all false
set_option autoImplicit false
set_option maxRecDepth 100000
set_option maxHeartbeats 4000000
/-! DKTry: except clauses that take errors with fields. -/
namespace DK
open PySem L2
/-- a flat value's place -/
theorem flat_rp {K : PySem.W.Frag} {S : Hp} {r : Rg} {d : D} {v : V} (h : flatOf d = some v) : Rp K S r d v := by
  cases d <;> cases h <;> exact rfl
def flatFs : List (Str × D) → Option (List (Str × V))
  | [] => some []
  | (f, d) :: r => match flatOf d, flatFs r with
    | some v, some vs => some ((f, v) :: vs)
    | _, _ => none
theorem flatFs_rp {K : PySem.W.Frag} {S : Hp} {r : Rg} : ∀ {fs : List (Str × D)} {gs us : List (Str × V)}, flatFs fs = some us → RpP K S r fs gs → gs = us
  | [], gs, us, h, p => by cases h; exact p
  | (f, d) :: fs, gs, us, h, p => by
    obtain ⟨v, gr, rfl, h1, h2⟩ := p
    unfold flatFs at h
    split at h
    · rename_i u vs e1 e2
      cases h
      rw [flatFs_rp e2 h2, (flatOf_ok e1 h1).1]
    · cases h
theorem flatFs_look {f : Str} {d : D} : ∀ {fs : List (Str × D)} {us : List (Str × V)}, flatFs fs = some us → fs.lookup f = some d → ∃ v, us.lookup f = some v ∧ flatOf d = some v
  | [], us, h, e => by cases e
  | (g, x) :: fs, us, h, e => by
    unfold flatFs at h
    split at h
    · rename_i u vs e1 e2
      cases h
      rw [List.lookup_cons] at e ⊢
      cases hb : f == g with
      | true => rw [hb] at e; cases e; exact ⟨u, rfl, e1⟩
      | false => rw [hb] at e; exact flatFs_look e2 e
    · cases h
/-- the error's own dict, if it has one -/
def XfR (x : Exn) (od : Option Addr) (S : Hp) : Prop := match x.fs with
  | none => od = none
  | some fs => ∃ dd us, od = some dd ∧ S dd = some (.xd us) ∧ flatFs fs = some us
theorem XfR.mono {x : Exn} {od : Option Addr} {S S' : Hp} (e : Same S S') (h : XfR x od S) : XfR x od S' := by
  unfold XfR at *
  split at h
  · exact h
  · obtain ⟨dd, us, h1, h2, h3⟩ := h
    exact ⟨dd, us, h1, e _ _ h2, h3⟩
def okX (x : Exn) : Bool := match x.fs with
  | none => true
  | some fs => (flatFs fs).isSome
theorem xfR_of {K : PySem.W.Frag} {S : Hp} {r : Rg} {x : Exn} {d : Option Addr} (h : ExR K S r x d) (o : okX x = true) : XfR x d S := by
  obtain ⟨c, fs⟩ := x
  cases fs with
  | none => exact h
  | some fs =>
    obtain ⟨dd, gs, h1, h2, h3⟩ := h
    obtain ⟨us, hu⟩ := Option.isSome_iff_exists.mp (show (flatFs fs).isSome = true from o)
    rw [flatFs_rp hu h3] at h2
    exact ⟨dd, us, h1, h2, hu⟩
def Jf (i : Nat) (a : Addr) (x : Exn) (od : Option Addr) : JP := ⟨fun σ S => σ[i]? = some (some (.ref a)) ∧ XfR x od S, fun e h => ⟨h.1, h.2.mono e⟩⟩
def Jn (x : Exn) (od : Option Addr) : JP := ⟨fun _ S => XfR x od S, fun e h => h.mono e⟩
def sTryE (subc : Str → Option Bool) (oi : Option Nat) (b : SM) (suite : Exn → SM) : SM := fun L O => match b L O with
  | .next L1 O1 => .next L1 O1
  | .ret d O1 => .ret d O1
  | .brk L1 O1 => .brk L1 O1
  | .cnt L1 O1 => .cnt L1 O1
  | .exc x L1 O1 => match subc x.cls with
    | some true => if okX x = true then (match oi with
      | some i => if i < L1.length then (match suite x (L1.set i none) O1 with
        | .next L2 O2 => .next (L2.set i none) O2
        | .ret d O2 => .ret d O2
        | .brk L2 O2 => .brk (L2.set i none) O2
        | .cnt L2 O2 => .cnt (L2.set i none) O2
        | _ => .bad) else .bad
      | none => (match suite x L1 O1 with
        | .next L2 O2 => .next L2 O2
        | .ret d O2 => .ret d O2
        | .brk L2 O2 => .brk L2 O2
        | .cnt L2 O2 => .cnt L2 O2
        | _ => .bad)) else .bad
    | some false => .exc x L1 O1
    | none => .bad
  | .bad => .bad
section
variable {X : Cx} {ad : Str → Addr} {W : WX} {pos pos' p p2 np : Pos} {e : Expr} {es : List Expr} {mt : AM} {c : Str} {body suite : List Stmt} {b0 : Stmt} {sb : SM} {ss : Exn → SM}
theorem ds_tryE_as {x n : Str} {i : Nat} {cv : Value} {subc : Str → Option Bool} (hs : X.stack = X.env :: X.outer) (hf : X.env.frame = some X.env.locals) (hN : X.N.Nodup) (hi : X.N[i]? = some n) (hln : X.env.kindOf n = some .local) (hc : Names X x cv) (tk : Takes X W)
    (hsub : ∀ nm b, subc nm = some b → PySem.W.exmOne X.K (.ref (ad nm)) cv = some b)
    (hb : ∀ (W : WX) (pn : List (Addr × Obj)) (xe : Value → Shared → Prop), Takes (X.tr pn xe) W → PassesOwn (model X.prog X.w) X.A X.env xe → PSs (X.tr pn xe) body (tS X.K ad JT W sb))
    (hsu : ∀ (y : Exn) (a : Addr) (od : Option Addr) (oe : Obj) (pn : List (Addr × Obj)), subc y.cls = some true → Zc (.ref (ad y.cls)) od oe → (∃ vs, oe.data = .fields vs) → PSs (X.suite a ((a, oe) :: pn)) (b0 :: suite) (tS X.K ad (Jf i a y od) WF (ss y))) :
    PS X (.Try body [.ExceptHandler (some (.Name x np)) (some n) (b0 :: suite) pos'] [] [] pos) (tS X.K ad JT W (sTryE subc (some i) sb ss)) := by
  refine ps_imp (ps_try_as (i := i) (tb := fun W => tS X.K ad JT W sb) (ts := fun a cls d En σ H => ∃ y : Exn, (cls = .ref (ad y.cls) ∧ subc y.cls = some true) ∧ tS X.K ad (Jf i a y d) WF (ss y) En σ H) hs hf hN hi hln hc tk hb ?_) ?_
  · intro a oe cls d pn hz hfl
    exact pss_ex fun y hp => by
      obtain ⟨rfl, h3⟩ := hp
      exact hsu y a d oe pn h3 hz hfl
  rintro En σ H ⟨S, r, L, O, j, rl, rs, z⟩
  refine ⟨S, r, L, O, j, rl, rs, ?_⟩
  unfold sTryE at z
  generalize sb L O = q at z
  cases q with
  | next L O => exact z
  | ret L O => exact z
  | brk L O => exact z
  | cnt L O => exact z
  | bad => exact z.elim
  | exc y L1 O1 =>
    intro S1 r1 σ1 H1 d e1 j1 l1 s1 hd
    cases hsc : subc y.cls with
    | none => simp only [hsc] at z; exact z.elim
    | some b =>
      simp only [hsc] at z
      refine ⟨b, hsub _ b hsc, fun hbt a ha => ?_, fun hbf => ?_⟩
      · subst hbt
        simp only at z
        split at z
        · rename_i ho
          split at z
          · rename_i hil
            refine ⟨y, ⟨rfl, hsc⟩, S1, r1, L1.set i none, O1, ⟨List.getElem?_set_self (by rw [l1.len]; exact hil), xfR_of hd ho⟩, l1.wipe i _, s1, ?_⟩
            generalize ss y (L1.set i none) O1 = q at z
            cases q with
            | next L2 O2 => exact fun S2 r2 σ2 H2 e2 j2 l2 s2 => z S2 r2 _ H2 (e1.trans e2) trivial (l2.wipe i none) s2
            | ret d O2 => exact fun S2 r2 H2 v e2 s2 p2 => z S2 r2 H2 v (e1.trans e2) s2 p2
            | brk L2 O2 => exact fun S2 r2 σ2 H2 e2 j2 l2 s2 => z S2 r2 _ H2 (e1.trans e2) trivial (l2.wipe i none) s2
            | cnt L2 O2 => exact fun S2 r2 σ2 H2 e2 j2 l2 s2 => z S2 r2 _ H2 (e1.trans e2) trivial (l2.wipe i none) s2
            | exc x L2 O2 => exact z.elim
            | bad => exact z.elim
          · exact z.elim
        · exact z.elim
      · subst hbf
        exact z S1 r1 σ1 H1 d e1 j1 l1 s1 hd
/-- err.f -/
def mXf (y : Exn) (f : Str) : EM := fun _ O => match y.fs with
  | some fs => match fs.lookup f with
    | some d => .ok d O
    | none => .bad
  | none => .bad
theorem de_xf {y : Exn} {a : Addr} {od : Option Addr} {oe : Obj} {pn : List (Addr × Obj)} {ex f : Str} {i : Nat} (T : XfC X.K (ad y.cls)) (hno : PySem.W.findIn X.K (.ref (ad y.cls)) f = some none) (hz : Zc (.ref (ad y.cls)) od oe) (hf : ∃ vs, oe.data = .fields vs) (hv : PE (X.suite a ((a, oe) :: pn)) (.Name ex p) (tVar i))
    (hb : attributeBase (.Name ex p) f X.env (eval (.Name ex p) X.env) = eval (.Name ex p) X.env := by rfl) : PE (X.suite a ((a, oe) :: pn)) (.Attribute (.Name ex p) f pos) (tE X.K ad (Jf i a y od) WF (mXf y f)) := by
  refine pe_imp (pe_xf T hno hz hf hv hb) ?_
  rintro σ H Q ⟨S, r, L, O, ⟨j1, j2⟩, rl, rs, z⟩
  obtain ⟨c, fs⟩ := y
  cases fs with
  | none => exact z.elim
  | some fs =>
    obtain ⟨dd, us, h1, h2, h3⟩ := j2
    replace z : Post X.K ad (fun S r => Rp X.K S r) WF σ S r Q (match fs.lookup f with | some d => .ok d O | none => .bad) := z
    split at z
    · rename_i d hd
      obtain ⟨v, hv1, hv2⟩ := flatFs_look h3 hd
      exact ⟨.ref a, j1, rfl, rfl, dd, us, v, h1, rs.sub _ _ h2, hv1, z S r H v (Ext.refl _ _) rs (flat_rp hv2)⟩
    · exact z.elim
end
/-! ### isinstance of an error, whatever its own dict -/
/-! ### an __init__ by its parts -/
def mkOne (N : List Str) (ms : EM) (f1 : Str) (j1 : Nat) : XM := fun ds O => match ms (iniL N ds) O, (iniL N ds)[j1]? with
  | .ok _ O', some (some d1) => some ([(f1, d1)], O')
  | _, _ => none
section
variable {P : Program} {w : World} {K : PySem.W.Frag} {mg : Str → Option Value} {base : Heap} {main : Str} {d : IniD} {N ps : List Str} {self : Str} {ar : Arg} {e : Expr} {rest : List Stmt} {ms : EM} {p0 p1 apos pos pos2 : Pos} {k : Nat}
theorem hasX_tr {tr : TS} {mk : XM} {n : Nat} (I : IniK K main d) (hbody : d.body = .Expr (.Call (.Attribute (.Call (.Name "super" p0) [] [] p1) "__init__" apos) [e] [] pos) pos2 :: rest) (S : SupScope N ps d.scope) (h0 : N[0]? = some self) (hps : ps.length = n + 1) (hp : (d.params.posonlyargs ++ d.params.args).head? = some ar) (har : ar.arg = self) (hself : d.scope.names.lookup self = some .local)
    (hmain : ((P.main.file : Str) == main) = true) (htop : (P.main.scope.names.lookup ("super" : Str)).isSome = false) (hm : mg "super" = none)
    (hbind : ∀ (f : Addr) (fd : FuncData) (kV doc pm : Value) (an : Option Addr) (cda : Value) (ct : Value) (cc : Addr) (us : List Value), us.length = ps.length → bindArgs (PySem.W.ksFn "__init__" d.qual d.params d.body d.scope .none kV doc pm an cda ct cc) ⟨us, []⟩ = pure (ps.zip us))
    (he : ∀ (f cda cc : Addr) (A : Around) (outer : List Env) (s : Shared) (H : Hp) (E : XK), Room k (A.deeper (PySem.W.ksEnv d.qual d.scope s.heap.objs.size f (.ref cda) cc)) → PE (cxI P w K mg base N d.qual d.scope f (.ref cda) cc A outer s H E) e (tE K (He.ga K) JT WF ms))
    (hrest : ∀ (f cda cc : Addr) (A : Around) (outer : List Env) (s : Shared) (H : Hp) (E : XK), PSs (cxI P w K mg base N d.qual d.scope f (.ref cda) cc A outer s H E) rest tr)
    {pl : Sem Bool} (hev : ∀ f cda cc L : Addr, eval (.Call (.Attribute (.Call (.Name "super" p0) [] [] p1) "__init__" apos) [e] [] pos) (PySem.W.ksEnv d.qual d.scope L f (.ref cda) cc) = (do
      let ov ← attributeBase (.Call (.Name "super" p0) [] [] p1) "__init__" (PySem.W.ksEnv d.qual d.scope L f (.ref cda) cc) (eval (.Call (.Name "super" p0) [] [] p1) (PySem.W.ksEnv d.qual d.scope L f (.ref cda) cc))
      standAt apos.atName
      let (f1, first) ← holding [ov] (getMethod ov "__init__" pl)
      callWith pos f1 first (backTo pos (starEach [e] (PySem.W.ksEnv d.qual d.scope L f (.ref cda) cc))) []))
    (hst : ∀ f cda cc L : Addr, starEach [e] (PySem.W.ksEnv d.qual d.scope L f (.ref cda) cc) = [(false, eval e (PySem.W.ksEnv d.qual d.scope L f (.ref cda) cc))])
    (hsw : ∀ f cda cc L : Addr, swapsWith (.Call (.Attribute (.Call (.Name "super" p0) [] [] p1) "__init__" apos) [e] [] pos) none pos2.line (PySem.W.ksEnv d.qual d.scope L f (.ref cda) cc) = pure false)
    (hint : ∀ f cda cc L : Addr, interactive (PySem.W.ksEnv d.qual d.scope L f (.ref cda) cc) = false)
    (hsp : ∀ (S : Hp) (r : Rg) (O : Store) (H : Hp) (a : Addr) (ds : List D) (ws : List V) (fs : List (Str × D)) (O' : Store) (Qx : Option Addr → Hp → Prop) (E : XK), Rs K (He.ga K) S r O H → RpAll K S r ds ws → ds.length = n → H a = none → mk ds O = some (fs, O') → EndI K (He.ga K) S r O' fs Qx →
      spI N ps (He.ga K d.cls) (tE K (He.ga K) JT WF ms) tr (V.ref a :: ws) (upd H a (exo a (He.ga K d.cls) none)) (QI a (He.ga K d.cls) H Qx) E) :
    HasX P w K mg base (k + 1) d.cls n mk := by
  obtain ⟨oc, od, kV, doc, pm, an, cda, ct, cc, osl, lk, hcd, Z⟩ := I.lk
  refine ⟨I.T, I.iC, I.tI, _, ps, _, fnI_of (kV := kV) (doc := doc) (pm := pm) (ct := ct) (an := an) (main := main) (by rw [hbody] at lk; exact lk) hcd S Z I.T h0 (by omega) hp har hself hmain htop hm (fun A outer s H E hr => he _ cda cc A outer s H E hr) (fun A outer s H E hr => hrest _ cda cc A outer s H E) (fun L => hev _ cda cc L) (fun L => hst _ cda cc L) (fun L => hsw _ cda cc L) (fun L => hint _ cda cc L), ?_, hsp⟩
  exact .all fun us hl => by
    have := hbind (He.fAd K d.at_) (PySem.W.ksFn "__init__" d.qual d.params d.body d.scope .none kV doc pm an (.ref cda) ct cc) kV doc pm an (.ref cda) ct cc us hl
    rw [hbody] at this
    exact this
end
section
variable {K : PySem.W.Frag} {C : Addr} {N ps : List Str} {ms : EM} {n : Nat} {f1 f2 : Str} {j1 j2 : Nat}
theorem hsp_one (T : OexC K C) (hno : PySem.W.findIn K (.ref C) f1 = some none) (hps : ps.length = n + 1) (hN : ps.length ≤ N.length) : ∀ (S : Hp) (r : Rg) (O : Store) (H : Hp) (a : Addr) (ds : List D) (ws : List V) (fs : List (Str × D)) (O' : Store) (Qx : Option Addr → Hp → Prop) (E : XK), Rs K (He.ga K) S r O H → RpAll K S r ds ws → ds.length = n → H a = none → mkOne N ms f1 j1 ds O = some (fs, O') → EndI K (He.ga K) S r O' fs Qx →
    spI N ps C (tE K (He.ga K) JT WF ms) (tOst K f1 (tVar 0) (tVar j1)) (V.ref a :: ws) (upd H a (exo a C none)) (QI a C H Qx) E := fun S r O H a ds ws fs O' Qx E rs p hn ha hmk q => by
  unfold mkOne at hmk
  split at hmk
  · rename_i dm O2 d1 h1 h2
    cases hmk
    exact spI_one T hno rs p (by omega) hN ha h1 h2 q
  · cases hmk
end
theorem free_of {sc : Scope} (h : ∀ p ∈ sc.names, p.2 = .free → p.1 = ("__class__" : Str)) : ∀ y, sc.names.lookup y = some .free → y = "__class__" := fun y hy => h (y, .free) (PySem.mem_of_lookup hy) rfl
structure KnowsI (fa : List He.Fa) (fn : List He.DefD) (fx : List Fx) (main : Str) (ins : List IniD) (K : PySem.W.Frag) (mg : Str → Option Value) : Prop extends Knows fa fn fx K mg where
  i : ∀ d ∈ ins, IniK K main d
theorem xf_of {K : PySem.W.Frag} {C : Addr} (h : ExcC K C) : XfC K C := ⟨h.hg, h.hk, h.hs, h.hd⟩
end DK
end
section
set_option Elab.async false
set_option linter.all false
set_option autoImplicit false
set_option maxRecDepth 100000
set_option maxHeartbeats 4000000
/-! DKManyE: several except clauses, with and without a name, over errors with fields; by mirrors. -/
namespace DK
open PySem PySem.Spec PyProof.Rows L2
/-- a clause's class, its name's slot, its suite -/
structure Cls3 where
  c : Value
  oi : Option Nat
  ts : Addr → Value → Option Addr → TS
inductive HdAll (X : Cx) : List ExceptHandler → List Cls3 → Prop
  | nil : HdAll X [] []
  | cons {x : Str} {c : Value} {ts : Addr → Value → Option Addr → TS} {b₀ : Stmt} {suite : List Stmt} {np pos' : Pos} {hds : List ExceptHandler} {l : List Cls3} (hc : Names X x c)
      (hsu : ∀ (a : Addr) (oe : Obj) (cls : Value) (d : Option Addr) (pn : List (Addr × Obj)), Zc cls d oe → (∃ vs, oe.data = .fields vs) → PSs (X.suite a ((a, oe) :: pn)) (b₀ :: suite) (ts a cls d)) (r : HdAll X hds l) :
      HdAll X (.ExceptHandler (some (.Name x np)) none (b₀ :: suite) pos' :: hds) (⟨c, none, ts⟩ :: l)
  | named {x n : Str} {i : Nat} {c : Value} {ts : Addr → Value → Option Addr → TS} {b₀ : Stmt} {suite : List Stmt} {np pos' : Pos} {hds : List ExceptHandler} {l : List Cls3} (hc : Names X x c) (hN : X.N.Nodup) (hi : X.N[i]? = some n) (hln : X.env.kindOf n = some .local)
      (hsu : ∀ (a : Addr) (oe : Obj) (cls : Value) (d : Option Addr) (pn : List (Addr × Obj)), Zc cls d oe → (∃ vs, oe.data = .fields vs) → PSs (X.suite a ((a, oe) :: pn)) (b₀ :: suite) (ts a cls d)) (r : HdAll X hds l) :
      HdAll X (.ExceptHandler (some (.Name x np)) (some n) (b₀ :: suite) pos' :: hds) (⟨c, some i, ts⟩ :: l)
/-! ### mirrors -/
structure HdE where
  sub : Str → Option Bool
  oi : Option Nat
  ss : Exn → SM
section
variable {X : Cx} {ad : Str → Addr} {W : WX} {pos : Pos} {body : List Stmt} {sb : SM}
inductive HdsE (X : Cx) (ad : Str → Addr) : List ExceptHandler → List HdE → List Cls3 → Prop
  | nil : HdsE X ad [] [] []
  | cons {x : Str} {cv : Value} {sub : Str → Option Bool} {ss : Exn → SM} {b0 : Stmt} {suite : List Stmt} {np pos' : Pos} {hds : List ExceptHandler} {ms : List HdE} {l : List Cls3} (hc : Names X x cv)
      (hsub : ∀ nm b, sub nm = some b → PySem.W.exmOne X.K (.ref (ad nm)) cv = some b)
      (hsu : ∀ (y : Exn) (a : Addr) (od : Option Addr) (oe : Obj) (pn : List (Addr × Obj)), sub y.cls = some true → Zc (.ref (ad y.cls)) od oe → (∃ vs, oe.data = .fields vs) → PSs (X.suite a ((a, oe) :: pn)) (b0 :: suite) (tS X.K ad (Jn y od) WF (ss y)))
      (r : HdsE X ad hds ms l) : HdsE X ad (.ExceptHandler (some (.Name x np)) none (b0 :: suite) pos' :: hds) (⟨sub, none, ss⟩ :: ms)
        (⟨cv, none, fun a cls d En σ H => ∃ y : Exn, (cls = .ref (ad y.cls) ∧ sub y.cls = some true) ∧ tS X.K ad (Jn y d) WF (ss y) En σ H⟩ :: l)
  | named {x n : Str} {i : Nat} {cv : Value} {sub : Str → Option Bool} {ss : Exn → SM} {b0 : Stmt} {suite : List Stmt} {np pos' : Pos} {hds : List ExceptHandler} {ms : List HdE} {l : List Cls3} (hc : Names X x cv) (hN : X.N.Nodup) (hi : X.N[i]? = some n) (hln : X.env.kindOf n = some .local)
      (hsub : ∀ nm b, sub nm = some b → PySem.W.exmOne X.K (.ref (ad nm)) cv = some b)
      (hsu : ∀ (y : Exn) (a : Addr) (od : Option Addr) (oe : Obj) (pn : List (Addr × Obj)), sub y.cls = some true → Zc (.ref (ad y.cls)) od oe → (∃ vs, oe.data = .fields vs) → PSs (X.suite a ((a, oe) :: pn)) (b0 :: suite) (tS X.K ad (Jf i a y od) WF (ss y)))
      (r : HdsE X ad hds ms l) : HdsE X ad (.ExceptHandler (some (.Name x np)) (some n) (b0 :: suite) pos' :: hds) (⟨sub, some i, ss⟩ :: ms)
        (⟨cv, some i, fun a cls d En σ H => ∃ y : Exn, (cls = .ref (ad y.cls) ∧ sub y.cls = some true) ∧ tS X.K ad (Jf i a y d) WF (ss y) En σ H⟩ :: l)
theorem HdsE.ok {hds : List ExceptHandler} {ms : List HdE} {l : List Cls3} (k : HdsE X ad hds ms l) : HdAll X hds l := by
  induction k with
  | nil => exact .nil
  | cons hc hsub hsu r ih =>
    refine .cons hc (fun a oe cls d pn hz hfl => ?_) ih
    exact pss_ex fun y hp => by
      obtain ⟨rfl, h3⟩ := hp
      exact hsu y a d oe pn h3 hz hfl
  | named hc hN hi hln hsub hsu r ih =>
    refine .named hc hN hi hln (fun a oe cls d pn hz hfl => ?_) ih
    exact pss_ex fun y hp => by
      obtain ⟨rfl, h3⟩ := hp
      exact hsu y a d oe pn h3 hz hfl
end
end DK
end
section
set_option Elab.async false
set_option linter.all false
set_option autoImplicit false
set_option maxRecDepth 100000
set_option maxHeartbeats 1000000
/-! DKN: the rules of calls and defs, told with exceptions that have no context: printed by dkn.py. -/
namespace DK.N
open PySem L2 DK
section
variable {X : Cx} {ad : Str → Addr} {J : JP} {W : WX} {pos p apos : Pos} {o e : Expr} {es : List Expr} {mo : EM} {mt : AM} {c : Str}
theorem de_call {k n : Nat} {f : Addr} {fd : FuncData} {ps : List Str} {m : FM} {dvs : List V} {dds : List D} {ds : List Value} {x : Str} {p : Pos} (F : FnOk X.prog X.w X.K X.mg X.base (L2N.CX X.prog X.w) k f fd ps (spM X.K ad n m)) (hr : Room k X.A) (hg : Gl X x) (hm : X.mg x = some (.ref f)) (hk : PySem.W.keepIn X.K (.ref f) = true)
    (hb : Binds X.K fd ps ds) (hd : Vals dvs ds) (hdd : ∀ S r, RpAll X.K S r dds dvs) (tk : L2N.Takes X W) (ha : PA X (e :: es) (tA X.K ad J W mt)) (hdb : (x == ("__debug__" : Str)) = false := by decide)
    (he : starEach (e :: es) X.env = (false, eval e X.env) :: starEach es X.env := by rfl) (hpl : (backTo pos (starEach es X.env)).any (·.1) = false := by rfl) :
    PE X (.Call (.Name x p) (e :: es) [] pos) (tE X.K ad J W (mFn (arity n m) dds mt)) := by
  refine pe_imp (pe_callSD F hr hg hm hk hb hd (fun σ => L2N.passAt tk σ) ha hdb he hpl) ?_
  rintro σ H Q ⟨S, r, L, O, j, rl, rs, p⟩
  refine ⟨S, r, L, O, j, rl, rs, (Post.bind p).imp ?_⟩
  rintro xs H1 ⟨S1, r1, ds, O1, e1, s1, p1, q1⟩
  exact spM_ar s1 (p1.append (hdd S1 r1)) q1
end
section
variable {P : Program} {w : World} {K : PySem.W.Frag} {mg : Str → Option Value} {base : Heap} {ad : Str → Addr}
theorem fn_def {x qual : Str} {params : Arguments} {bd : List Stmt} {scope : Scope} {dvs : List V} {kws : List (Str × V)} {f : Addr} {fd : FuncData} {N ps : List Str} {k : Nat} {b : SM} (F : FunD K x qual params bd scope dvs kws f fd) (sc : FnScope N ps scope)
    (hb : ∀ (cdv : Value) (A : Around) (outer : List Env) (s : Shared) (H : Hp) (E : XK), Room k (A.deeper (PyProof.Rows.envOfC qual scope s.heap.objs.size f cdv)) →
      PSs (cxOf (L2N.CX P w) P w K mg base N qual scope f cdv A outer s H E) bd (tS K ad JT (fun c d _ H => E c d H) b)) :
    FnOk P w K mg base (L2N.CX P w) (k + 1) f fd ps (spM K ad ps.length (runF N.length b)) := by
  have hpl : ps.length ≤ N.length := by have := congrArg List.length sc.pre; rw [List.length_take] at this; omega
  refine F.ok sc (fun vs H Q E h => ?_) (fun cdv A outer s H vs Q E hr h => ?_)
  · obtain ⟨S, r, O, ds, hl, _, hp, _⟩ := h
    rw [hp.length, hl]
  · refine ⟨_, hb cdv A outer s H E hr, ?_⟩
    obtain ⟨S, r, O, ds, hl, rs, hp, p⟩ := h
    refine ⟨S, r, _, O, trivial, start_rl (by rw [hp.length, hl]; exact hpl) hp, rs, ?_⟩
    unfold runF at p
    generalize b (ds.map some ++ List.replicate (N.length - ds.length) none) O = z at p
    cases z with
    | next L O => exact fun S' r' σ H e _ _ q => p S' r' H .non e q rfl
    | ret d O => exact p
    | brk L O => exact p.elim
    | cnt L O => exact p.elim
    | exc x L O => exact fun S' r' σ H d e _ _ q g => p S' r' H d e q g
    | bad => exact p
end
section
variable {P : Program} {w : World} {K : PySem.W.Frag} {mg : Str → Option Value} {base : Heap} {d : He.DefD} {ps N : List Str} {fm : FM} {b : SM} {ad : Str → Addr}
def Has (P : Program) (w : World) (K : PySem.W.Frag) (mg : Str → Option Value) (base : Heap) (k : Nat) (d : He.DefD) (ps : List Str) (fm : FM) : Prop :=
  ∃ fd, FunD K d.name d.qual d.params d.body d.scope (d.dvs K) (d.kws K) (He.fAd K d.at_) fd ∧ FnOk P w K mg base (L2N.CX P w) k (He.fAd K d.at_) fd ps (spM K (He.ga K) ps.length fm)
theorem has_def {k : Nat} (c : ∃ fd, FunD K d.name d.qual d.params d.body d.scope (d.dvs K) (d.kws K) (He.fAd K d.at_) fd) (sc : FnScope N ps d.scope)
    (hb : ∀ (f : Addr) (cdv : Value) (A : Around) (outer : List Env) (s : Shared) (H : Hp) (E : XK), Room k (A.deeper (PyProof.Rows.envOfC d.qual d.scope s.heap.objs.size f cdv)) →
      PSs (cxOf (L2N.CX P w) P w K mg base N d.qual d.scope f cdv A outer s H E) d.body (tS K (He.ga K) JT (fun c d _ H => E c d H) b)) :
    Has P w K mg base (k + 1) d ps (runF N.length b) := by
  obtain ⟨fd, F⟩ := c
  exact ⟨fd, F, fn_def F sc fun cdv A outer s H E hr => hb _ cdv A outer s H E hr⟩
end
theorem tk_of {P : Program} {w : World} {K : PySem.W.Frag} {mg : Str → Option Value} {base : Heap} {N : List Str} {qual : Str} {scope : Scope} {f : Addr} {cdv : Value} {A : Around} {outer : List Env} {s : Shared} {H : Hp} {E : XK} : L2N.Takes (cxOf (L2N.CX P w) P w K mg base N qual scope f cdv A outer s H E) (fun c d _ H => E c d H) := L2N.takes_of rfl rfl rfl rfl
end DK.N
end
section
set_option Elab.async false
set_option linter.all false
set_option autoImplicit false
set_option maxRecDepth 100000
set_option maxHeartbeats 4000000
/-! DKHot: own errors made and raised (from None) in an except suite: printed by dkhot.py. -/
namespace DK
open PySem L2 L2H
section
variable {P : Program} {w : World} {K : PySem.W.Frag} {mg : Str → Option Value} {base : Heap}
def cxIH (P : Program) (w : World) (K : PySem.W.Frag) (mg : Str → Option Value) (base : Heap) (N : List Str) (qual : Str) (scope : Scope) (f : Addr) (cd : Value) (cc : Addr) (A : Around) (outer : List Env) (s : Shared) (H : Hp) (E : XK) (p : Addr × Obj) : Cx :=
  { cxI P w K mg base N qual scope f cd cc A outer s H E with calm := false, pn := [p] }
theorem inv_startIH {main : Str} {N ps : List Str} {qual : Str} {scope : Scope} {f C cc cda : Addr} {cd : Value} {A : Around} {outer : List Env} {s : Shared} {H : Hp} {E : XK} {us : List Value} {vs : List V} {h₀ : Heap} {tk : Nat}
    (S : SupScope N ps scope) (Z : SupK K main f C cc cda) {p : Addr × Obj} (hpin : PinOk outer H s p) (e0 : Env0 P w K mg base A outer s H) (hl : vs.length = ps.length) (r : Vals vs us)
    (hns : h₀.Ns s.heap.objs.size (fun x => (ps.zip us).reverse.lookup x)) (hk : ∀ b o, s.heap.get? b = some o → h₀.get? b = some o) :
    Inv (cxIH P w K mg base N qual scope f cd cc A outer s H E p) [] (L2.start N vs) H { s with heap := h₀, toks := tk } := by
  have hpl : ps.length ≤ N.length := by have := congrArg List.length S.pre; rw [List.length_take] at this; omega
  have noA : ∀ b : Addr, b ∉ (cxIH P w K mg base N qual scope f cd cc A outer s H E p).ex := fun b z => absurd (show b ∈ ([] : List Addr) from z) (by simp)
  have one : ∀ {x : Str} {c : Addr}, ([(("__class__" : Str), cc)] : List (Str × Addr)).lookup x = some c → x = "__class__" ∧ c = cc := fun {x c} h => by
    rw [List.lookup_cons] at h
    cases hb : x == ("__class__" : Str) with
    | true =>
      rw [hb] at h
      exact ⟨beq_iff_eq.mp hb, (Option.some.inj h).symm⟩
    | false =>
      rw [hb] at h
      cases h
  obtain ⟨cl, cld, csl, hcell⟩ := Z.cell
  have hcb := e0.mod.kin _ _ hcell
  refine ⟨⟨e0.mod, S.kind, rfl, rfl, Nat.le_refl _, fun y z c h1 h2 => (one h1).1.trans (one h2).1.symm, fun y hy => ?_, fun y c hf h => ?_, (fun z => Bool.noConfusion (show false = true from z)), Around.frames_deeper e0.frames, .inr ⟨rfl, rfl⟩, fun b z => absurd z (noA b), e0.bs, e0.bsz, fun b _ _ => noA b, fun b z => absurd z (noA b), e0.funs, e0.frf⟩,
    rfl, e0.bare, Un.kept hk, ⟨_, hns, fun i y v h1 h2 h3 => ?_⟩, fun y c h => ?_, e0.hok.fresh (Nat.le_refl _), fun y c h => ?_, fun q hq => ?_, e0.hok.kept hk, ?_⟩
  · rcases (show scope.names.lookup y = some .cell ∨ scope.names.lookup y = some .free from hy) with hy | hy
    · exact absurd rfl (S.nocell _ (PySem.mem_of_lookup hy))
    · rw [S.free y hy]
      exact ⟨cc, rfl⟩
  · rw [(one h).1] at hf
    cases hf
  · have hi : i < vs.length := by
      unfold L2.start at h2
      by_cases hi : i < vs.length
      · exact hi
      · rw [List.getElem?_append_right (by simpa using hi), List.getElem?_replicate] at h2
        split at h2 <;> cases h2
    have ha : vs[i]? = some v := by
      unfold L2.start at h2
      rw [List.getElem?_append_left (by simpa using hi), List.getElem?_map] at h2
      cases e : vs[i]? with
      | none => rw [e] at h2; cases h2
      | some a => rw [e] at h2; cases h2; rfl
    obtain ⟨u, hu, rv⟩ := r.get ha
    have hp : ps[i]? = some y := by
      rw [← S.pre, List.getElem?_take_of_lt (by omega)]; exact h1
    have ndP : ps.Nodup := by rw [← S.pre]; exact S.nd.sublist (List.take_sublist _ _)
    exact ⟨u, rv, .inl ⟨S.par y (List.mem_of_getElem? hp), lookup_rev ndP hp hu⟩⟩
  · obtain ⟨rfl, rfl⟩ := one h
    exact ⟨_, _, hk _ _ (e0.bs _ _ hcb).1, rfl⟩
  · obtain ⟨rfl, rfl⟩ := one h
    exact (e0.bs _ _ hcb).2
  · have eq : q = p := by simpa using (show q ∈ [p] ++ ([] : List (Addr × Obj)) from hq)
    rw [eq]
    exact ⟨hk p.1 p.2 hpin.get, hpin.free, Nat.ne_of_lt (Heap.lt_size hpin.get), hpin.nofs, hpin.nocell⟩
  · unfold L2.start
    show _ = N.length
    rw [List.length_append, List.length_map, List.length_replicate]
    omega
theorem fnIH_of {main : Str} {N ps : List Str} {name qual self : Str} {params : Arguments} {scope : Scope} {f C cc cda : Addr} {ar : Arg} {kV doc pm ct oc : Value} {an od : Option Addr} {osl : Array (Option Value)} {e : Expr} {rest : List Stmt} {te : TE} {tr : TS} {p0 p1 apos pos pos2 : Pos} {k : Nat}
    (lk : K.lookup f = some ⟨oc, od, .func (PySem.W.ksFn name qual params (.Expr (.Call (.Attribute (.Call (.Name "super" p0) [] [] p1) "__init__" apos) [e] [] pos) pos2 :: rest) scope .none kV doc pm an (.ref cda) ct cc), osl⟩) (hcd : PySem.W.codeIn K (.ref cda) qual = true)
    (S : SupScope N ps scope) (Z : SupK K main f C cc cda) (T : OexC K C) (h0 : N[0]? = some self) (hps : 0 < ps.length) (hp : (params.posonlyargs ++ params.args).head? = some ar) (har : ar.arg = self) (hself : scope.names.lookup self = some .local)
    (hmain : ((P.main.file : Str) == main) = true) (htop : (P.main.scope.names.lookup ("super" : Str)).isSome = false) (hm : mg "super" = none)
    (he : ∀ (A : Around) (outer : List Env) (s : Shared) (H : Hp) (E : XK) (p : Addr × Obj), RoomH k (A.deeper (PySem.W.ksEnv qual scope s.heap.objs.size f (.ref cda) cc)) → PE (cxIH P w K mg base N qual scope f (.ref cda) cc A outer s H E p) e te)
    (hrest : ∀ (A : Around) (outer : List Env) (s : Shared) (H : Hp) (E : XK) (p : Addr × Obj), RoomH k (A.deeper (PySem.W.ksEnv qual scope s.heap.objs.size f (.ref cda) cc)) → PSs (cxIH P w K mg base N qual scope f (.ref cda) cc A outer s H E p) rest tr)
    {pl : Sem Bool} (hev : ∀ L : Addr, eval (.Call (.Attribute (.Call (.Name "super" p0) [] [] p1) "__init__" apos) [e] [] pos) (PySem.W.ksEnv qual scope L f (.ref cda) cc) = (do
      let ov ← attributeBase (.Call (.Name "super" p0) [] [] p1) "__init__" (PySem.W.ksEnv qual scope L f (.ref cda) cc) (eval (.Call (.Name "super" p0) [] [] p1) (PySem.W.ksEnv qual scope L f (.ref cda) cc))
      standAt apos.atName
      let (f1, first) ← holding [ov] (getMethod ov "__init__" pl)
      callWith pos f1 first (backTo pos (starEach [e] (PySem.W.ksEnv qual scope L f (.ref cda) cc))) []))
    (hst : ∀ L : Addr, starEach [e] (PySem.W.ksEnv qual scope L f (.ref cda) cc) = [(false, eval e (PySem.W.ksEnv qual scope L f (.ref cda) cc))])
    (hsw : ∀ L : Addr, swapsWith (.Call (.Attribute (.Call (.Name "super" p0) [] [] p1) "__init__" apos) [e] [] pos) none pos2.line (PySem.W.ksEnv qual scope L f (.ref cda) cc) = pure false)
    (hint : ∀ L : Addr, interactive (PySem.W.ksEnv qual scope L f (.ref cda) cc) = false) :
    FnH P w K mg base (L2.CX P w) (k + 1) f (PySem.W.ksFn name qual params (.Expr (.Call (.Attribute (.Call (.Name "super" p0) [] [] p1) "__init__" apos) [e] [] pos) pos2 :: rest) scope .none kV doc pm an (.ref cda) ct cc) ps (spI N ps C te tr) := by
  refine ⟨fun vs H Q E h => h.1, fun A outer s H args us vs Q E p hr hot hpin e0 hb r hsp => ?_⟩
  obtain ⟨hl, a, ha0, ea, hq⟩ := hsp
  have KX : K.In s.heap := e0.mod.kin.keeps fun b o e => (e0.bs b o e).1
  have lim : s.heap.NoLimit := e0.mod.nolimit.keeps fun b o e => (e0.bs b o e).1
  have hrd := hr.deeper (PySem.W.ksEnv qual scope s.heap.objs.size f (.ref cda) cc)
  refine PySem.ks_codeAny_call_defAt hr.depth (KX _ _ lk) rfl lim (PySem.W.codeRec_of KX hcd) rfl hb S.nocell (fun y hy => S.par y.1 (List.of_mem_zip hy).1) (fun h₀ hns hk => ?_) S.co S.gen S.kind
  have I := inv_startIH (P := P) (w := w) (E := E) (qual := qual) (f := f) (cd := .ref cda) (tk := s.toks + (ps.zip us).length) S Z hpin e0 hl r hns hk
  have hs0 : (L2.start N vs)[0]? = some (some (.ref a)) := by
    unfold L2.start
    rw [List.getElem?_append_left (by rw [List.length_map, hl]; exact hps), List.getElem?_map, ha0]
    rfl
  have w1 := sup_stmt (X := cxIH P w K mg base N qual scope f (.ref cda) cc A outer s H E p) (p0 := p0) (p1 := p1) (apos := apos) (pos := pos) (pos2 := pos2) (body := .Expr (.Call (.Attribute (.Call (.Name "super" p0) [] [] p1) "__init__" apos) [e] [] pos) pos2 :: rest) rfl S Z T rfl h0 hself lk hp har hmain htop hm I hs0 ea (he A outer s H E p hrd) hq (hev _) (hst _) (hsw _) (hint _)
  refine PySem.ks_wpAt_execs_cons ?_
  refine PySem.ks_wpAt_mono w1 (fun fl s1 h1 => ?_) fun _ _ z => z
  obtain ⟨rfl, H2, I2, q2⟩ := h1
  refine wpAt_of_wpAny ?_
  refine wpAny_mono ((hrest A outer s H E p hrd).run [] s1 (L2.start N vs) H2 _ I2 q2) (fun fl s' hs => ?_) fun e s' hs => hs
  have fin : ∀ {σ' : L2.St} {H' : Hp} {v : V} {u : Value}, Inv (cxIH P w K mg base N qual scope f (.ref cda) cc A outer s H E p) [] σ' H' s' → RelV v u → Q v H' → CE outer P w H s Q u s' :=
    fun {σ' H' v u} J rv q => ⟨v, H', J.os, J.bare, J.base, J.hok, rv, q⟩
  cases fl with
  | ret u =>
    obtain ⟨v, σ', H', J, rv, q⟩ := hs
    exact fin J rv q
  | next =>
    obtain ⟨σ', H', J, q⟩ := hs
    exact fin (v := V.non) (u := Value.none) J rfl q
  | brk =>
    obtain ⟨_, _, _, q⟩ := hs
    exact q.elim
  | cont =>
    obtain ⟨_, _, _, q⟩ := hs
    exact q.elim
end
def HasXH (P : Program) (w : World) (K : PySem.W.Frag) (mg : Str → Option Value) (base : Heap) (k : Nat) (c : Str) (n : Nat) (mk : XM) : Prop :=
  OexC K (He.ga K c) ∧ PySem.W.findIn K (.ref (He.ga K c)) "__init__" = some (some (.ref (He.fAd K (c, some "__init__")))) ∧ PySem.W.typeIn K (.ref (He.fAd K (c, some "__init__"))) = some (.type "function") ∧
  ∃ fd ps sp, FnH P w K mg base (L2.CX P w) k (He.fAd K (c, some "__init__")) fd ps sp ∧ Binds K fd ps [] ∧ ∀ (S : Hp) (r : Rg) (O : Store) (H : Hp) (a : Addr) (ds : List D) (ws : List V) (fs : List (Str × D)) (O' : Store) (Qx : Option Addr → Hp → Prop) (E : XK), Rs K (He.ga K) S r O H → RpAll K S r ds ws → ds.length = n → H a = none → mk ds O = some (fs, O') →
    EndI K (He.ga K) S r O' fs Qx → sp (V.ref a :: ws) (upd H a (exo a (He.ga K c) none)) (QI a (He.ga K c) H Qx) E
section
variable {P : Program} {w : World} {K : PySem.W.Frag} {mg : Str → Option Value} {base : Heap} {main : Str} {d : IniD} {N ps : List Str} {self : Str} {ar : Arg} {e : Expr} {rest : List Stmt} {ms : EM} {p0 p1 apos pos pos2 : Pos} {k : Nat}
theorem hasXH_tr {tr : TS} {mk : XM} {n : Nat} (I : IniK K main d) (hbody : d.body = .Expr (.Call (.Attribute (.Call (.Name "super" p0) [] [] p1) "__init__" apos) [e] [] pos) pos2 :: rest) (S : SupScope N ps d.scope) (h0 : N[0]? = some self) (hps : ps.length = n + 1) (hp : (d.params.posonlyargs ++ d.params.args).head? = some ar) (har : ar.arg = self) (hself : d.scope.names.lookup self = some .local)
    (hmain : ((P.main.file : Str) == main) = true) (htop : (P.main.scope.names.lookup ("super" : Str)).isSome = false) (hm : mg "super" = none)
    (hbind : ∀ (f : Addr) (fd : FuncData) (kV doc pm : Value) (an : Option Addr) (cda : Value) (ct : Value) (cc : Addr) (us : List Value), us.length = ps.length → bindArgs (PySem.W.ksFn "__init__" d.qual d.params d.body d.scope .none kV doc pm an cda ct cc) ⟨us, []⟩ = pure (ps.zip us))
    (he : ∀ (f cda cc : Addr) (A : Around) (outer : List Env) (s : Shared) (H : Hp) (E : XK) (p : Addr × Obj), RoomH k (A.deeper (PySem.W.ksEnv d.qual d.scope s.heap.objs.size f (.ref cda) cc)) → PE (cxIH P w K mg base N d.qual d.scope f (.ref cda) cc A outer s H E p) e (tE K (He.ga K) JT WF ms))
    (hrest : ∀ (f cda cc : Addr) (A : Around) (outer : List Env) (s : Shared) (H : Hp) (E : XK) (p : Addr × Obj), PSs (cxIH P w K mg base N d.qual d.scope f (.ref cda) cc A outer s H E p) rest tr)
    {pl : Sem Bool} (hev : ∀ f cda cc L : Addr, eval (.Call (.Attribute (.Call (.Name "super" p0) [] [] p1) "__init__" apos) [e] [] pos) (PySem.W.ksEnv d.qual d.scope L f (.ref cda) cc) = (do
      let ov ← attributeBase (.Call (.Name "super" p0) [] [] p1) "__init__" (PySem.W.ksEnv d.qual d.scope L f (.ref cda) cc) (eval (.Call (.Name "super" p0) [] [] p1) (PySem.W.ksEnv d.qual d.scope L f (.ref cda) cc))
      standAt apos.atName
      let (f1, first) ← holding [ov] (getMethod ov "__init__" pl)
      callWith pos f1 first (backTo pos (starEach [e] (PySem.W.ksEnv d.qual d.scope L f (.ref cda) cc))) []))
    (hst : ∀ f cda cc L : Addr, starEach [e] (PySem.W.ksEnv d.qual d.scope L f (.ref cda) cc) = [(false, eval e (PySem.W.ksEnv d.qual d.scope L f (.ref cda) cc))])
    (hsw : ∀ f cda cc L : Addr, swapsWith (.Call (.Attribute (.Call (.Name "super" p0) [] [] p1) "__init__" apos) [e] [] pos) none pos2.line (PySem.W.ksEnv d.qual d.scope L f (.ref cda) cc) = pure false)
    (hint : ∀ f cda cc L : Addr, interactive (PySem.W.ksEnv d.qual d.scope L f (.ref cda) cc) = false)
    (hsp : ∀ (S : Hp) (r : Rg) (O : Store) (H : Hp) (a : Addr) (ds : List D) (ws : List V) (fs : List (Str × D)) (O' : Store) (Qx : Option Addr → Hp → Prop) (E : XK), Rs K (He.ga K) S r O H → RpAll K S r ds ws → ds.length = n → H a = none → mk ds O = some (fs, O') → EndI K (He.ga K) S r O' fs Qx →
      spI N ps (He.ga K d.cls) (tE K (He.ga K) JT WF ms) tr (V.ref a :: ws) (upd H a (exo a (He.ga K d.cls) none)) (QI a (He.ga K d.cls) H Qx) E) :
    HasXH P w K mg base (k + 1) d.cls n mk := by
  obtain ⟨oc, od, kV, doc, pm, an, cda, ct, cc, osl, lk, hcd, Z⟩ := I.lk
  refine ⟨I.T, I.iC, I.tI, _, ps, _, fnIH_of (kV := kV) (doc := doc) (pm := pm) (ct := ct) (an := an) (main := main) (by rw [hbody] at lk; exact lk) hcd S Z I.T h0 (by omega) hp har hself hmain htop hm (fun A outer s H E p hr => he _ cda cc A outer s H E p hr) (fun A outer s H E p hr => hrest _ cda cc A outer s H E p) (fun L => hev _ cda cc L) (fun L => hst _ cda cc L) (fun L => hsw _ cda cc L) (fun L => hint _ cda cc L), ?_, hsp⟩
  exact .all fun us hl => by
    have := hbind (He.fAd K d.at_) (PySem.W.ksFn "__init__" d.qual d.params d.body d.scope .none kV doc pm an (.ref cda) ct cc) kV doc pm an (.ref cda) ct cc us hl
    rw [hbody] at this
    exact this
end
theorem ds_raiseXH {X : Cx} {J : JP} {W : WX} {k n : Nat} {c x : Str} {mk : XM} {p p2 pos : Pos} {e : Expr} {es : List Expr} {mt : AM} {jn : Nat} {cpos : Pos} (hc : HotC X) (tk : L2.Takes X W) (F : HasXH X.prog X.w X.K X.mg X.base k c n mk) (hr : RoomH (k + 1) X.A) (hg : Gl X x) (hm : X.mg x = some (.ref (He.ga X.K c))) (ha : PA X (e :: es) (tA X.K (He.ga X.K) J W mt))
    (hdb : (x == ("__debug__" : Str)) = false := by decide) (he : starEach (e :: es) X.env = (false, eval e X.env) :: starEach es X.env := by rfl) (hpl : (backTo p2 (starEach es X.env)).any (·.1) = false := by rfl) :
    PS X (.Raise (some (.Call (.Name x p) (e :: es) [] p2)) (some (.Constant .none jn cpos)) pos) (tS X.K (He.ga X.K) J W (sRaiseX c n mk mt)) := by
  obtain ⟨T, iC, tI, fd, ps, sp, F1, hb, hsp⟩ := F
  have hx : Passes (L2.CX X.prog X.w) X (fun _ _ _ => False) := fun pins σ H s e s' I c => by
    obtain ⟨_, _, _, _, _, _, _, _, _, _, _, _, z⟩ := c
    exact z.elim
  refine ps_imp (ps_raiseHN hc tk (pmk5_oexH T iC tI F1 hr hc hb hx hg hm ha hdb he hpl)) ?_
  rintro En σ H ⟨S, r, L, O, j, rl, rs, z⟩
  refine ⟨S, r, L, O, j, rl, rs, (bindS j rl z).imp ?_⟩
  rintro vs H1 ⟨S1, r1, ds, O1, e1, q1, p1, k1⟩
  split at k1
  · rename_i hn
    split at k1
    · rename_i fp hmk
      refine ⟨by rw [p1.length, hn.1]; exact hn.2, fun a ha => ?_⟩
      rw [List.append_nil]
      refine hsp S1 r1 O1 H1 a ds vs fp.1 fp.2 (fun d H' => W (.ref (He.ga X.K c)) d σ H') _ q1 p1 hn.1 ha hmk ⟨fun S2 r2 H4 dd gs e2 q2 hdd pg => ?_⟩
      exact k1 S2 r2 σ H4 (some dd) e2 (J.mono (e1.trans e2).s j) (rl.mono (e1.trans e2)) q2 ⟨dd, gs, rfl, hdd, pg⟩
    · exact k1.elim
  · exact k1.elim
end DK
end
section
set_option Elab.async false
set_option linter.all false
set_option autoImplicit false
set_option maxRecDepth 100000
set_option maxHeartbeats 4000000
/-! DKHotA: `except x as n:` whose suite raises out of the try. -/
namespace DK
open PySem PySem.Spec PyProof.Rows L2 L2H HotX
end DK
end
section
set_option Elab.async false
set_option linter.all false
set_option autoImplicit false
set_option maxRecDepth 100000
set_option maxHeartbeats 4000000
/-! DKHotB: the rule for `except x as n:` with a suite that may raise out of the try. -/
namespace DK
open PySem PySem.Spec PyProof.Rows L2 L2H HotX
end DK
end
section
set_option Elab.async false
set_option linter.all false
set_option autoImplicit false
set_option maxRecDepth 100000
set_option maxHeartbeats 4000000
/-! DKHotC: `except x as n:` with a suite that may raise, by mirrors. -/
namespace DK
open PySem L2
end DK
end
section
set_option Elab.async false
set_option linter.all false
set_option autoImplicit false
set_option maxRecDepth 100000
set_option maxHeartbeats 4000000
/-! DKNw: what is told of a def whose exceptions have no context holds of it as well where that is not asked. -/
namespace DK
open PySem L2
theorem cx_weak {P : Program} {w : World} {outer : List Env} {H : Hp} {s s' : Shared} {E : XK} {u : Value} (h : L2N.CX P w outer H s E u s') : L2.CX P w outer H s E u s' := by
  obtain ⟨a, B, H', cls, d, e, fl, r⟩ := h
  exact ⟨a, B, H', cls, d, e, L2H.flyingZ_imp (fun o z => z.zc) fl, r⟩
theorem fnOk_weak {P : Program} {w : World} {K : PySem.W.Frag} {mg : Str → Option Value} {base : Heap} {k : Nat} {f : Addr} {fd : FuncData} {ps : List Str} {sp : Sp} (F : FnOk P w K mg base (L2N.CX P w) k f fd ps sp) : FnOk P w K mg base (L2.CX P w) k f fd ps sp :=
  ⟨F.len, fun A outer s H args us vs Q E hr e0 hb r h => codeAny_mono (F.run A outer s H args us vs Q E hr e0 hb r h) fun q s' hq => by
    cases q with
    | error e => exact cx_weak hq
    | ok fl =>
      cases fl with
      | ret u => exact hq
      | next => exact hq.elim
      | brk => exact hq.elim
      | cont => exact hq.elim⟩
theorem has_weak {P : Program} {w : World} {K : PySem.W.Frag} {mg : Str → Option Value} {base : Heap} {k : Nat} {d : He.DefD} {ps : List Str} {fm : FM} (h : N.Has P w K mg base k d ps fm) : Has P w K mg base k d ps fm := by
  obtain ⟨fd, F, O⟩ := h
  exact ⟨fd, F, fnOk_weak O⟩
end DK
end
section
set_option Elab.async false
set_option linter.all false
set_option autoImplicit false
set_option maxRecDepth 100000
set_option maxHeartbeats 4000000
/-! DKNx: raise and try, told with exceptions that have no context: printed by dknx.py. -/
namespace DK.N
open PySem PySem.Spec PyProof.Rows L2 DK HotX
section
variable {X : Cx}
/-- an own error without own __init__, made where nothing is handled -/
theorem mk_ownA {C : Addr} {bmB : List Value} {B newId initId : String} {x : Str} {p pos : Pos} {e : Expr} {es : List Expr} {t : TA} (F : ExcBaseFacts B newId initId bmB) (q : PySem.W.excIn X.K C bmB newId = true) (gC : X.mg x = some (.ref C))
    (kC : PySem.W.keepIn X.K (.ref C) = true) (r : Raises X (.ref C)) (hg : Gl X x) (ha : PA X (e :: es) t) (hdb : (x == ("__debug__" : Str)) = false := by decide)
    (he : starEach (e :: es) X.env = (false, eval e X.env) :: starEach es X.env := by rfl) (hpl : (backTo pos (starEach es X.env)).any (·.1) = false := by rfl) :
    L2N.PMk X (.Call (.Name x p) (e :: es) [] pos) (fun σ H Q => t σ H fun vs H1 => vs.length ≤ sizeLine ∧ Q (.ref C) none H1) := fun pins s σ H Q I h => by
  refine wpAny_Call_Name_kw (ld_glob I hg gC (PySem.W.callWith_K (h₀ := X.base) I.ok.mod.kin kC (thn (ha.run pos pins s σ H _ I h) fun us s1 ⟨vs, H1, I1, r1, hz, q1⟩ => ⟨I1.kIn, ?_⟩) he hpl) hdb)
  show wpAny _ _ (call (.ref C) us) _ _ _
  obtain ⟨bm, N, nm, qn, bs, hdct, sn, sub, ab, col, dd, k0, k1, k2, k3, k5, mN, hC, hN, hni, T⟩ := exc_obj I1.kIn q
  exact wpAny_call_exc_subT F T hC hN hni (fun h' e hm => L2N.mk_of I1 hm r q1 (I1.hok.gone hm.new)) (by rw [← Paired.length r1]; exact hz)
end
section
variable {X : Cx} {ad : Str → Addr} {J : JP} {W : WX} {pos pos' p p2 np : Pos} {e : Expr} {es : List Expr} {mt : AM} {c : Str} {body suite : List Stmt} {b0 : Stmt} {sb : SM} {ss : Str → SM}
theorem ds_raise {x : Str} {bmB : List Value} {B newId initId : String} (hc : X.calm = true) (tk : L2N.Takes X W) (F : ExcBaseFacts B newId initId bmB) (q : PySem.W.excIn X.K (ad c) bmB newId = true) (gC : X.mg x = some (.ref (ad c))) (kC : PySem.W.keepIn X.K (.ref (ad c)) = true) (r : Raises X (.ref (ad c))) (hg : Gl X x)
    (ha : PA X (e :: es) (tA X.K ad J W mt)) (hdb : (x == ("__debug__" : Str)) = false := by decide) (he : starEach (e :: es) X.env = (false, eval e X.env) :: starEach es X.env := by rfl) (hpl : (backTo p2 (starEach es X.env)).any (·.1) = false := by rfl) :
    PS X (.Raise (some (.Call (.Name x p) (e :: es) [] p2)) none pos) (tS X.K ad J W (sRaise c mt)) := by
  refine ps_imp (L2N.ps_raise hc tk (mk_ownA F q gC kC r hg ha hdb he hpl)) ?_
  rintro En σ H ⟨S, r, L, O, j, rl, rs, z⟩
  refine ⟨S, r, L, O, j, rl, rs, (bindS j rl z).imp ?_⟩
  rintro vs H1 ⟨S1, r1, ds, O1, e1, s1, p1, q1⟩
  replace q1 : PostS X.K ad J W S1 r1 En (if ds.length ≤ 1000 then .exc ⟨c, none⟩ L O1 else .bad) := q1
  split at q1
  · rename_i hl
    exact ⟨by rw [p1.length]; exact million (by omega), q1 S1 r1 σ H1 none (Ext.refl _ _) (J.mono e1.s j) (rl.mono e1) s1 rfl⟩
  · exact q1.elim
end
end DK.N
end
section
set_option Elab.async false
set_option linter.all false
set_option autoImplicit false
set_option maxRecDepth 100000
set_option maxHeartbeats 4000000
/-! DKHotD: printed by dkhotd.py. -/
namespace DK
open PySem L2
end DK
end
section
set_option Elab.async false
set_option linter.all false
set_option autoImplicit false
set_option maxRecDepth 100000
set_option maxHeartbeats 4000000
/-! DKHotE: `except x:` with a suite that may raise, by mirrors. -/
namespace DK
open PySem L2
def sTryEN (subc : Str → Option Bool) (b : SM) (suite : Exn → SM) : SM := fun L O => match b L O with
  | .next L1 O1 => .next L1 O1
  | .ret d O1 => .ret d O1
  | .brk L1 O1 => .brk L1 O1
  | .cnt L1 O1 => .cnt L1 O1
  | .exc x L1 O1 => match subc x.cls with
    | some true => if okX x = true then suite x L1 O1 else .bad
    | some false => .exc x L1 O1
    | none => .bad
  | .bad => .bad
section
variable {X : Cx} {ad : Str → Addr} {W : WX} {pos pos' p p2 np : Pos} {e : Expr} {es : List Expr} {mt : AM} {c : Str} {body suite : List Stmt} {b0 : Stmt} {sb : SM} {ss : Exn → SM}
theorem ds_tryEN {x : Str} {cv : Value} {subc : Str → Option Bool} (hs : X.stack = X.env :: X.outer) (hf : X.env.frame = some X.env.locals) (hc : Names X x cv)
    (hpa : ∀ hd : Option Value, PassesOwnAt (model X.prog X.w) (X.A.mark hd) X.A X.env X.xe) (tk : L2.Takes X W)
    (hsub : ∀ nm b, subc nm = some b → PySem.W.exmOne X.K (.ref (ad nm)) cv = some b)
    (hb : ∀ (W : WX) (pn : List (Addr × Obj)) (xe : Value → Shared → Prop), L2N.Takes (X.tr pn xe) W → PassesOwn (model X.prog X.w) X.A X.env xe → PSs (X.tr pn xe) body (tS X.K ad JT W sb))
    (hsu : ∀ (y : Exn) (a : Addr) (od : Option Addr) (oe : Obj) (pn : List (Addr × Obj)), subc y.cls = some true → Zc (.ref (ad y.cls)) od oe → (∃ vs, oe.data = .fields vs) → L2.Takes (L2H.suiteX X a ((a, oe) :: pn)) W → L2H.HotC (L2H.suiteX X a ((a, oe) :: pn)) →
      PSs (L2H.suiteX X a ((a, oe) :: pn)) (b0 :: suite) (tS X.K ad (Jn y od) W (ss y))) :
    PS X (.Try body [.ExceptHandler (some (.Name x np)) none (b0 :: suite) pos'] [] [] pos) (tS X.K ad JT W (sTryEN subc sb ss)) := by
  refine ps_imp (L2H.ps_try_onlyX (tb := fun W => tS X.K ad JT W sb) (ts := fun a cls d En σ H => ∃ y : Exn, (cls = .ref (ad y.cls) ∧ subc y.cls = some true) ∧ tS X.K ad (Jn y d) W (ss y) En σ H) hs hf hc hpa tk (fun W pn xe t1 _ t3 => hb W pn xe t1 t3) ?_) ?_
  · intro a oe cls d pn hz hfl t h
    exact pss_ex fun y hp => by
      obtain ⟨rfl, h3⟩ := hp
      exact hsu y a d oe pn h3 hz.zc hfl t h
  rintro En σ H ⟨S, r, L, O, j, rl, rs, z⟩
  refine ⟨S, r, L, O, j, rl, rs, ?_⟩
  unfold sTryEN at z
  generalize sb L O = q at z
  cases q with
  | next L O => exact z
  | ret L O => exact z
  | brk L O => exact z
  | cnt L O => exact z
  | bad => exact z.elim
  | exc y L1 O1 =>
    intro S1 r1 σ1 H1 d e1 j1 l1 s1 hd
    cases hsc : subc y.cls with
    | none => simp only [hsc] at z; exact z.elim
    | some b =>
      simp only [hsc] at z
      refine ⟨b, hsub _ b hsc, fun hbt a ha => ?_, fun hbf => ?_⟩
      · subst hbt
        simp only at z
        split at z
        · rename_i ho
          refine ⟨y, ⟨rfl, hsc⟩, S1, r1, L1, O1, xfR_of hd ho, l1, s1, ?_⟩
          generalize ss y L1 O1 = q at z
          cases q with
          | next L2 O2 => exact fun S2 r2 σ2 H2 e2 j2 l2 s2 => z S2 r2 _ H2 (e1.trans e2) trivial l2 s2
          | ret d O2 => exact fun S2 r2 H2 v e2 s2 p2 => z S2 r2 H2 v (e1.trans e2) s2 p2
          | brk L2 O2 => exact fun S2 r2 σ2 H2 e2 j2 l2 s2 => z S2 r2 _ H2 (e1.trans e2) trivial l2 s2
          | cnt L2 O2 => exact fun S2 r2 σ2 H2 e2 j2 l2 s2 => z S2 r2 _ H2 (e1.trans e2) trivial l2 s2
          | exc x L2 O2 => exact fun S2 r2 σ2 H2 d2 e2 j2 l2 s2 x2 => z S2 r2 _ H2 d2 (e1.trans e2) trivial l2 s2 x2
          | bad => exact z.elim
        · exact z.elim
      · subst hbf
        exact z S1 r1 σ1 H1 d e1 j1 l1 s1 hd
end
end DK
end
section
set_option Elab.async false
set_option linter.all false
set_option autoImplicit false
set_option maxRecDepth 100000
set_option maxHeartbeats 4000000
/-! DKRepl: text.replace(y, z) of two written texts, where a token is out already; by mirrors. -/
namespace DK
open PySem PySem.Spec PyProof.Rows L2
theorem pet_imp {X : Cx} {e : Expr} {t t' : TE} (h : PET X e t) (k : ∀ σ H Q, t' σ H Q → t σ H Q) : PET X e t' := fun pins s σ H Q h0 I q => h pins s σ H Q h0 I (k σ H Q q)
theorem psst_imp {X : Cx} {e : List Stmt} {t t' : TS} (h : PSsT X e t) (k : ∀ En σ H, t' En σ H → t En σ H) : PSsT X e t' := fun pins s σ H En h0 I q => h pins s σ H En h0 I (k En σ H q)
theorem pst_imp {X : Cx} {e : Stmt} {t t' : TS} (h : PST X e t) (k : ∀ En σ H, t' En σ H → t En σ H) : PST X e t' := fun pins s σ H En h0 I q => h pins s σ H En h0 I (k En σ H q)
/-! ### by mirrors -/
def mRepl (y z : Str) (m : EM) : EM := fun L O => (m L O).bind fun d O1 => match d with
  | .str x => if x.length + (x.length + 1) * z.length ≤ 16777216 then .ok (.str (Txt.replace x y z)) O1 else .bad
  | _ => .bad
section
variable {X : Cx} {ad : Str → Addr} {J : JP} {W : WX} {pos apos cpos p p' : Pos} {a c e o : Expr} {es : List Expr} {ma mo : EM} {mt : AM} {ta tm : TM} {s1 s2 s3 : SM} {body els rest : List Stmt} {st : Stmt} {y z : Str} {j k : Nat} {c0 c1 : Pos}
theorem det_repl (ho : PE X o (tE X.K ad J W mo)) (hyz : (y == z) = false := by decide)
    (hst : starEach [.Constant (.str y) j c0, .Constant (.str z) k c1] X.env = [(false, eval (.Constant (.str y) j c0) X.env), (false, eval (.Constant (.str z) k c1) X.env)] := by rfl)
    (hbase : attributeBase o "replace" X.env (eval o X.env) = eval o X.env := by rfl) (hline : (apos.endLine == pos.line) = true := by rfl) :
    PET X (.Call (.Attribute o "replace" apos) [.Constant (.str y) j c0, .Constant (.str z) k c1] [] pos) (tE X.K ad J W (mRepl y z mo)) := by
  refine pet_imp (CwR.pet_replC ho hyz hst hbase hline) ?_
  rintro σ H Q ⟨S, r, L, O, jj, rl, rs, q⟩
  refine ⟨S, r, L, O, jj, rl, rs, (Post.bind q).imp ?_⟩
  rintro v H1 ⟨S1, r1, d, O1, e1, s1, p1, q1⟩
  cases d with
  | str x =>
    by_cases hl : x.length + (x.length + 1) * z.length ≤ 16777216
    · simp only [if_pos hl] at q1
      exact ⟨x, p1, hl, q1 S1 r1 H1 _ (Ext.refl _ _) s1 rfl⟩
    · simp only [if_neg hl] at q1
      exact q1.elim
  | hdl n => exact q1.elim
  | lst n => exact q1.elim
  | rol n => exact q1.elim
  | tup n => exact q1.elim
  | non => exact q1.elim
  | bl b => exact q1.elim
  | int i => exact q1.elim
theorem if_imp {σ : L2.St} {H : Hp} {En : Ends} (h : tS X.K ad J W (sIf tm s1 s2) En σ H) : tIfS (tT X.K ad J W tm) (tS X.K ad J W s1) (tS X.K ad J W s2) En σ H := by
  obtain ⟨S, r, L, O, j, rl, rs, p⟩ := h
  refine ⟨S, r, L, O, j, rl, rs, (bindS j rl p).imp ?_⟩
  rintro k H1 ⟨S1, r1, d, O1, e1, q1, rfl, k1⟩
  cases k with
  | true =>
    rw [if_pos rfl] at k1 ⊢
    exact ⟨S1, r1, L, O1, J.mono e1.s j, rl.mono e1, q1, k1⟩
  | false =>
    rw [if_neg Bool.false_ne_true] at k1 ⊢
    exact ⟨S1, r1, L, O1, J.mono e1.s j, rl.mono e1, q1, k1⟩
theorem dsst_one (h : PST X st (tS X.K ad J W s1)) : PSsT X [st] (tS X.K ad J W s1) := CwR.psst_one h
end
/-! ### behind a written text that a test hands over, a token is out -/
end DK
end
section
set_option Elab.async false
set_option linter.all false
set_option autoImplicit false
set_option maxRecDepth 100000
set_option maxHeartbeats 4000000
/-! DKReplL: behind a written list of texts a token is out; statements where a token is out. -/
namespace DK
open PySem PySem.Spec PyProof.Rows L2 CwR
section
variable {X : Cx} {ad : Str → Addr} {J : JP} {W : WX} {pos pos' p2 c0 : Pos} {c e : Expr} {es : List Expr} {m : EM} {mt : AM} {tm : TM} {s1 s2 s3 : SM} {body els rest : List Stmt} {st : Stmt} {y : Str} {j : Nat} {ta : TA}
theorem lst_toks (hr : PA X es ta) (hs : starEach (.Constant (.str y) j c0 :: es) X.env = (false, eval (.Constant (.str y) j c0) X.env) :: starEach es X.env)
    (pins : List (Addr × Obj)) (s : Shared) (σ : L2.St) (H : Hp) (Q : VK) (I : Inv X pins σ H s) (h : tLst (tCons (tC (.str y)) ta) σ H Q) :
    wpAny (model X.prog X.w) X.A (eval (.List (.Constant (.str y) j c0 :: es) pos) X.env) (fun v s' => 1 ≤ s'.toks ∧ EP X pins σ Q v s') X.xe s := by
  refine wpAny_List_spliced ?_
  rw [hs]
  show wpAny _ _ (spliced ((false, eval (.Constant (.str y) j c0) X.env) :: backTo pos (starEach es X.env))) _ _ s
  refine Calls.spliced_cons (Calls.Constant_str ?_)
  refine wpAny_mono (PySem.wpAny_toks (hr.run pos pins { s with toks := s.toks + 1 } σ H _ (I.tok _) h)) (fun us s2 q => ?_) fun _ _ z => z.2
  obtain ⟨hk, xs, H1, I1, r, z, q⟩ := q
  have hk : s.toks + 1 ≤ s2.toks := hk
  have r' : Vals (V.str y :: xs) (Value.str y s.toks :: us) := Paired.cons ⟨_, rfl⟩ r
  refine ⟨by rw [← r'.length]; exact z, by show 1 ≤ s2.toks; omega, ?_⟩
  have hf : H1 s2.heap.objs.size = none := I1.hok.fresh (Nat.le_refl _)
  refine ⟨.ref s2.heap.objs.size, upd H1 s2.heap.objs.size (.lst (V.str y :: xs)), I1.laid (t' := s2.toks) (fun b u e => Heap.get?_push_of_some _ e) (Nat.le_refl _) ?_, rfl, q _ hf⟩
  exact ⟨z, Value.str y s.toks :: us, 0, r', Heap.get?_push_size _ rfl⟩
/-- x = ['..', ..]: behind it, what wants a token -/
theorem dss_lstT {i : Nat} {x : Str} {hm : Bool} (hN : X.N.Nodup) (hi : X.N[i]? = some x) (hx : L2.Loc X.env.scope x) (he : PA X es (tA X.K ad J W mt)) (hr : PSsT X rest (tS X.K ad J W s3)) (hJ : ∀ (σ : L2.St) (v : Option V) (S : Hp), J.p σ S → J.p (σ.set i v) S := by intro _ _ _ _; trivial)
    (hs : starEach (.Constant (.str y) j c0 :: es) X.env = (false, eval (.Constant (.str y) j c0) X.env) :: starEach es X.env := by rfl)
    (hsw : swapsWith (.List (.Constant (.str y) j c0 :: es) p2) (some (.Name x pos')) pos.line X.env = pure false := by rfl) (hf : X.fn x = true ∨ X.env.scope.names.lookup x = some .local := by first | exact .inl rfl | exact .inr rfl | assumption) :
    PSs X (.Assign [.Name x pos'] (.List (.Constant (.str y) j c0 :: es) p2) pos :: rest) (tS X.K ad J W (sSeq (sAsg (mLst hm (mCons (mC (.str y)) mt)) (bName i)) s3)) := by
  have raw : PSs X (.Assign [.Name x pos'] (.List (.Constant (.str y) j c0 :: es) p2) pos :: rest) (tSeq (tAsg (tLst (tCons (tC (.str y)) (tA X.K ad J W mt))) (gName i)) (tS X.K ad J W s3)) := by
    refine ⟨fun pins s σ H D I h => ?_⟩
    refine wpAny_execs_cons (wpAny_Assign_Name (wpAny_mono (lst_toks he hs pins s σ H (fun v H1 => tS X.K ad J W s3 D (σ.set i (some v)) H1) I h) (fun v s1 q => ?_) fun _ _ z => z) hsw)
    obtain ⟨hk, z, H1, I1, r1, q1⟩ := q
    refine wpAny_mono (PySem.wpAny_toks (store_ok (Q := fun _ s2 => Inv X pins (σ.set i (some z)) H1 s2) I1 hN hi hx r1 (fun _ I2 => I2) hf)) (fun _ s2 q => ?_) fun _ _ z => z.2
    exact hr pins s2 _ H1 D (Nat.le_trans hk q.1) q.2 q1
  refine pss_imp raw ?_
  rintro En σ H ⟨S, r, L, O, jj, rl, rs, p⟩
  have key : tS X.K ad J W (sAsg (mLst hm (mCons (mC (.str y)) mt)) (bName i)) { En with nx := tS X.K ad J W s3 En } σ H := by
    refine ⟨S, r, L, O, jj, rl, rs, ?_⟩
    unfold sSeq at p
    generalize (sAsg (mLst hm (mCons (mC (.str y)) mt)) (bName i)) L O = z at p
    cases z with
    | next L1 O1 => exact fun S1 r1 σ1 H1 e1 j1 l1 q1 => ⟨S1, r1, L1, O1, j1, l1, q1, PostS.mono e1 p⟩
    | ret d O1 => exact p
    | exc x L1 O1 => exact p
    | brk L1 O1 => exact p
    | cnt L1 O1 => exact p
    | bad => exact p
  have k2 := asg_imp (t := gName i) (fun v σ H Q ⟨S, r, L, O, d, jj, rl, rs, rp, p⟩ => p S r _ H (Ext.refl _ _) (hJ _ _ _ jj) (rl.set i rp) rs) _ _ _ key
  obtain ⟨S, r, L, O, jj, rl, rs, p⟩ := (show tE X.K ad J W (mLst hm (mCons (mC (.str y)) mt)) σ H _ from k2)
  have q : Post X.K ad (fun S r => RpAll X.K S r) W σ S r _ ((mt L O).bind fun ds O2 => Res.ok (D.str y :: ds) O2) := Post.bind (f := fun xs O1 => newL hm xs O1) p
  refine ⟨S, r, L, O, jj, rl, rs, (Post.bind q).imp ?_⟩
  rintro vs H1 ⟨S1, r1, ds, O1, e1, q1, p1, k1⟩
  obtain ⟨S2, r2, ds2, O2, e2, q2, p2, k2⟩ := k1 S1 r1 H1 (.str y :: vs) (Ext.refl _ _) q1 ⟨.str y, vs, rfl, rfl, p1⟩
  exact newL_post q2 p2 k2
theorem dst_of (h : PS X st (tS X.K ad J W s1)) : PST X st (tS X.K ad J W s1) := PST.of h
theorem dsst_of (h : PSs X body (tS X.K ad J W s1)) : PSsT X body (tS X.K ad J W s1) := PSsT.of h
theorem dsst_cons (h1 : PST X st (tS X.K ad J W s1)) (h2 : PSsT X rest (tS X.K ad J W s2)) : PSsT X (st :: rest) (tS X.K ad J W (sSeq s1 s2)) := by
  refine psst_imp (psst_cons h1 h2) ?_
  rintro En σ H ⟨S, r, L, O, j, rl, rs, p⟩
  refine ⟨S, r, L, O, j, rl, rs, ?_⟩
  unfold sSeq at p
  generalize s1 L O = z at p
  cases z with
  | next L1 O1 => exact fun S1 r1 σ1 H1 e1 j1 l1 q1 => ⟨S1, r1, L1, O1, j1, l1, q1, PostS.mono e1 p⟩
  | ret d O1 => exact p
  | brk L1 O1 => exact p
  | cnt L1 O1 => exact p
  | exc x L1 O1 => exact p
  | bad => exact p
theorem dst_ifP (hc : PT X c (tT X.K ad J W tm)) (ha : PSsT X body (tS X.K ad J W s1)) (hb : PSsT X els (tS X.K ad J W s2)) : PST X (.If c body els pos) (tS X.K ad J W (sIf tm s1 s2)) :=
  pst_imp (pst_if hc ha hb) fun _ _ _ h => if_imp h
theorem dst_set {i : Nat} {x : Str} (hN : X.N.Nodup) (hi : X.N[i]? = some x) (hx : L2.Loc X.env.scope x) (he : PET X e (tE X.K ad J W m)) (hJ : ∀ (σ : L2.St) (v : Option V) (S : Hp), J.p σ S → J.p (σ.set i v) S := by intro _ _ _ _; trivial) (hs : swapsWith e (some (.Name x pos')) pos.line X.env = pure false := by rfl)
    (hf : X.fn x = true ∨ X.env.scope.names.lookup x = some .local := by first | exact .inl rfl | exact .inr rfl | assumption) : PST X (.Assign [.Name x pos'] e pos) (tS X.K ad J W (sAsg m (bName i))) := by
  have raw : PST X (.Assign [.Name x pos'] e pos) (tAsg (tE X.K ad J W m) (gName i)) := fun pins s σ H D h0 I h => by
    refine wpAny_Assign_Name (thn (he pins s σ H _ h0 I h) fun v s1 ⟨y, H1, I1, r1, q1⟩ => ?_) hs
    exact store_ok I1 hN hi hx r1 (fun s2 I2 => ⟨_, H1, I2, q1⟩) hf
  refine pst_imp raw (asg_imp ?_)
  rintro v σ H Q ⟨S, r, L, O, d, j, rl, rs, rp, p⟩
  exact p S r _ H (Ext.refl _ _) (hJ _ _ _ j) (rl.set i rp) rs
end
end DK
end
section
set_option Elab.async false
set_option linter.all false
set_option autoImplicit false
set_option maxRecDepth 100000
set_option maxHeartbeats 4000000
/-! The walk of darkrise_k48_notice_texts_there_and_back: printed by gen.py. -/
namespace DK.k48
open PySem L2 DK
def top (i : Nat) : Stmt := PySem.Challenge.pw_darkrise_k48_notice_texts_there_and_back.main.body.getD i (.Pass ⟨0, 0, 0, 0⟩)
abbrev s_land_init : Stmt := inC (top 31) 0
abbrev s_is_name : Stmt := top 15
abbrev s_checked_name : Stmt := top 16
abbrev s_notices_init : Stmt := inC (top 24) 0
abbrev s_law_cell : Stmt := top 36
abbrev s_law_take : Stmt := top 37
abbrev s_land_kind : Stmt := inC (top 31) 4
abbrev s_land_free : Stmt := inC (top 31) 1
abbrev s_land_room : Stmt := inC (top 31) 3
abbrev s_land_add_station : Stmt := inC (top 31) 5
abbrev s_is_number : Stmt := top 17
abbrev s_checked_number : Stmt := top 18
abbrev s_table_minute : Stmt := inC (top 33) 1
abbrev s_notices_publish : Stmt := inC (top 24) 1
abbrev s_law_is_number : Stmt := top 39
abbrev s_law_is_name : Stmt := top 38
abbrev s_law_due : Stmt := top 40
abbrev s_lines_of : Stmt := top 21
abbrev s_read_number : Stmt := top 19
abbrev s_read_head : Stmt := top 25
abbrev s_read_station : Stmt := top 26
abbrev s_words : Stmt := top 20
abbrev s_read_notice : Stmt := top 27
abbrev s_law_read : Stmt := top 42
abbrev s_land_plants : Stmt := inC (top 31) 11
abbrev s_land_stations : Stmt := inC (top 31) 9
abbrev s_land_lines : Stmt := inC (top 31) 10
abbrev s_named : Stmt := top 34
abbrev s_table_init : Stmt := inC (top 33) 0
abbrev s_notices_row : Stmt := inC (top 24) 3
abbrev s_told : Stmt := top 22
abbrev s_notices_text : Stmt := inC (top 24) 10
abbrev s_law_spoilt : Stmt := top 41
abbrev s_law : Stmt := top 43
def d_land_init : He.DefD := ⟨("Land", some "__init__"), "__init__", "Land.__init__", defArgs s_land_init, defBody s_land_init, defScope s_land_init, [], []⟩
theorem sc_land_init : FnScope ["self"] ["self"] (defScope s_land_init) := ⟨rfl, rfl, rfl, by decide +kernel, rfl, by decide +kernel, by decide +kernel⟩
def d_is_name : He.DefD := ⟨("is_name", none), "is_name", "is_name", defArgs s_is_name, defBody s_is_name, defScope s_is_name, [], []⟩
theorem sc_is_name : FnScope ["word", "sign"] ["word"] (defScope s_is_name) := ⟨rfl, rfl, rfl, by decide +kernel, rfl, by decide +kernel, by decide +kernel⟩
def d_checked_name : He.DefD := ⟨("checked_name", none), "checked_name", "checked_name", defArgs s_checked_name, defBody s_checked_name, defScope s_checked_name, [], []⟩
theorem sc_checked_name : FnScope ["word"] ["word"] (defScope s_checked_name) := ⟨rfl, rfl, rfl, by decide +kernel, rfl, by decide +kernel, by decide +kernel⟩
def d_notices_init : He.DefD := ⟨("Notices", some "__init__"), "__init__", "Notices.__init__", defArgs s_notices_init, defBody s_notices_init, defScope s_notices_init, [], []⟩
theorem sc_notices_init : FnScope ["self", "stations", "word"] ["self", "stations"] (defScope s_notices_init) := ⟨rfl, rfl, rfl, by decide +kernel, rfl, by decide +kernel, by decide +kernel⟩
def d_law_cell : He.DefD := ⟨("_law_cell", none), "_law_cell", "_law_cell", defArgs s_law_cell, defBody s_law_cell, defScope s_law_cell, [], []⟩
theorem sc_law_cell : FnScope ["script", "k"] ["script", "k"] (defScope s_law_cell) := ⟨rfl, rfl, rfl, by decide +kernel, rfl, by decide +kernel, by decide +kernel⟩
def d_law_take : He.DefD := ⟨("_law_take", none), "_law_take", "_law_take", defArgs s_law_take, defBody s_law_take, defScope s_law_take, [], []⟩
theorem sc_law_take : FnScope ["state", "limit", "found", "cell"] ["state", "limit"] (defScope s_law_take) := ⟨rfl, rfl, rfl, by decide +kernel, rfl, by decide +kernel, by decide +kernel⟩
def d_land_kind : He.DefD := ⟨("Land", some "kind"), "kind", "Land.kind", defArgs s_land_kind, defBody s_land_kind, defScope s_land_kind, [], []⟩
theorem sc_land_kind : FnScope ["self", "word"] ["self", "word"] (defScope s_land_kind) := ⟨rfl, rfl, rfl, by decide +kernel, rfl, by decide +kernel, by decide +kernel⟩
def d_land_free : He.DefD := ⟨("Land", some "_free"), "_free", "Land._free", defArgs s_land_free, defBody s_land_free, defScope s_land_free, [], []⟩
theorem sc_land_free : FnScope ["self", "word"] ["self", "word"] (defScope s_land_free) := ⟨rfl, rfl, rfl, by decide +kernel, rfl, by decide +kernel, by decide +kernel⟩
def d_land_room : He.DefD := ⟨("Land", some "_room"), "_room", "Land._room", defArgs s_land_room, defBody s_land_room, defScope s_land_room, [], []⟩
theorem sc_land_room : FnScope ["self", "rows"] ["self", "rows"] (defScope s_land_room) := ⟨rfl, rfl, rfl, by decide +kernel, rfl, by decide +kernel, by decide +kernel⟩
def d_land_add_station : He.DefD := ⟨("Land", some "add_station"), "add_station", "Land.add_station", defArgs s_land_add_station, defBody s_land_add_station, defScope s_land_add_station, [], []⟩
theorem sc_land_add_station : FnScope ["self", "word"] ["self", "word"] (defScope s_land_add_station) := ⟨rfl, rfl, rfl, by decide +kernel, rfl, by decide +kernel, by decide +kernel⟩
def d_is_number : He.DefD := ⟨("is_number", none), "is_number", "is_number", defArgs s_is_number, defBody s_is_number, defScope s_is_number, [.int 0, .int 1000000], []⟩
theorem sc_is_number : FnScope ["value", "least", "most"] ["value", "least", "most"] (defScope s_is_number) := ⟨rfl, rfl, rfl, by decide +kernel, rfl, by decide +kernel, by decide +kernel⟩
def d_checked_number : He.DefD := ⟨("checked_number", none), "checked_number", "checked_number", defArgs s_checked_number, defBody s_checked_number, defScope s_checked_number, [.int 0, .int 1000000], []⟩
theorem sc_checked_number : FnScope ["value", "least", "most"] ["value", "least", "most"] (defScope s_checked_number) := ⟨rfl, rfl, rfl, by decide +kernel, rfl, by decide +kernel, by decide +kernel⟩
def d_table_minute : He.DefD := ⟨("Table", some "minute"), "minute", "Table.minute", defArgs s_table_minute, defBody s_table_minute, defScope s_table_minute, [], []⟩
theorem sc_table_minute : FnScope ["self", "word"] ["self", "word"] (defScope s_table_minute) := ⟨rfl, rfl, rfl, by decide +kernel, rfl, by decide +kernel, by decide +kernel⟩
def d_notices_publish : He.DefD := ⟨("Notices", some "publish"), "publish", "Notices.publish", defArgs s_notices_publish, defBody s_notices_publish, defScope s_notices_publish, [], []⟩
theorem sc_notices_publish : FnScope ["self", "minute", "table", "least", "told_minutes", "word"] ["self", "minute", "table"] (defScope s_notices_publish) := ⟨rfl, rfl, rfl, by decide +kernel, rfl, by decide +kernel, by decide +kernel⟩
def d_law_is_number : He.DefD := ⟨("_law_is_number", none), "_law_is_number", "_law_is_number", defArgs s_law_is_number, defBody s_law_is_number, defScope s_law_is_number, [], []⟩
theorem sc_law_is_number : FnScope ["word", "sign"] ["word"] (defScope s_law_is_number) := ⟨rfl, rfl, rfl, by decide +kernel, rfl, by decide +kernel, by decide +kernel⟩
def d_law_is_name : He.DefD := ⟨("_law_is_name", none), "_law_is_name", "_law_is_name", defArgs s_law_is_name, defBody s_law_is_name, defScope s_law_is_name, [], []⟩
theorem sc_law_is_name : FnScope ["word", "sign"] ["word"] (defScope s_law_is_name) := ⟨rfl, rfl, rfl, by decide +kernel, rfl, by decide +kernel, by decide +kernel⟩
def d_law_due : He.DefD := ⟨("_law_due", none), "_law_due", "_law_due", defArgs s_law_due, defBody s_law_due, defScope s_law_due, [], []⟩
theorem sc_law_due : FnScope ["lines", "head", "last", "k", "row"] ["lines"] (defScope s_law_due) := ⟨rfl, rfl, rfl, by decide +kernel, rfl, by decide +kernel, by decide +kernel⟩
def d_lines_of : He.DefD := ⟨("lines_of", none), "lines_of", "lines_of", defArgs s_lines_of, defBody s_lines_of, defScope s_lines_of, [], []⟩
theorem sc_lines_of : FnScope ["text", "rows"] ["text"] (defScope s_lines_of) := ⟨rfl, rfl, rfl, by decide +kernel, rfl, by decide +kernel, by decide +kernel⟩
def d_read_number : He.DefD := ⟨("read_number", none), "read_number", "read_number", defArgs s_read_number, defBody s_read_number, defScope s_read_number, [.int 0, .int 1000000], []⟩
theorem sc_read_number : FnScope ["word", "least", "most", "sign"] ["word", "least", "most"] (defScope s_read_number) := ⟨rfl, rfl, rfl, by decide +kernel, rfl, by decide +kernel, by decide +kernel⟩
def d_read_head : He.DefD := ⟨("_read_head", none), "_read_head", "_read_head", defArgs s_read_head, defBody s_read_head, defScope s_read_head, [], []⟩
theorem sc_read_head : FnScope ["row"] ["row"] (defScope s_read_head) := ⟨rfl, rfl, rfl, by decide +kernel, rfl, by decide +kernel, by decide +kernel⟩
def d_read_station : He.DefD := ⟨("_read_station", none), "_read_station", "_read_station", defArgs s_read_station, defBody s_read_station, defScope s_read_station, [], []⟩
theorem sc_read_station : FnScope ["row", "station"] ["row"] (defScope s_read_station) := ⟨rfl, rfl, rfl, by decide +kernel, rfl, by decide +kernel, by decide +kernel⟩
def d_words : He.DefD := ⟨("words", none), "words", "words", defArgs s_words, defBody s_words, defScope s_words, [], []⟩
theorem sc_words : FnScope ["line"] ["line"] (defScope s_words) := ⟨rfl, rfl, rfl, by decide +kernel, rfl, by decide +kernel, by decide +kernel⟩
def d_read_notice : He.DefD := ⟨("read_notice", none), "read_notice", "read_notice", defArgs s_read_notice, defBody s_read_notice, defScope s_read_notice, [], []⟩
theorem sc_read_notice : FnScope ["text", "lines", "head", "rows", "at", "found"] ["text"] (defScope s_read_notice) := ⟨rfl, rfl, rfl, by decide +kernel, rfl, by decide +kernel, by decide +kernel⟩
def d_law_read : He.DefD := ⟨("_law_read", none), "_law_read", "_law_read", defArgs s_law_read, defBody s_law_read, defScope s_law_read, [], []⟩
theorem sc_law_read : FnScope ["text", "e"] ["text"] (defScope s_law_read) := ⟨rfl, rfl, rfl, by decide +kernel, rfl, by decide +kernel, by decide +kernel⟩
def d_land_plants : He.DefD := ⟨("Land", some "plants"), "plants", "Land.plants", defArgs s_land_plants, defBody s_land_plants, defScope s_land_plants, [], []⟩
theorem sc_land_plants : FnScope ["self"] ["self"] (defScope s_land_plants) := ⟨rfl, rfl, rfl, by decide +kernel, rfl, by decide +kernel, by decide +kernel⟩
def d_land_stations : He.DefD := ⟨("Land", some "stations"), "stations", "Land.stations", defArgs s_land_stations, defBody s_land_stations, defScope s_land_stations, [], []⟩
theorem sc_land_stations : FnScope ["self"] ["self"] (defScope s_land_stations) := ⟨rfl, rfl, rfl, by decide +kernel, rfl, by decide +kernel, by decide +kernel⟩
def d_land_lines : He.DefD := ⟨("Land", some "lines"), "lines", "Land.lines", defArgs s_land_lines, defBody s_land_lines, defScope s_land_lines, [], []⟩
theorem sc_land_lines : FnScope ["self"] ["self"] (defScope s_land_lines) := ⟨rfl, rfl, rfl, by decide +kernel, rfl, by decide +kernel, by decide +kernel⟩
def d_named : He.DefD := ⟨("_named", none), "_named", "_named", defArgs s_named, defBody s_named, defScope s_named, [], []⟩
theorem sc_named : FnScope ["land", "kind"] ["land", "kind"] (defScope s_named) := ⟨rfl, rfl, rfl, by decide +kernel, rfl, by decide +kernel, by decide +kernel⟩
def d_table_init : He.DefD := ⟨("Table", some "__init__"), "__init__", "Table.__init__", defArgs s_table_init, defBody s_table_init, defScope s_table_init, [], []⟩
theorem sc_table_init : FnScope ["self", "land", "minutes", "kind", "word", "value"] ["self", "land", "minutes"] (defScope s_table_init) := ⟨rfl, rfl, rfl, by decide +kernel, rfl, by decide +kernel, by decide +kernel⟩
def d_notices_row : He.DefD := ⟨("Notices", some "_row"), "_row", "Notices._row", defArgs s_notices_row, defBody s_notices_row, defScope s_notices_row, [], []⟩
theorem sc_notices_row : FnScope ["self", "number"] ["self", "number"] (defScope s_notices_row) := ⟨rfl, rfl, rfl, by decide +kernel, rfl, by decide +kernel, by decide +kernel⟩
def d_told : He.DefD := ⟨("told", none), "told", "told", defArgs s_told, defBody s_told, defScope s_told, [], []⟩
theorem sc_told : FnScope ["value"] ["value"] (defScope s_told) := ⟨rfl, rfl, rfl, by decide +kernel, rfl, by decide +kernel, by decide +kernel⟩
def d_notices_text : He.DefD := ⟨("Notices", some "text"), "text", "Notices.text", defArgs s_notices_text, defBody s_notices_text, defScope s_notices_text, [], []⟩
theorem sc_notices_text : FnScope ["self", "number", "minute", "rows", "lines", "word", "line"] ["self", "number"] (defScope s_notices_text) := ⟨rfl, rfl, rfl, by decide +kernel, rfl, by decide +kernel, by decide +kernel⟩
def d_law_spoilt : He.DefD := ⟨("_law_spoilt", none), "_law_spoilt", "_law_spoilt", defArgs s_law_spoilt, defBody s_law_spoilt, defScope s_law_spoilt, [], []⟩
theorem sc_law_spoilt : FnScope ["draw", "lines", "at", "line", "fixed", "pick"] ["draw", "lines"] (defScope s_law_spoilt) := ⟨rfl, rfl, rfl, by decide +kernel, rfl, by decide +kernel, by decide +kernel⟩
def d_law : He.DefD := ⟨("law", none), "law", "law", defArgs s_law, defBody s_law, defScope s_law, [], []⟩
theorem sc_law : FnScope ["script", "draw", "stations", "land", "told_v", "name", "notices", "number", "minute", "k", "lines", "text", "rows", "due", "found", "line"] ["script"] (defScope s_law) := ⟨rfl, rfl, rfl, by decide +kernel, rfl, by decide +kernel, by decide +kernel⟩
abbrev PP : Program := PySem.Challenge.pw_darkrise_k48_notice_texts_there_and_back
abbrev s_invalidline_init : Stmt := inC (top 8) 0
def ini_InvalidLine : IniD := ⟨"InvalidLine", "InvalidLine.__init__", defArgs s_invalidline_init, defBody s_invalidline_init, defScope s_invalidline_init⟩
theorem sup_InvalidLine : SupScope ["self", "line"] ["self", "line"] (defScope s_invalidline_init) := ⟨rfl, rfl, rfl, by decide +kernel, rfl, by decide +kernel, by decide +kernel, free_of (by decide +kernel), rfl, rfl⟩
def fn : List He.DefD := [d_land_init, d_is_name, d_checked_name, d_notices_init, d_law_cell, d_law_take, d_land_kind, d_land_free, d_land_room, d_land_add_station, d_is_number, d_checked_number, d_table_minute, d_notices_publish, d_law_is_number, d_law_is_name, d_law_due, d_lines_of, d_read_number, d_read_head, d_read_station, d_words, d_read_notice, d_law_read, d_land_plants, d_land_stations, d_land_lines, d_named, d_table_init, d_notices_row, d_told, d_notices_text, d_law_spoilt, d_law]
def fa : List He.Fa := [.glo "law", .free "str", .free "super", .noat "InvalidLine" "line", .cls "Land", .noat "Land" "_stations", .noat "Land" "_lines", .noat "Land" "_plants", .noat "Land" "_selves", .free "isinstance", .free "len", .int "LONGEST" 12, .str "LETTERS" "abcdefghijklmnopqrstuvwxyz", .glo "is_name", .exc "InvalidName", .glo "InvalidName", .free "sorted", .cls "Notices", .noat "Notices" "_stations", .glo "checked_name", .noat "Notices" "_rows", .free "int", .free "abs", .glo "_law_cell", .meth "Land" "kind", .exc "DuplicateName", .glo "DuplicateName", .int "MOST" 60, .exc "TooMany", .glo "TooMany", .meth "Land" "_free", .meth "Land" "_room", .free "bool", .glo "is_number", .exc "InvalidNumber", .glo "InvalidNumber", .cls "Table", .noat "Table" "_minutes", .exc "UnknownName", .glo "UnknownName", .glo "checked_number", .meth "Table" "minute", .glo "_law_is_number", .glo "_law_is_name", .free "range", .glo "InvalidLine", .str "FIGURES" "0123456789", .glo "read_number", .glo "lines_of", .exm "InvalidName" "RiseError" true, .exm "InvalidNumber" "RiseError" true, .exm "DuplicateName" "RiseError" true, .exm "UnknownName" "RiseError" true, .exm "TooMany" "RiseError" true, .exm "InvalidLine" "RiseError" true, .exm "InvalidPaper" "RiseError" true, .glo "RiseError", .glo "_read_head", .glo "words", .glo "_read_station", .exm "InvalidName" "InvalidLine" false, .exm "InvalidNumber" "InvalidLine" false, .exm "DuplicateName" "InvalidLine" false, .exm "UnknownName" "InvalidLine" false, .exm "TooMany" "InvalidLine" false, .exm "InvalidLine" "InvalidLine" true, .exm "InvalidPaper" "InvalidLine" false, .glo "read_notice", .free "list", .meth "Land" "stations", .meth "Land" "lines", .meth "Land" "plants", .noat "Table" "_rows", .exc "InvalidPaper", .glo "InvalidPaper", .glo "_named", .glo "KINDS", .meth "Notices" "_row", .glo "told", .glo "_law_take", .glo "Land", .mkr "Land", .meth "Land" "add_station", .glo "Notices", .mkr "Notices", .glo "Table", .mkr "Table", .free "dict", .meth "Notices" "publish", .meth "Notices" "text", .glo "_law_spoilt", .glo "_law_due", .glo "_law_read"]
def fx : List Fx := [.exc "InvalidLine", .tupS "KINDS" ["station", "line", "plant"]]
def ins : List IniD := [ini_InvalidLine]
abbrev Kn (K : PySem.W.Frag) (mg : Str → Option Value) : Prop := KnowsI fa fn fx "/claim/cut.py" ins K mg
def m_invalidline_init : EM := (mOp (gAdd false) (mC (.str "line ")) (mCall (g1 gStr) (mCons (mVar 1) mNil)))
def x_InvalidLine : XM := mkOne ["self", "line"] m_invalidline_init "line" 1
theorem has_InvalidLine {w : World} {K : PySem.W.Frag} {mg : Str → Option Value} {base : Heap} (kn : Kn K mg) : HasX PP w K mg base 1 "InvalidLine" 1 x_InvalidLine := by
  have I : IniK K "/claim/cut.py" ini_InvalidLine := kn.i _ (by simp [ins])
  refine hasX_tr (k := 0) (d := ini_InvalidLine) (N := ["self", "line"]) (ps := ["self", "line"]) (self := "self") (ms := m_invalidline_init) I rfl sup_InvalidLine rfl rfl rfl rfl rfl (by decide +kernel) (by decide +kernel) (kn.free 2) (fun f fd kV doc pm an cda ct cc us hl => match us, hl with | [_, _], _ => rfl) (fun f cda cc A outer s H E hr => ?_) (fun f cda cc A outer s H E => (pss_one (ps_ost (pv 0) (pv 1)))) (fun _ _ _ _ => rfl) (fun _ _ _ _ => rfl) (fun _ _ _ _ => rfl) (fun _ _ _ _ => rfl) (hsp_one I.T (kn.noat 3) rfl (by decide))
  delta m_invalidline_init
  exact (de_op (od_add false) de_str (de_callTy cd_str rfl (kn.free 1) (by decide +kernel) (da_cons (de_var (pv 1)) da_nil)))
theorem hasH_InvalidLine {w : World} {K : PySem.W.Frag} {mg : Str → Option Value} {base : Heap} (kn : Kn K mg) : HasXH PP w K mg base 1 "InvalidLine" 1 x_InvalidLine := by
  have I : IniK K "/claim/cut.py" ini_InvalidLine := kn.i _ (by simp [ins])
  refine hasXH_tr (k := 0) (d := ini_InvalidLine) (N := ["self", "line"]) (ps := ["self", "line"]) (self := "self") (ms := m_invalidline_init) I rfl sup_InvalidLine rfl rfl rfl rfl rfl (by decide +kernel) (by decide +kernel) (kn.free 2) (fun f fd kV doc pm an cda ct cc us hl => match us, hl with | [_, _], _ => rfl) (fun f cda cc A outer s H E p hr => ?_) (fun f cda cc A outer s H E p => (pss_one (ps_ost (pv 0) (pv 1)))) (fun _ _ _ _ => rfl) (fun _ _ _ _ => rfl) (fun _ _ _ _ => rfl) (fun _ _ _ _ => rfl) (hsp_one I.T (kn.noat 3) rfl (by decide))
  delta m_invalidline_init
  exact (de_op (od_add false) de_str (de_callTy cd_str rfl (kn.free 1) (by decide +kernel) (da_cons (de_var (pv 1)) da_nil)))
def b_land_init : SM := (sSeq (sFldM "Land" "_stations" (mVar 0) (mLst true mNil))
    (sSeq (sFldM "Land" "_lines" (mVar 0) mDNew)
    (sSeq (sFldM "Land" "_plants" (mVar 0) mDNew)
    (sFldM "Land" "_selves" (mVar 0) (mLst true mNil)))))
def f_land_init : FM := runF 1 b_land_init
theorem ok_land_init {w : World} {K : PySem.W.Frag} {mg : Str → Option Value} {base : Heap} (kn : Kn K mg) : Has PP w K mg base 1 d_land_init ["self"] f_land_init := by
  refine has_def (k := 0) (N := ["self"]) (d := d_land_init) (kn.c.def_ 0 (d := d_land_init) rfl) sc_land_init fun f cdv A outer s H E hr => ?_
  delta b_land_init
  exact (dss_cons (ds_fld (de_var (pv 0)) (de_lst (hm := true) da_nil) (kn.cls 4) (kn.noat 5))
    (dss_cons (ds_fld (de_var (pv 0)) de_dnew (kn.cls 4) (kn.noat 6))
    (dss_cons (ds_fld (de_var (pv 0)) de_dnew (kn.cls 4) (kn.noat 7))
    (dss_one (ds_fld (de_var (pv 0)) (de_lst (hm := true) da_nil) (kn.cls 4) (kn.noat 8))))))
def b_is_name : SM := (sSeq (sIf (mOr (mNot (mTest (mIsi "str" (mVar 0)))) (mNot (mTest (mChain gLe gLe (mC (.int 1)) (mCall (g1 gLen) (mCons (mVar 0) mNil)) (mC (.int 12)))))) (sRet (mC (.bl false))) sNext)
    (sSeq (sForS (mVar 0) (bName 1) (sIf (mTest (mOp gNotIn (mVar 1) (mC (.str "abcdefghijklmnopqrstuvwxyz")))) (sRet (mC (.bl false))) sNext))
    (sRet (mC (.bl true)))))
def f_is_name : FM := runF 2 b_is_name
theorem ok_is_name {w : World} {K : PySem.W.Frag} {mg : Str → Option Value} {base : Heap} (kn : Kn K mg) : N.Has PP w K mg base 1 d_is_name ["word"] f_is_name := by
  obtain ⟨t0, G0⟩ := kn.int 11 (z := 12)
  obtain ⟨t1, G1⟩ := kn.str 12 (z := "abcdefghijklmnopqrstuvwxyz")
  refine N.has_def (k := 0) (N := ["word", "sign"]) (d := d_is_name) (kn.c.def_ 1 (d := d_is_name) rfl) sc_is_name fun f cdv A outer s H E hr => ?_
  delta b_is_name
  exact (dss_cons (ds_if (PW.pt (dw_or (dt_not (dt_val (de_isi (T := "str") rfl (kn.free 9) (by decide +kernel) rfl (kn.free 1) (by decide +kernel) (de_var (pv 0))))) (dw_or1 (dt_not (dt_chain od_le od_le de_int (de_callB cd_len rfl (kn.free 10) (by decide +kernel) (da_cons (de_var (pv 0)) da_nil)) (de_c (pe_glob (v := .int 12) rfl G0 ⟨t0, rfl⟩) fun _ _ => rfl)))))) (dss_one (ds_ret de_bl)) dss_nil)
    (dss_cons (ds_forS own_of rfl (de_var (pv 0)) (dg_name (i := 1) sc_is_name.nd rfl (by first | exact .inl rfl | exact .inr rfl)) (dss_one (ds_if (dt_cmp od_notin (de_var (pv 1)) (de_c (pe_glob (v := .str "abcdefghijklmnopqrstuvwxyz") rfl G1 ⟨t1, rfl⟩) fun _ _ => rfl) (by with_unfolding_all rfl)) (dss_one (ds_ret de_bl)) dss_nil)))
    (dss_one (ds_ret de_bl))))
def b_checked_name : SM := (sSeq (sIf (mNot (mTest (mFn (arity 1 f_is_name) [] (mCons (mVar 0) mNil)))) (sRaise "InvalidName" (mCons (mC (.str "no name")) mNil)) sNext)
    (sRet (mVar 0)))
def f_checked_name : FM := runF 1 b_checked_name
theorem ok_checked_name {w : World} {K : PySem.W.Frag} {mg : Str → Option Value} {base : Heap} (kn : Kn K mg) : N.Has PP w K mg base 2 d_checked_name ["word"] f_checked_name := by
  obtain ⟨fd0, F0, O0⟩ := ok_is_name (w := w) (base := base) kn
  have B1 := FunD.bindsN (ps := ["word"]) F0 (fun _ _ _ _ _ _ us hl => match us, hl with | [_], _ => rfl)
  refine N.has_def (k := 1) (N := ["word"]) (d := d_checked_name) (kn.c.def_ 2 (d := d_checked_name) rfl) sc_checked_name fun f cdv A outer s H E hr => ?_
  delta b_checked_name
  exact (dss_cons (ds_if (dt_not (dt_val (N.de_call (dds := []) O0 (hr.mono (by omega)) rfl (kn.glo 13) F0.kp B1 .nil (fun _ _ => rfl) N.tk_of (da_cons (de_var (pv 0)) da_nil)))) (dss_one (N.ds_raise (c := "InvalidName") rfl N.tk_of PySem.F.excBase_ValueError (kn.exc 14).1 (kn.glo 15) (kn.exc 14).2.1 (raises_own (kn.exc 14).2.2.1 (kn.exc 14).2.2.2) rfl (da_cons de_str da_nil))) dss_nil)
    (dss_one (ds_ret (de_var (pv 0)))))
def b_notices_init : SM := (sSeq (sFldM "Notices" "_stations" (mVar 0) (mCall (g1 (gSorted false)) (mCons (mVar 1) mNil)))
    (sSeq (sForL (mFld "Notices" "_stations" (mVar 0)) (bName 2) (sDrop (mFn (arity 1 f_checked_name) [] (mCons (mVar 2) mNil))))
    (sFldM "Notices" "_rows" (mVar 0) (mLst true mNil))))
def f_notices_init : FM := runF 3 b_notices_init
theorem ok_notices_init {w : World} {K : PySem.W.Frag} {mg : Str → Option Value} {base : Heap} (kn : Kn K mg) : Has PP w K mg base 3 d_notices_init ["self", "stations"] f_notices_init := by
  obtain ⟨fd0, F0, O0⟩ := has_weak (ok_checked_name (w := w) (base := base) kn)
  have B1 := FunD.bindsN (ps := ["word"]) F0 (fun _ _ _ _ _ _ us hl => match us, hl with | [_], _ => rfl)
  refine has_def (k := 2) (N := ["self", "stations", "word"]) (d := d_notices_init) (kn.c.def_ 3 (d := d_notices_init) rfl) sc_notices_init fun f cdv A outer s H E hr => ?_
  delta b_notices_init
  exact (dss_cons (ds_fld (de_var (pv 0)) (de_callB (cd_sorted false rfl) rfl (kn.free 16) (by decide +kernel) (da_cons (de_var (pv 1)) da_nil)) (kn.cls 17) (kn.noat 18))
    (dss_cons (ds_forL own_of rfl (de_fld (de_var (pv 0)) (kn.cls 17) (kn.noat 18)) (dg_name (i := 2) sc_notices_init.nd rfl (by first | exact .inl rfl | exact .inr rfl)) (dss_one (ds_expr (de_call (dds := []) O0 (hr.mono (by omega)) rfl (kn.glo 19) F0.kp B1 .nil (fun _ _ => rfl) tk_of (da_cons (de_var (pv 2)) da_nil)))))
    (dss_one (ds_fld (de_var (pv 0)) (de_lst (hm := true) da_nil) (kn.cls 17) (kn.noat 20)))))
def b_law_cell : SM := (sSeq (sIf (mTest (mOp gLt (mVar 1) (mCall (g1 gLen) (mCons (mVar 0) mNil)))) (sRet (mCall (g1 gAbs) (mCons (mCall (g1 gInt) (mCons (mOp gIx (mVar 0) (mVar 1)) mNil)) mNil))) sNext)
    (sRet (mOp (gAdd false) (mOp gMul (mC (.int 37)) (mVar 1)) (mC (.int 11)))))
def f_law_cell : FM := runF 2 b_law_cell
theorem ok_law_cell {w : World} {K : PySem.W.Frag} {mg : Str → Option Value} {base : Heap} (kn : Kn K mg) : Has PP w K mg base 1 d_law_cell ["script", "k"] f_law_cell := by
  refine has_def (k := 0) (N := ["script", "k"]) (d := d_law_cell) (kn.c.def_ 4 (d := d_law_cell) rfl) sc_law_cell fun f cdv A outer s H E hr => ?_
  delta b_law_cell
  exact (dss_cons (ds_if (dt_cmp od_lt (de_var (pv 1)) (de_callB cd_len rfl (kn.free 10) (by decide +kernel) (da_cons (de_var (pv 0)) da_nil)) (nomark _)) (dss_one (ds_ret (de_callB cd_abs rfl (kn.free 22) (by decide +kernel) (da_cons (de_callTy cd_int rfl (kn.free 21) (by decide +kernel) (da_cons (de_ix (de_var (pv 0)) (de_var (pv 1)) (fun _ _ => rfl)) da_nil)) da_nil)))) dss_nil)
    (dss_one (ds_ret (de_op (od_add false) (de_op od_mul de_int (de_var (pv 1))) de_int))))
def b_law_take : SM := (sSeq (sIf (mTest (mOp gGt (mOp gIx (mVar 0) (mC (.int 2))) (mC (.int 0)))) (sSeq (sAsg (mOp gMod (mCall (g1 gInt) (mCons (mOp gIx (mVar 0) (mC (.int 2))) mNil)) (mVar 1)) (bName 2))
    (sSeq (sAsg (mOp gFdiv (mCall (g1 gInt) (mCons (mOp gIx (mVar 0) (mC (.int 2))) mNil)) (mVar 1)) (bSubL (mVar 0) (mC (.int 2))))
    (sRet (mVar 2)))) sNext)
    (sSeq (sAsg (mFn (arity 2 f_law_cell) [] (mCons (mOp gIx (mVar 0) (mC (.int 0))) (mCons (mOp gIx (mVar 0) (mC (.int 1))) mNil))) (bName 3))
    (sSeq (sAsg (mOp (gAdd false) (mOp gIx (mVar 0) (mC (.int 1))) (mC (.int 1))) (bSubL (mVar 0) (mC (.int 1))))
    (sSeq (sIf (mTest (mOp gGe (mVar 3) (mOp gPow (mC (.int 10)) (mC (.int 9))))) (sAsg (mOp gFdiv (mCall (g1 gInt) (mCons (mVar 3) mNil)) (mVar 1)) (bSubL (mVar 0) (mC (.int 2)))) sNext)
    (sRet (mOp gMod (mCall (g1 gInt) (mCons (mVar 3) mNil)) (mVar 1)))))))
def f_law_take : FM := runF 4 b_law_take
theorem ok_law_take {w : World} {K : PySem.W.Frag} {mg : Str → Option Value} {base : Heap} (kn : Kn K mg) : Has PP w K mg base 2 d_law_take ["state", "limit"] f_law_take := by
  obtain ⟨fd0, F0, O0⟩ := ok_law_cell (w := w) (base := base) kn
  have B1 := FunD.bindsN (ps := ["script", "k"]) F0 (fun _ _ _ _ _ _ us hl => match us, hl with | [_, _], _ => rfl)
  refine has_def (k := 1) (N := ["state", "limit", "found", "cell"]) (d := d_law_take) (kn.c.def_ 5 (d := d_law_take) rfl) sc_law_take fun f cdv A outer s H E hr => ?_
  delta b_law_take
  exact (dss_cons (ds_if (dt_cmp od_gt (de_ix (de_var (pv 0)) de_int (fun _ _ => rfl)) de_int (nomark _)) (dss_cons (ds_set (i := 2) sc_law_take.nd rfl (by first | exact .inl rfl | exact .inr rfl) (de_op od_mod (de_callTy cd_int rfl (kn.free 21) (by decide +kernel) (da_cons (de_ix (de_var (pv 0)) de_int (fun _ _ => rfl)) da_nil)) (de_var (pv 1))))
    (dss_cons (ds_asg (de_op od_fdiv (de_callTy cd_int rfl (kn.free 21) (by decide +kernel) (da_cons (de_ix (de_var (pv 0)) de_int (fun _ _ => rfl)) da_nil)) (de_var (pv 1))) (dg_subL (W := WF) (de_var (pv 0)) de_int))
    (dss_one (ds_ret (de_var (pv 2)))))) dss_nil)
    (dss_cons (ds_set (i := 3) sc_law_take.nd rfl (by first | exact .inl rfl | exact .inr rfl) (de_call (dds := []) O0 (hr.mono (by omega)) rfl (kn.glo 23) F0.kp B1 .nil (fun _ _ => rfl) tk_of (da_cons (de_ix (de_var (pv 0)) de_int (fun _ _ => rfl)) (da_cons (de_ix (de_var (pv 0)) de_int (fun _ _ => rfl)) da_nil))))
    (dss_cons (ds_asg (de_op (od_add false) (de_ix (de_var (pv 0)) de_int (fun _ _ => rfl)) de_int) (dg_subL (W := WF) (de_var (pv 0)) de_int))
    (dss_cons (ds_if (dt_cmp od_ge (de_var (pv 3)) (de_op od_pow de_int de_int) (nomark _)) (dss_one (ds_asg (de_op od_fdiv (de_callTy cd_int rfl (kn.free 21) (by decide +kernel) (da_cons (de_var (pv 3)) da_nil)) (de_var (pv 1))) (dg_subL (W := WF) (de_var (pv 0)) de_int))) dss_nil)
    (dss_one (ds_ret (de_op od_mod (de_callTy cd_int rfl (kn.free 21) (by decide +kernel) (da_cons (de_var (pv 3)) da_nil)) (de_var (pv 1)))))))))
def b_land_kind : SM := (sSeq (sIf (mTest (mOp gIn (mVar 1) (mFld "Land" "_stations" (mVar 0)))) (sRet (mC (.str "station"))) sNext)
    (sSeq (sIf (mTest (mDIn true (mVar 1) (mFld "Land" "_lines" (mVar 0)))) (sRet (mC (.str "line"))) sNext)
    (sSeq (sIf (mTest (mDIn true (mVar 1) (mFld "Land" "_plants" (mVar 0)))) (sRet (mC (.str "plant"))) sNext)
    (sRet (mC .non)))))
def f_land_kind : FM := runF 2 b_land_kind
theorem ok_land_kind {w : World} {K : PySem.W.Frag} {mg : Str → Option Value} {base : Heap} (kn : Kn K mg) : Has PP w K mg base 1 d_land_kind ["self", "word"] f_land_kind := by
  refine has_def (k := 0) (N := ["self", "word"]) (d := d_land_kind) (kn.c.def_ 6 (d := d_land_kind) rfl) sc_land_kind fun f cdv A outer s H E hr => ?_
  delta b_land_kind
  exact (dss_cons (ds_if (dt_cmp od_in (de_var (pv 1)) (de_fld (de_var (pv 0)) (kn.cls 4) (kn.noat 5)) (by with_unfolding_all rfl)) (dss_one (ds_ret de_str)) dss_nil)
    (dss_cons (ds_if (dt_din (un1 hr) (de_var (pv 1)) (de_fld (de_var (pv 0)) (kn.cls 4) (kn.noat 6)) (by with_unfolding_all rfl)) (dss_one (ds_ret de_str)) dss_nil)
    (dss_cons (ds_if (dt_din (un1 hr) (de_var (pv 1)) (de_fld (de_var (pv 0)) (kn.cls 4) (kn.noat 7)) (by with_unfolding_all rfl)) (dss_one (ds_ret de_str)) dss_nil)
    (dss_one (ds_ret de_non)))))
def b_land_free : SM := (sSeq (sDrop (mFn (arity 1 f_checked_name) [] (mCons (mVar 1) mNil)))
    (sIf (mTest (mOp gIsNot (mMeth "Land" "kind" (arity 2 f_land_kind) [] (mVar 0) (mCons (mVar 1) mNil)) (mC .non))) (sRaise "DuplicateName" (mCons (mVar 1) mNil)) sNext))
def f_land_free : FM := runF 2 b_land_free
theorem ok_land_free {w : World} {K : PySem.W.Frag} {mg : Str → Option Value} {base : Heap} (kn : Kn K mg) : Has PP w K mg base 3 d_land_free ["self", "word"] f_land_free := by
  obtain ⟨fd0, F0, O0⟩ := has_weak (ok_checked_name (w := w) (base := base) kn)
  have B1 := FunD.bindsN (ps := ["word"]) F0 (fun _ _ _ _ _ _ us hl => match us, hl with | [_], _ => rfl)
  obtain ⟨fd2, F2, O2⟩ := ok_land_kind (w := w) (base := base) kn
  have B3 := FunD.bindsN (ps := ["self", "word"]) F2 (fun _ _ _ _ _ _ us hl => match us, hl with | [_, _], _ => rfl)
  refine has_def (k := 2) (N := ["self", "word"]) (d := d_land_free) (kn.c.def_ 7 (d := d_land_free) rfl) sc_land_free fun f cdv A outer s H E hr => ?_
  delta b_land_free
  exact (dss_cons (ds_expr (de_call (dds := []) O0 (hr.mono (by omega)) rfl (kn.glo 19) F0.kp B1 .nil (fun _ _ => rfl) tk_of (da_cons (de_var (pv 1)) da_nil)))
    (dss_one (ds_if (dt_cmp od_isnot (de_meth (c := "Land") (dds := []) (de_var (pv 0)) (kn.cls 4) (kn.meth 24) O2 (hr.mono (by omega)) B3 .nil (fun _ _ => rfl) tk_of (da_cons (de_var (pv 1)) da_nil)) de_non (nomark _)) (dss_one (ds_raise (c := "DuplicateName") rfl tk_of PySem.F.excBase_ValueError (kn.exc 25).1 (kn.glo 26) (kn.exc 25).2.1 (raises_own (kn.exc 25).2.2.1 (kn.exc 25).2.2.2) rfl (da_cons (de_var (pv 1)) da_nil))) dss_nil)))
def b_land_room : SM := (sIf (mTest (mOp gGe (mCall (g1 gLen) (mCons (mVar 1) mNil)) (mC (.int 60)))) (sRaise "TooMany" (mCons (mOp (gAdd false) (mC (.str "more than ")) (mCall (g1 gStr) (mCons (mC (.int 60)) mNil))) mNil)) sNext)
def f_land_room : FM := runF 2 b_land_room
theorem ok_land_room {w : World} {K : PySem.W.Frag} {mg : Str → Option Value} {base : Heap} (kn : Kn K mg) : Has PP w K mg base 1 d_land_room ["self", "rows"] f_land_room := by
  obtain ⟨t0, G0⟩ := kn.int 27 (z := 60)
  refine has_def (k := 0) (N := ["self", "rows"]) (d := d_land_room) (kn.c.def_ 8 (d := d_land_room) rfl) sc_land_room fun f cdv A outer s H E hr => ?_
  delta b_land_room
  exact (dss_one (ds_if (dt_cmp od_ge (de_callB cd_len rfl (kn.free 10) (by decide +kernel) (da_cons (de_var (pv 1)) da_nil)) (de_c (pe_glob (v := .int 60) rfl G0 ⟨t0, rfl⟩) fun _ _ => rfl) (nomark _)) (dss_one (ds_raise (c := "TooMany") rfl tk_of PySem.F.excBase_ValueError (kn.exc 28).1 (kn.glo 29) (kn.exc 28).2.1 (raises_own (kn.exc 28).2.2.1 (kn.exc 28).2.2.2) rfl (da_cons (de_op (od_add false) de_str (de_callTy cd_str rfl (kn.free 1) (by decide +kernel) (da_cons (de_c (pe_glob (v := .int 60) rfl G0 ⟨t0, rfl⟩) fun _ _ => rfl) da_nil))) da_nil))) dss_nil))
def b_land_add_station : SM := (sSeq (sDrop (mMeth "Land" "_free" (arity 2 f_land_free) [] (mVar 0) (mCons (mVar 1) mNil)))
    (sSeq (sDrop (mMeth "Land" "_room" (arity 2 f_land_room) [] (mVar 0) (mCons (mFld "Land" "_stations" (mVar 0)) mNil)))
    (sFldM "Land" "_stations" (mVar 0) (mCall (g1 (gSorted true)) (mCons (mOp (gAdd false) (mFld "Land" "_stations" (mVar 0)) (mLst false (mCons (mVar 1) mNil))) mNil)))))
def f_land_add_station : FM := runF 2 b_land_add_station
theorem ok_land_add_station {w : World} {K : PySem.W.Frag} {mg : Str → Option Value} {base : Heap} (kn : Kn K mg) : Has PP w K mg base 4 d_land_add_station ["self", "word"] f_land_add_station := by
  obtain ⟨fd0, F0, O0⟩ := ok_land_free (w := w) (base := base) kn
  have B1 := FunD.bindsN (ps := ["self", "word"]) F0 (fun _ _ _ _ _ _ us hl => match us, hl with | [_, _], _ => rfl)
  obtain ⟨fd2, F2, O2⟩ := ok_land_room (w := w) (base := base) kn
  have B3 := FunD.bindsN (ps := ["self", "rows"]) F2 (fun _ _ _ _ _ _ us hl => match us, hl with | [_, _], _ => rfl)
  refine has_def (k := 3) (N := ["self", "word"]) (d := d_land_add_station) (kn.c.def_ 9 (d := d_land_add_station) rfl) sc_land_add_station fun f cdv A outer s H E hr => ?_
  delta b_land_add_station
  exact (dss_cons (ds_expr (de_meth (c := "Land") (dds := []) (de_var (pv 0)) (kn.cls 4) (kn.meth 30) O0 (hr.mono (by omega)) B1 .nil (fun _ _ => rfl) tk_of (da_cons (de_var (pv 1)) da_nil)))
    (dss_cons (ds_expr (de_meth (c := "Land") (dds := []) (de_var (pv 0)) (kn.cls 4) (kn.meth 31) O2 (hr.mono (by omega)) B3 .nil (fun _ _ => rfl) tk_of (da_cons (de_fld (de_var (pv 0)) (kn.cls 4) (kn.noat 5)) da_nil)))
    (dss_one (ds_fld (de_var (pv 0)) (de_callB (cd_sorted true rfl) rfl (kn.free 16) (by decide +kernel) (da_cons (de_op (od_add false) (de_fld (de_var (pv 0)) (kn.cls 4) (kn.noat 5)) (de_lst (hm := false) (da_cons (de_var (pv 1)) da_nil))) da_nil)) (kn.cls 4) (kn.noat 5)))))
def b_is_number : SM := (sSeq (sIf (mOr (mTest (mIsi "bool" (mVar 0))) (mNot (mTest (mIsi "int" (mVar 0))))) (sRet (mC (.bl false))) sNext)
    (sRet (mChain gLe gLe (mVar 1) (mVar 0) (mVar 2))))
def f_is_number : FM := runF 3 b_is_number
theorem ok_is_number {w : World} {K : PySem.W.Frag} {mg : Str → Option Value} {base : Heap} (kn : Kn K mg) : N.Has PP w K mg base 1 d_is_number ["value", "least", "most"] f_is_number := by
  refine N.has_def (k := 0) (N := ["value", "least", "most"]) (d := d_is_number) (kn.c.def_ 10 (d := d_is_number) rfl) sc_is_number fun f cdv A outer s H E hr => ?_
  delta b_is_number
  exact (dss_cons (ds_if (PW.pt (dw_or (dt_val (de_isi (T := "bool") rfl (kn.free 9) (by decide +kernel) rfl (kn.free 32) (by decide +kernel) (de_var (pv 0)))) (dw_or1 (dt_not (dt_val (de_isi (T := "int") rfl (kn.free 9) (by decide +kernel) rfl (kn.free 21) (by decide +kernel) (de_var (pv 0)))))))) (dss_one (ds_ret de_bl)) dss_nil)
    (dss_one (ds_ret (de_chain od_le od_le (de_var (pv 1)) (de_var (pv 0)) (de_var (pv 2))))))
def b_checked_number : SM := (sSeq (sIf (mNot (mTest (mFn (arity 3 f_is_number) [] (mCons (mVar 0) (mCons (mVar 1) (mCons (mVar 2) mNil)))))) (sRaise "InvalidNumber" (mCons (mOp (gAdd false) (mOp (gAdd false) (mOp (gAdd false) (mC (.str "no number from ")) (mCall (g1 gStr) (mCons (mVar 1) mNil))) (mC (.str " to "))) (mCall (g1 gStr) (mCons (mVar 2) mNil))) mNil)) sNext)
    (sRet (mVar 0)))
def f_checked_number : FM := runF 3 b_checked_number
theorem ok_checked_number {w : World} {K : PySem.W.Frag} {mg : Str → Option Value} {base : Heap} (kn : Kn K mg) : N.Has PP w K mg base 2 d_checked_number ["value", "least", "most"] f_checked_number := by
  obtain ⟨fd0, F0, O0⟩ := ok_is_number (w := w) (base := base) kn
  obtain ⟨ds1, V1, B1⟩ := FunD.binds1 (ps := ["value", "least", "most"]) F0 3 2 (by intro z; cases z) rfl (fun T kV doc pm an cdv ct us its h1 h2 => match us, its, h1, h2 with | [_, _, _], [_, _], _, _ => ⟨_, rfl, rfl⟩)
  refine N.has_def (k := 1) (N := ["value", "least", "most"]) (d := d_checked_number) (kn.c.def_ 11 (d := d_checked_number) rfl) sc_checked_number fun f cdv A outer s H E hr => ?_
  delta b_checked_number
  exact (dss_cons (ds_if (dt_not (dt_val (N.de_call (dds := []) O0 (hr.mono (by omega)) rfl (kn.glo 33) F0.kp B1 V1 (fun _ _ => rfl) N.tk_of (da_cons (de_var (pv 0)) (da_cons (de_var (pv 1)) (da_cons (de_var (pv 2)) da_nil)))))) (dss_one (N.ds_raise (c := "InvalidNumber") rfl N.tk_of PySem.F.excBase_ValueError (kn.exc 34).1 (kn.glo 35) (kn.exc 34).2.1 (raises_own (kn.exc 34).2.2.1 (kn.exc 34).2.2.2) rfl (da_cons (de_op (od_add false) (de_op (od_add false) (de_op (od_add false) de_str (de_callTy cd_str rfl (kn.free 1) (by decide +kernel) (da_cons (de_var (pv 1)) da_nil))) de_str) (de_callTy cd_str rfl (kn.free 1) (by decide +kernel) (da_cons (de_var (pv 2)) da_nil))) da_nil))) dss_nil)
    (dss_one (ds_ret (de_var (pv 0)))))
def b_table_minute : SM := (sSeq (sIf (mTest (mDIn false (mVar 1) (mFld "Table" "_minutes" (mVar 0)))) (sRaise "UnknownName" (mCons (mC (.str "table")) mNil)) sNext)
    (sRet (mOp gIx (mDGet (mFld "Table" "_minutes" (mVar 0)) (mVar 1)) (mC (.int 1)))))
def f_table_minute : FM := runF 2 b_table_minute
theorem ok_table_minute {w : World} {K : PySem.W.Frag} {mg : Str → Option Value} {base : Heap} (kn : Kn K mg) : Has PP w K mg base 1 d_table_minute ["self", "word"] f_table_minute := by
  refine has_def (k := 0) (N := ["self", "word"]) (d := d_table_minute) (kn.c.def_ 12 (d := d_table_minute) rfl) sc_table_minute fun f cdv A outer s H E hr => ?_
  delta b_table_minute
  exact (dss_cons (ds_if (dt_dnotin (un1 hr) (de_var (pv 1)) (de_fld (de_var (pv 0)) (kn.cls 36) (kn.noat 37)) (by with_unfolding_all rfl)) (dss_one (ds_raise (c := "UnknownName") rfl tk_of PySem.F.excBase_ValueError (kn.exc 38).1 (kn.glo 39) (kn.exc 38).2.1 (raises_own (kn.exc 38).2.2.1 (kn.exc 38).2.2.2) rfl (da_cons de_str da_nil))) dss_nil)
    (dss_one (ds_ret (de_ix (de_dget (un1 hr) (de_fld (de_var (pv 0)) (kn.cls 36) (kn.noat 37)) (de_var (pv 1))) de_int (fun _ _ => rfl)))))
def b_notices_publish : SM := (sSeq (sAsg (mIf (mTru (mFld "Notices" "_rows" (mVar 0))) (mOp gIx (mOp gIx (mFld "Notices" "_rows" (mVar 0)) (mNeg (mC (.int 1)))) (mC (.int 0))) (mC (.int 0))) (bName 3))
    (sSeq (sDrop (mFn (arity 3 f_checked_number) [.int 1000000] (mCons (mVar 1) (mCons (mVar 3) mNil))))
    (sSeq (sAsg mDNew (bName 4))
    (sSeq (sForL (mFld "Notices" "_stations" (mVar 0)) (bName 5) (sDPutM (mVar 4) (mVar 5) (mMeth "Table" "minute" (arity 2 f_table_minute) [] (mVar 2) (mCons (mVar 5) mNil))))
    (sSeq (sDrop (mApp (mFld "Notices" "_rows" (mVar 0)) (mTup (mCons (mVar 1) (mCons (mVar 4) mNil)))))
    (sRet (mOp gSub (mCall (g1 gLen) (mCons (mFld "Notices" "_rows" (mVar 0)) mNil)) (mC (.int 1)))))))))
def f_notices_publish : FM := runF 6 b_notices_publish
theorem ok_notices_publish {w : World} {K : PySem.W.Frag} {mg : Str → Option Value} {base : Heap} (kn : Kn K mg) : Has PP w K mg base 3 d_notices_publish ["self", "minute", "table"] f_notices_publish := by
  obtain ⟨fd0, F0, O0⟩ := has_weak (ok_checked_number (w := w) (base := base) kn)
  obtain ⟨ds1, V1, B1⟩ := FunD.binds1 (ps := ["value", "least", "most"]) F0 2 1 (by intro z; cases z) rfl (fun T kV doc pm an cdv ct us its h1 h2 => match us, its, h1, h2 with | [_, _], [_, _], _, _ => ⟨_, rfl, rfl⟩)
  obtain ⟨fd2, F2, O2⟩ := ok_table_minute (w := w) (base := base) kn
  have B3 := FunD.bindsN (ps := ["self", "word"]) F2 (fun _ _ _ _ _ _ us hl => match us, hl with | [_, _], _ => rfl)
  refine has_def (k := 2) (N := ["self", "minute", "table", "least", "told_minutes", "word"]) (d := d_notices_publish) (kn.c.def_ 13 (d := d_notices_publish) rfl) sc_notices_publish fun f cdv A outer s H E hr => ?_
  delta b_notices_publish
  exact (dss_cons (ds_set (i := 3) sc_notices_publish.nd rfl (by first | exact .inl rfl | exact .inr rfl) (de_if (dt_truth (de_fld (de_var (pv 0)) (kn.cls 17) (kn.noat 20))) (de_ix (de_ix (de_fld (de_var (pv 0)) (kn.cls 17) (kn.noat 20)) (de_neg de_int) (fun _ _ => rfl)) de_int (fun _ _ => rfl)) de_int))
    (dss_cons (ds_expr (de_call (dds := [.int 1000000]) O0 (hr.mono (by omega)) rfl (kn.glo 40) F0.kp B1 V1 (fun _ _ => ⟨_, _, rfl, rfl, rfl⟩) tk_of (da_cons (de_var (pv 1)) (da_cons (de_var (pv 3)) da_nil))))
    (dss_cons (ds_set (i := 4) sc_notices_publish.nd rfl (by first | exact .inl rfl | exact .inr rfl) de_dnew)
    (dss_cons (ds_forL own_of rfl (de_fld (de_var (pv 0)) (kn.cls 17) (kn.noat 18)) (dg_name (i := 5) sc_notices_publish.nd rfl (by first | exact .inl rfl | exact .inr rfl)) (dss_one (ds_dput (un1 hr) (de_var (pv 4)) (de_var (pv 5)) (de_meth (c := "Table") (dds := []) (de_var (pv 2)) (kn.cls 36) (kn.meth 41) O2 (hr.mono (by omega)) B3 .nil (fun _ _ => rfl) tk_of (da_cons (de_var (pv 5)) da_nil)))))
    (dss_cons (ds_expr (de_app (de_fld (de_var (pv 0)) (kn.cls 17) (kn.noat 20)) (de_tup (da_cons (de_var (pv 1)) (da_cons (de_var (pv 4)) da_nil)))))
    (dss_one (ds_ret (de_op od_sub (de_callB cd_len rfl (kn.free 10) (by decide +kernel) (da_cons (de_fld (de_var (pv 0)) (kn.cls 17) (kn.noat 20)) da_nil)) de_int))))))))
theorem blk_law_is_number_329_38 : BlkOk ["word", "sign"] (defScope s_law_is_number) { kind := .function, names := [(".0", .local), ("sign", .local)], isGenerator := false, isCoroutine := false, more := [] } [("sign", 1)] := ⟨rfl, by decide +kernel, by decide +kernel, by decide +kernel, by decide +kernel⟩
def b_law_is_number : SM := (sSeq (sIf (mOr (mNot (mTest (mChain gLe gLe (mC (.int 1)) (mCall (g1 gLen) (mCons (mVar 0) mNil)) (mC (.int 7))))) (mTest (mOp gGt (mCall (g1 gLen) (mCons (mLcS false (mVar 0) [1] (bName 1) (mTest (mOp gNotIn (mVar 1) (mC (.str "0123456789")))) (mVar 1)) mNil)) (mC (.int 0))))) (sRet (mC (.bl false))) sNext)
    (sRet (mAndV (mOrV (mOp gEq (mCall (g1 gLen) (mCons (mVar 0) mNil)) (mC (.int 1))) (mOp gNe (mOp gIx (mVar 0) (mC (.int 0))) (mC (.str "0")))) (mOp gLe (mCall (g1 gInt) (mCons (mVar 0) mNil)) (mC (.int 1000000))))))
def f_law_is_number : FM := runF 2 b_law_is_number
theorem ok_law_is_number {w : World} {K : PySem.W.Frag} {mg : Str → Option Value} {base : Heap} (kn : Kn K mg) : Has PP w K mg base 1 d_law_is_number ["word"] f_law_is_number := by
  refine has_def (k := 0) (N := ["word", "sign"]) (d := d_law_is_number) (kn.c.def_ 14 (d := d_law_is_number) rfl) sc_law_is_number fun f cdv A outer s H E hr => ?_
  delta b_law_is_number
  exact (dss_cons (ds_if (PW.pt (dw_or (dt_not (dt_chain od_le od_le de_int (de_callB cd_len rfl (kn.free 10) (by decide +kernel) (da_cons (de_var (pv 0)) da_nil)) de_int)) (dw_or1 (dt_cmp od_gt (de_callB cd_len rfl (kn.free 10) (by decide +kernel) (da_cons (de_lcS (own := [("sign", 1)]) (hm := false) rfl sc_law_is_number.nd (de_var (pv 0)) blk_law_is_number_329_38 (fun s1 H1 C1 cl1 fp1 J1 hJ1 => (dg_name (i := 1) sc_law_is_number.nd rfl (by first | exact .inl rfl | exact .inr rfl) (hJ := fun σ v S h => hJ1 σ v S 1 (by simp) h))) (fun s1 H1 C1 cl1 fp1 J1 hJ1 => (dts_one (dt_cmp od_notin (de_var (pv 1)) de_str (by with_unfolding_all rfl)))) (fun s1 H1 C1 cl1 fp1 J1 hJ1 => (de_var (pv 1)))) da_nil)) de_int (nomark _))))) (dss_one (ds_ret de_bl)) dss_nil)
    (dss_one (ds_ret (de_and (de_or (de_cmp (od_eq hr.units) (de_callB cd_len rfl (kn.free 10) (by decide +kernel) (da_cons (de_var (pv 0)) da_nil)) de_int (nomark _)) (de_and1 (by exact (de_cmp (od_ne hr.units) (de_ix (de_var (pv 0)) de_int (fun _ _ => rfl)) de_str (nomark _))))) (de_and1 (by exact (de_cmp od_le (de_callTy cd_int rfl (kn.free 21) (by decide +kernel) (da_cons (de_var (pv 0)) da_nil)) de_int (nomark _))))))))
theorem blk_law_is_name_327_40 : BlkOk ["word", "sign"] (defScope s_law_is_name) { kind := .function, names := [(".0", .local), ("sign", .local)], isGenerator := false, isCoroutine := false, more := [] } [("sign", 1)] := ⟨rfl, by decide +kernel, by decide +kernel, by decide +kernel, by decide +kernel⟩
def b_law_is_name : SM := (sRet (mAndV (mChain gLe gLe (mC (.int 1)) (mCall (g1 gLen) (mCons (mVar 0) mNil)) (mC (.int 12))) (mOp gEq (mCall (g1 gLen) (mCons (mLcS false (mVar 0) [1] (bName 1) (mTest (mOp gNotIn (mVar 1) (mC (.str "abcdefghijklmnopqrstuvwxyz")))) (mVar 1)) mNil)) (mC (.int 0)))))
def f_law_is_name : FM := runF 2 b_law_is_name
theorem ok_law_is_name {w : World} {K : PySem.W.Frag} {mg : Str → Option Value} {base : Heap} (kn : Kn K mg) : Has PP w K mg base 1 d_law_is_name ["word"] f_law_is_name := by
  refine has_def (k := 0) (N := ["word", "sign"]) (d := d_law_is_name) (kn.c.def_ 15 (d := d_law_is_name) rfl) sc_law_is_name fun f cdv A outer s H E hr => ?_
  delta b_law_is_name
  exact (dss_one (ds_ret (de_and (de_chain od_le od_le de_int (de_callB cd_len rfl (kn.free 10) (by decide +kernel) (da_cons (de_var (pv 0)) da_nil)) de_int) (de_and1 (by exact (de_cmp (od_eq hr.units) (de_callB cd_len rfl (kn.free 10) (by decide +kernel) (da_cons (de_lcS (own := [("sign", 1)]) (hm := false) rfl sc_law_is_name.nd (de_var (pv 0)) blk_law_is_name_327_40 (fun s1 H1 C1 cl1 fp1 J1 hJ1 => (dg_name (i := 1) sc_law_is_name.nd rfl (by first | exact .inl rfl | exact .inr rfl) (hJ := fun σ v S h => hJ1 σ v S 1 (by simp) h))) (fun s1 H1 C1 cl1 fp1 J1 hJ1 => (dts_one (dt_cmp od_notin (de_var (pv 1)) de_str (by with_unfolding_all rfl)))) (fun s1 H1 C1 cl1 fp1 J1 hJ1 => (de_var (pv 1)))) da_nil)) de_int (nomark _)))))))
def b_law_due : SM := (sSeq (sIf (mTest (mOp gEq (mVar 0) (mLst false mNil))) (sRet (mC (.int 1))) sNext)
    (sSeq (sAsg (mBS (gSplit false) (mOp gIx (mVar 0) (mC (.int 0))) (mCons (mC (.str " ")) mNil)) (bName 1))
    (sSeq (sIf (mOr (mTest (mOp gNe (mCall (g1 gLen) (mCons (mVar 1) mNil)) (mC (.int 4)))) (mOr (mTest (mOp gNe (mOp gIx (mVar 1) (mC (.int 0))) (mC (.str "notice")))) (mOr (mTest (mOp gNe (mOp gIx (mVar 1) (mC (.int 2))) (mC (.str "at")))) (mOr (mNot (mTest (mFn (arity 1 f_law_is_number) [] (mCons (mOp gIx (mVar 1) (mC (.int 1))) mNil)))) (mNot (mTest (mFn (arity 1 f_law_is_number) [] (mCons (mOp gIx (mVar 1) (mC (.int 3))) mNil)))))))) (sRet (mC (.int 1))) sNext)
    (sSeq (sAsg (mC (.str "")) (bName 2))
    (sSeq (sForR2 (mCons (mC (.int 1)) (mCons (mCall (g1 gLen) (mCons (mVar 0) mNil)) mNil)) (bName 3) (sSeq (sAsg (mBS (gSplit false) (mOp gIx (mVar 0) (mVar 3)) (mCons (mC (.str " ")) mNil)) (bName 4))
    (sSeq (sIf (mOr (mTest (mOp gNe (mCall (g1 gLen) (mCons (mVar 4) mNil)) (mC (.int 2)))) (mOr (mNot (mTest (mFn (arity 1 f_law_is_name) [] (mCons (mOp gIx (mVar 4) (mC (.int 0))) mNil)))) (mOr (mAnd (mTest (mOp gNe (mOp gIx (mVar 4) (mC (.int 1))) (mC (.str "never")))) (mNot (mTest (mFn (arity 1 f_law_is_number) [] (mCons (mOp gIx (mVar 4) (mC (.int 1))) mNil))))) (mTest (mOp gLeD (mOp gIx (mVar 4) (mC (.int 0))) (mVar 2)))))) (sRet (mOp (gAdd false) (mVar 3) (mC (.int 1)))) sNext)
    (sAsg (mOp gIx (mVar 4) (mC (.int 0))) (bName 2)))))
    (sRet (mC (.int 0))))))))
def f_law_due : FM := runF 5 b_law_due
theorem ok_law_due {w : World} {K : PySem.W.Frag} {mg : Str → Option Value} {base : Heap} (kn : Kn K mg) : Has PP w K mg base 2 d_law_due ["lines"] f_law_due := by
  obtain ⟨fd0, F0, O0⟩ := ok_law_is_number (w := w) (base := base) kn
  have B1 := FunD.bindsN (ps := ["word"]) F0 (fun _ _ _ _ _ _ us hl => match us, hl with | [_], _ => rfl)
  obtain ⟨fd2, F2, O2⟩ := ok_law_is_name (w := w) (base := base) kn
  have B3 := FunD.bindsN (ps := ["word"]) F2 (fun _ _ _ _ _ _ us hl => match us, hl with | [_], _ => rfl)
  refine has_def (k := 1) (N := ["lines", "head", "last", "k", "row"]) (d := d_law_due) (kn.c.def_ 16 (d := d_law_due) rfl) sc_law_due fun f cdv A outer s H E hr => ?_
  delta b_law_due
  exact (dss_cons (ds_if (dt_cmp (od_eq hr.units) (de_var (pv 0)) (de_lst (hm := false) da_nil) (nomark _)) (dss_one (ds_ret de_int)) dss_nil)
    (dss_cons (ds_set (i := 1) sc_law_due.nd rfl (by first | exact .inl rfl | exact .inr rfl) (de_bS PySem.F.plainAttrs_str PySem.F.slot_str_split PySem.F.type_str_split (ms_split false) (de_ix (de_var (pv 0)) de_int (fun _ _ => rfl)) (da_cons de_str da_nil)))
    (dss_cons (ds_if (PW.pt (dw_or (dt_cmp (od_ne hr.units) (de_callB cd_len rfl (kn.free 10) (by decide +kernel) (da_cons (de_var (pv 1)) da_nil)) de_int (nomark _)) (dw_or (dt_cmp (od_ne hr.units) (de_ix (de_var (pv 1)) de_int (fun _ _ => rfl)) de_str (nomark _)) (dw_or (dt_cmp (od_ne hr.units) (de_ix (de_var (pv 1)) de_int (fun _ _ => rfl)) de_str (nomark _)) (dw_or (dt_not (dt_val (de_call (dds := []) O0 (hr.mono (by omega)) rfl (kn.glo 42) F0.kp B1 .nil (fun _ _ => rfl) tk_of (da_cons (de_ix (de_var (pv 1)) de_int (fun _ _ => rfl)) da_nil)))) (dw_or1 (dt_not (dt_val (de_call (dds := []) O0 (hr.mono (by omega)) rfl (kn.glo 42) F0.kp B1 .nil (fun _ _ => rfl) tk_of (da_cons (de_ix (de_var (pv 1)) de_int (fun _ _ => rfl)) da_nil)))))))))) (dss_one (ds_ret de_int)) dss_nil)
    (dss_cons (ds_set (i := 2) sc_law_due.nd rfl (by first | exact .inl rfl | exact .inr rfl) de_str)
    (dss_cons (ds_forR2 own_of rfl rfl (kn.free 44) (da_cons de_int (da_cons (de_callB cd_len rfl (kn.free 10) (by decide +kernel) (da_cons (de_var (pv 0)) da_nil)) da_nil)) (dg_name (i := 3) sc_law_due.nd rfl (by first | exact .inl rfl | exact .inr rfl)) (dss_cons (ds_set (i := 4) sc_law_due.nd rfl (by first | exact .inl rfl | exact .inr rfl) (de_bS PySem.F.plainAttrs_str PySem.F.slot_str_split PySem.F.type_str_split (ms_split false) (de_ix (de_var (pv 0)) (de_var (pv 3)) (fun _ _ => rfl)) (da_cons de_str da_nil)))
    (dss_cons (ds_if (PW.pt (dw_or (dt_cmp (od_ne hr.units) (de_callB cd_len rfl (kn.free 10) (by decide +kernel) (da_cons (de_var (pv 4)) da_nil)) de_int (nomark _)) (dw_or (dt_not (dt_val (de_call (dds := []) O2 (hr.mono (by omega)) rfl (kn.glo 43) F2.kp B3 .nil (fun _ _ => rfl) tk_of (da_cons (de_ix (de_var (pv 4)) de_int (fun _ _ => rfl)) da_nil)))) (dw_or (PW.pt (dw_and (dt_cmp (od_ne hr.units) (de_ix (de_var (pv 4)) de_int (fun _ _ => rfl)) de_str (nomark _)) (dw_and1 (dt_not (dt_val (de_call (dds := []) O0 (hr.mono (by omega)) rfl (kn.glo 42) F0.kp B1 .nil (fun _ _ => rfl) tk_of (da_cons (de_ix (de_var (pv 4)) de_int (fun _ _ => rfl)) da_nil))))))) (dw_or1 (dt_cmp (od_leD hr.units) (de_ix (de_var (pv 4)) de_int (fun _ _ => rfl)) (de_var (pv 2)) (nomark _))))))) (dss_one (ds_ret (de_op (od_add false) (de_var (pv 3)) de_int))) dss_nil)
    (dss_one (ds_set (i := 2) sc_law_due.nd rfl (by first | exact .inl rfl | exact .inr rfl) (de_ix (de_var (pv 4)) de_int (fun _ _ => rfl)))))))
    (dss_one (ds_ret de_int)))))))
def b_lines_of : SM := (sSeq (sIf (mTest (mOp gEq (mVar 0) (mC (.str "")))) (sRet (mLst false mNil)) sNext)
    (sSeq (sAsg (mBS (gSplit false) (mVar 0) (mCons (mC (.str "\n")) mNil)) (bName 1))
    (sSeq (sIf (mTest (mOp gNe (mOp gIx (mVar 1) (mNeg (mC (.int 1)))) (mC (.str "")))) (sRaiseX "InvalidLine" 1 x_InvalidLine (mCons (mCall (g1 gLen) (mCons (mVar 1) mNil)) mNil)) sNext)
    (sRet (mSl false (mVar 1) oNone (oSome (mNeg (mC (.int 1)))))))))
def f_lines_of : FM := runF 2 b_lines_of
theorem ok_lines_of {w : World} {K : PySem.W.Frag} {mg : Str → Option Value} {base : Heap} (kn : Kn K mg) : Has PP w K mg base 3 d_lines_of ["text"] f_lines_of := by
  have X0 := has_InvalidLine (w := w) (base := base) kn
  refine has_def (k := 2) (N := ["text", "rows"]) (d := d_lines_of) (kn.c.def_ 17 (d := d_lines_of) rfl) sc_lines_of fun f cdv A outer s H E hr => ?_
  delta b_lines_of
  exact (dss_cons (ds_if (dt_cmp (od_eq hr.units) (de_var (pv 0)) de_str (nomark _)) (dss_one (ds_ret (de_lst (hm := false) da_nil))) dss_nil)
    (dss_cons (ds_set (i := 1) sc_lines_of.nd rfl (by first | exact .inl rfl | exact .inr rfl) (de_bS PySem.F.plainAttrs_str PySem.F.slot_str_split PySem.F.type_str_split (ms_split false) (de_var (pv 0)) (da_cons de_str da_nil)))
    (dss_cons (ds_if (dt_cmp (od_ne hr.units) (de_ix (de_var (pv 1)) (de_neg de_int) (fun _ _ => rfl)) de_str (nomark _)) (dss_one (ds_raiseX rfl tk_of X0 (hr.mono (by omega)) rfl (kn.glo 45) (da_cons (de_callB cd_len rfl (kn.free 10) (by decide +kernel) (da_cons (de_var (pv 1)) da_nil)) da_nil))) dss_nil)
    (dss_one (ds_ret (de_sl (hm := false) (de_var (pv 1)) do_none (do_some (de_neg de_int))))))))
def b_read_number : SM := (sSeq (sIf (mOr (mNot (mTest (mIsi "str" (mVar 0)))) (mNot (mTest (mChain gLe gLe (mC (.int 1)) (mCall (g1 gLen) (mCons (mVar 0) mNil)) (mC (.int 7)))))) (sRaise "InvalidNumber" (mCons (mC (.str "no number")) mNil)) sNext)
    (sSeq (sForS (mVar 0) (bName 3) (sIf (mTest (mOp gNotIn (mVar 3) (mC (.str "0123456789")))) (sRaise "InvalidNumber" (mCons (mC (.str "no number")) mNil)) sNext))
    (sSeq (sIf (mAnd (mTest (mOp gGt (mCall (g1 gLen) (mCons (mVar 0) mNil)) (mC (.int 1)))) (mTest (mOp gEq (mOp gIx (mVar 0) (mC (.int 0))) (mC (.str "0"))))) (sRaise "InvalidNumber" (mCons (mC (.str "a nought ahead")) mNil)) sNext)
    (sRet (mFn (arity 3 f_checked_number) [] (mCons (mCall (g1 gInt) (mCons (mVar 0) mNil)) (mCons (mVar 1) (mCons (mVar 2) mNil))))))))
def f_read_number : FM := runF 4 b_read_number
theorem ok_read_number {w : World} {K : PySem.W.Frag} {mg : Str → Option Value} {base : Heap} (kn : Kn K mg) : N.Has PP w K mg base 3 d_read_number ["word", "least", "most"] f_read_number := by
  obtain ⟨t0, G0⟩ := kn.str 46 (z := "0123456789")
  obtain ⟨fd1, F1, O1⟩ := ok_checked_number (w := w) (base := base) kn
  obtain ⟨ds2, V2, B2⟩ := FunD.binds1 (ps := ["value", "least", "most"]) F1 3 2 (by intro z; cases z) rfl (fun T kV doc pm an cdv ct us its h1 h2 => match us, its, h1, h2 with | [_, _, _], [_, _], _, _ => ⟨_, rfl, rfl⟩)
  refine N.has_def (k := 2) (N := ["word", "least", "most", "sign"]) (d := d_read_number) (kn.c.def_ 18 (d := d_read_number) rfl) sc_read_number fun f cdv A outer s H E hr => ?_
  delta b_read_number
  exact (dss_cons (ds_if (PW.pt (dw_or (dt_not (dt_val (de_isi (T := "str") rfl (kn.free 9) (by decide +kernel) rfl (kn.free 1) (by decide +kernel) (de_var (pv 0))))) (dw_or1 (dt_not (dt_chain od_le od_le de_int (de_callB cd_len rfl (kn.free 10) (by decide +kernel) (da_cons (de_var (pv 0)) da_nil)) de_int))))) (dss_one (N.ds_raise (c := "InvalidNumber") rfl N.tk_of PySem.F.excBase_ValueError (kn.exc 34).1 (kn.glo 35) (kn.exc 34).2.1 (raises_own (kn.exc 34).2.2.1 (kn.exc 34).2.2.2) rfl (da_cons de_str da_nil))) dss_nil)
    (dss_cons (ds_forS own_of rfl (de_var (pv 0)) (dg_name (i := 3) sc_read_number.nd rfl (by first | exact .inl rfl | exact .inr rfl)) (dss_one (ds_if (dt_cmp od_notin (de_var (pv 3)) (de_c (pe_glob (v := .str "0123456789") rfl G0 ⟨t0, rfl⟩) fun _ _ => rfl) (by with_unfolding_all rfl)) (dss_one (N.ds_raise (c := "InvalidNumber") rfl N.tk_of PySem.F.excBase_ValueError (kn.exc 34).1 (kn.glo 35) (kn.exc 34).2.1 (raises_own (kn.exc 34).2.2.1 (kn.exc 34).2.2.2) rfl (da_cons de_str da_nil))) dss_nil)))
    (dss_cons (ds_if (PW.pt (dw_and (dt_cmp od_gt (de_callB cd_len rfl (kn.free 10) (by decide +kernel) (da_cons (de_var (pv 0)) da_nil)) de_int (nomark _)) (dw_and1 (dt_cmp (od_eq hr.units) (de_ix (de_var (pv 0)) de_int (fun _ _ => rfl)) de_str (nomark _))))) (dss_one (N.ds_raise (c := "InvalidNumber") rfl N.tk_of PySem.F.excBase_ValueError (kn.exc 34).1 (kn.glo 35) (kn.exc 34).2.1 (raises_own (kn.exc 34).2.2.1 (kn.exc 34).2.2.2) rfl (da_cons de_str da_nil))) dss_nil)
    (dss_one (ds_ret (N.de_call (dds := []) O1 (hr.mono (by omega)) rfl (kn.glo 40) F1.kp B2 V2 (fun _ _ => rfl) N.tk_of (da_cons (de_callTy cd_int rfl (kn.free 21) (by decide +kernel) (da_cons (de_var (pv 0)) da_nil)) (da_cons (de_var (pv 1)) (da_cons (de_var (pv 2)) da_nil)))))))))
def b_read_head : SM := (sSeq (sIf (mOr (mTest (mOp gNe (mCall (g1 gLen) (mCons (mVar 0) mNil)) (mC (.int 4)))) (mOr (mTest (mOp gNe (mOp gIx (mVar 0) (mC (.int 0))) (mC (.str "notice")))) (mTest (mOp gNe (mOp gIx (mVar 0) (mC (.int 2))) (mC (.str "at")))))) (sRet (mC .non)) sNext)
    (sRet (mTup (mCons (mFn (arity 3 f_read_number) [.int 0, .int 1000000] (mCons (mOp gIx (mVar 0) (mC (.int 1))) mNil)) (mCons (mFn (arity 3 f_read_number) [.int 0, .int 1000000] (mCons (mOp gIx (mVar 0) (mC (.int 3))) mNil)) mNil)))))
def f_read_head : FM := runF 1 b_read_head
theorem ok_read_head {w : World} {K : PySem.W.Frag} {mg : Str → Option Value} {base : Heap} (kn : Kn K mg) : N.Has PP w K mg base 4 d_read_head ["row"] f_read_head := by
  obtain ⟨fd0, F0, O0⟩ := ok_read_number (w := w) (base := base) kn
  obtain ⟨ds1, V1, B1⟩ := FunD.binds1 (ps := ["word", "least", "most"]) F0 1 0 (by intro z; cases z) rfl (fun T kV doc pm an cdv ct us its h1 h2 => match us, its, h1, h2 with | [_], [_, _], _, _ => ⟨_, rfl, rfl⟩)
  refine N.has_def (k := 3) (N := ["row"]) (d := d_read_head) (kn.c.def_ 19 (d := d_read_head) rfl) sc_read_head fun f cdv A outer s H E hr => ?_
  delta b_read_head
  exact (dss_cons (ds_if (PW.pt (dw_or (dt_cmp (od_ne hr.units) (de_callB cd_len rfl (kn.free 10) (by decide +kernel) (da_cons (de_var (pv 0)) da_nil)) de_int (nomark _)) (dw_or (dt_cmp (od_ne hr.units) (de_ix (de_var (pv 0)) de_int (fun _ _ => rfl)) de_str (nomark _)) (dw_or1 (dt_cmp (od_ne hr.units) (de_ix (de_var (pv 0)) de_int (fun _ _ => rfl)) de_str (nomark _)))))) (dss_one (ds_ret de_non)) dss_nil)
    (dss_one (ds_ret (de_tup (da_cons (N.de_call (dds := [.int 0, .int 1000000]) O0 (hr.mono (by omega)) rfl (kn.glo 47) F0.kp B1 V1 (fun _ _ => ⟨_, _, rfl, rfl, ⟨_, _, rfl, rfl, rfl⟩⟩) N.tk_of (da_cons (de_ix (de_var (pv 0)) de_int (fun _ _ => rfl)) da_nil)) (da_cons (N.de_call (dds := [.int 0, .int 1000000]) O0 (hr.mono (by omega)) rfl (kn.glo 47) F0.kp B1 V1 (fun _ _ => ⟨_, _, rfl, rfl, ⟨_, _, rfl, rfl, rfl⟩⟩) N.tk_of (da_cons (de_ix (de_var (pv 0)) de_int (fun _ _ => rfl)) da_nil)) da_nil))))))
def b_read_station : SM := (sSeq (sIf (mTest (mOp gNe (mCall (g1 gLen) (mCons (mVar 0) mNil)) (mC (.int 2)))) (sRet (mC .non)) sNext)
    (sSeq (sAsg (mFn (arity 1 f_checked_name) [] (mCons (mOp gIx (mVar 0) (mC (.int 0))) mNil)) (bName 1))
    (sRet (mTup (mCons (mVar 1) (mCons (mIf (mTest (mOp gEq (mOp gIx (mVar 0) (mC (.int 1))) (mC (.str "never")))) (mC .non) (mFn (arity 3 f_read_number) [.int 0, .int 1000000] (mCons (mOp gIx (mVar 0) (mC (.int 1))) mNil))) mNil))))))
def f_read_station : FM := runF 2 b_read_station
theorem ok_read_station {w : World} {K : PySem.W.Frag} {mg : Str → Option Value} {base : Heap} (kn : Kn K mg) : N.Has PP w K mg base 4 d_read_station ["row"] f_read_station := by
  obtain ⟨fd0, F0, O0⟩ := ok_checked_name (w := w) (base := base) kn
  have B1 := FunD.bindsN (ps := ["word"]) F0 (fun _ _ _ _ _ _ us hl => match us, hl with | [_], _ => rfl)
  obtain ⟨fd2, F2, O2⟩ := ok_read_number (w := w) (base := base) kn
  obtain ⟨ds3, V3, B3⟩ := FunD.binds1 (ps := ["word", "least", "most"]) F2 1 0 (by intro z; cases z) rfl (fun T kV doc pm an cdv ct us its h1 h2 => match us, its, h1, h2 with | [_], [_, _], _, _ => ⟨_, rfl, rfl⟩)
  refine N.has_def (k := 3) (N := ["row", "station"]) (d := d_read_station) (kn.c.def_ 20 (d := d_read_station) rfl) sc_read_station fun f cdv A outer s H E hr => ?_
  delta b_read_station
  exact (dss_cons (ds_if (dt_cmp (od_ne hr.units) (de_callB cd_len rfl (kn.free 10) (by decide +kernel) (da_cons (de_var (pv 0)) da_nil)) de_int (nomark _)) (dss_one (ds_ret de_non)) dss_nil)
    (dss_cons (ds_set (i := 1) sc_read_station.nd rfl (by first | exact .inl rfl | exact .inr rfl) (N.de_call (dds := []) O0 (hr.mono (by omega)) rfl (kn.glo 19) F0.kp B1 .nil (fun _ _ => rfl) N.tk_of (da_cons (de_ix (de_var (pv 0)) de_int (fun _ _ => rfl)) da_nil)))
    (dss_one (ds_ret (de_tup (da_cons (de_var (pv 1)) (da_cons (de_if (dt_cmp (od_eq hr.units) (de_ix (de_var (pv 0)) de_int (fun _ _ => rfl)) de_str (nomark _)) de_non (N.de_call (dds := [.int 0, .int 1000000]) O2 (hr.mono (by omega)) rfl (kn.glo 47) F2.kp B3 V3 (fun _ _ => ⟨_, _, rfl, rfl, ⟨_, _, rfl, rfl, rfl⟩⟩) N.tk_of (da_cons (de_ix (de_var (pv 0)) de_int (fun _ _ => rfl)) da_nil))) da_nil)))))))
def b_words : SM := (sRet (mBS (gSplit false) (mVar 0) (mCons (mC (.str " ")) mNil)))
def f_words : FM := runF 1 b_words
theorem ok_words {w : World} {K : PySem.W.Frag} {mg : Str → Option Value} {base : Heap} (kn : Kn K mg) : N.Has PP w K mg base 1 d_words ["line"] f_words := by
  refine N.has_def (k := 0) (N := ["line"]) (d := d_words) (kn.c.def_ 21 (d := d_words) rfl) sc_words fun f cdv A outer s H E hr => ?_
  delta b_words
  exact (dss_one (ds_ret (de_bS PySem.F.plainAttrs_str PySem.F.slot_str_split PySem.F.type_str_split (ms_split false) (de_var (pv 0)) (da_cons de_str da_nil))))
def sub_read_notice_139 (nm : Str) : Option Bool := if nm = "InvalidName" then some true else if nm = "InvalidNumber" then some true else if nm = "DuplicateName" then some true else if nm = "UnknownName" then some true else if nm = "TooMany" then some true else if nm = "InvalidLine" then some true else if nm = "InvalidPaper" then some true else none
theorem subok_read_notice_139 {K : PySem.W.Frag} {mg : Str → Option Value} (kn : Kn K mg) (nm : Str) (b : Bool) (z : sub_read_notice_139 nm = some b) : PySem.W.exmOne K (.ref (He.ga K nm)) (.ref (He.ga K "RiseError")) = some b := by
  unfold sub_read_notice_139 at z
  split at z
  · rename_i e; cases z; rw [e]; exact kn.exm 49
  split at z
  · rename_i e; cases z; rw [e]; exact kn.exm 50
  split at z
  · rename_i e; cases z; rw [e]; exact kn.exm 51
  split at z
  · rename_i e; cases z; rw [e]; exact kn.exm 52
  split at z
  · rename_i e; cases z; rw [e]; exact kn.exm 53
  split at z
  · rename_i e; cases z; rw [e]; exact kn.exm 54
  split at z
  · rename_i e; cases z; rw [e]; exact kn.exm 55
  cases z
def b_read_notice : SM := (sSeq (sAsg (mFn (arity 1 f_lines_of) [] (mCons (mVar 0) mNil)) (bName 1))
    (sSeq (sIf (mNot (mTru (mVar 1))) (sRaiseX "InvalidLine" 1 x_InvalidLine (mCons (mC (.int 1)) mNil)) sNext)
    (sSeq (sAsg (mC .non) (bName 2))
    (sSeq (sAsg (mLst true mNil) (bName 3))
    (sSeq (sForR1 (mCons (mCall (g1 gLen) (mCons (mVar 1) mNil)) mNil) (bName 4) (sSeq (sAsg (mC .non) (bName 5))
    (sSeq (sTryEN sub_read_notice_139 (sAsg (mIf (mTest (mOp gEq (mVar 4) (mC (.int 0)))) (mFn (arity 1 f_read_head) [] (mCons (mFn (arity 1 f_words) [] (mCons (mOp gIx (mVar 1) (mC (.int 0))) mNil)) mNil)) (mFn (arity 1 f_read_station) [] (mCons (mFn (arity 1 f_words) [] (mCons (mOp gIx (mVar 1) (mVar 4)) mNil)) mNil))) (bName 5)) (fun y => if y.cls = "InvalidName" then (sRaiseX "InvalidLine" 1 x_InvalidLine (mCons (mOp (gAdd false) (mVar 4) (mC (.int 1))) mNil)) else if y.cls = "InvalidNumber" then (sRaiseX "InvalidLine" 1 x_InvalidLine (mCons (mOp (gAdd false) (mVar 4) (mC (.int 1))) mNil)) else if y.cls = "DuplicateName" then (sRaiseX "InvalidLine" 1 x_InvalidLine (mCons (mOp (gAdd false) (mVar 4) (mC (.int 1))) mNil)) else if y.cls = "UnknownName" then (sRaiseX "InvalidLine" 1 x_InvalidLine (mCons (mOp (gAdd false) (mVar 4) (mC (.int 1))) mNil)) else if y.cls = "TooMany" then (sRaiseX "InvalidLine" 1 x_InvalidLine (mCons (mOp (gAdd false) (mVar 4) (mC (.int 1))) mNil)) else if y.cls = "InvalidLine" then (sRaiseX "InvalidLine" 1 x_InvalidLine (mCons (mOp (gAdd false) (mVar 4) (mC (.int 1))) mNil)) else if y.cls = "InvalidPaper" then (sRaiseX "InvalidLine" 1 x_InvalidLine (mCons (mOp (gAdd false) (mVar 4) (mC (.int 1))) mNil)) else fun _ _ => .bad))
    (sSeq (sIf (mOr (mTest (mOp gIs (mVar 5) (mC .non))) (mAnd (mTru (mVar 3)) (mTest (mOp gGeD (mOp gIx (mOp gIx (mVar 3) (mNeg (mC (.int 1)))) (mC (.int 0))) (mOp gIx (mVar 5) (mC (.int 0))))))) (sRaiseX "InvalidLine" 1 x_InvalidLine (mCons (mOp (gAdd false) (mVar 4) (mC (.int 1))) mNil)) sNext)
    (sIf (mTest (mOp gEq (mVar 4) (mC (.int 0)))) (sAsg (mVar 5) (bName 2)) (sDrop (mApp (mVar 3) (mVar 5))))))))
    (sRet (mTup (mCons (mOp gIx (mVar 2) (mC (.int 0))) (mCons (mOp gIx (mVar 2) (mC (.int 1))) (mCons (mVar 3) mNil))))))))))
def f_read_notice : FM := runF 6 b_read_notice
theorem ok_read_notice {w : World} {K : PySem.W.Frag} {mg : Str → Option Value} {base : Heap} (kn : Kn K mg) : Has PP w K mg base 5 d_read_notice ["text"] f_read_notice := by
  obtain ⟨fd0, F0, O0⟩ := ok_lines_of (w := w) (base := base) kn
  have B1 := FunD.bindsN (ps := ["text"]) F0 (fun _ _ _ _ _ _ us hl => match us, hl with | [_], _ => rfl)
  have X2 := has_InvalidLine (w := w) (base := base) kn
  obtain ⟨fd3, F3, O3⟩ := ok_read_head (w := w) (base := base) kn
  have B4 := FunD.bindsN (ps := ["row"]) F3 (fun _ _ _ _ _ _ us hl => match us, hl with | [_], _ => rfl)
  obtain ⟨fd5, F5, O5⟩ := ok_words (w := w) (base := base) kn
  have B6 := FunD.bindsN (ps := ["line"]) F5 (fun _ _ _ _ _ _ us hl => match us, hl with | [_], _ => rfl)
  obtain ⟨fd7, F7, O7⟩ := ok_read_station (w := w) (base := base) kn
  have B8 := FunD.bindsN (ps := ["row"]) F7 (fun _ _ _ _ _ _ us hl => match us, hl with | [_], _ => rfl)
  have X9 := hasH_InvalidLine (w := w) (base := base) kn
  refine has_def (k := 4) (N := ["text", "lines", "head", "rows", "at", "found"]) (d := d_read_notice) (kn.c.def_ 22 (d := d_read_notice) rfl) sc_read_notice fun f cdv A outer s H E hr => ?_
  delta b_read_notice
  exact (dss_cons (ds_set (i := 1) sc_read_notice.nd rfl (by first | exact .inl rfl | exact .inr rfl) (de_call (dds := []) O0 (hr.mono (by omega)) rfl (kn.glo 48) F0.kp B1 .nil (fun _ _ => rfl) tk_of (da_cons (de_var (pv 0)) da_nil)))
    (dss_cons (ds_if (dt_not (dt_truth (de_var (pv 1)))) (dss_one (ds_raiseX rfl tk_of X2 (hr.mono (by omega)) rfl (kn.glo 45) (da_cons de_int da_nil))) dss_nil)
    (dss_cons (ds_set (i := 2) sc_read_notice.nd rfl (by first | exact .inl rfl | exact .inr rfl) de_non)
    (dss_cons (ds_set (i := 3) sc_read_notice.nd rfl (by first | exact .inl rfl | exact .inr rfl) (de_lst (hm := true) da_nil))
    (dss_cons (ds_forR1 own_of rfl rfl (kn.free 44) (da_cons (de_callB cd_len rfl (kn.free 10) (by decide +kernel) (da_cons (de_var (pv 1)) da_nil)) da_nil) (dg_name (i := 4) sc_read_notice.nd rfl (by first | exact .inl rfl | exact .inr rfl)) (dss_cons (ds_set (i := 5) sc_read_notice.nd rfl (by first | exact .inl rfl | exact .inr rfl) de_non)
    (dss_cons (ds_tryEN (cv := (.ref (He.ga K "RiseError"))) rfl rfl (⟨rfl, by decide, .inl (kn.glo 56)⟩) (fun hd => L2H.passesAt_of rfl hd) tk_of (subok_read_notice_139 kn) (fun W1 pn1 xe1 tk1 own1 => (dss_one (ds_set (i := 5) sc_read_notice.nd rfl (by first | exact .inl rfl | exact .inr rfl) (de_if (dt_cmp (od_eq hr.units) (de_var (pv 4)) de_int (nomark _)) (N.de_call (dds := []) O3 (hr.mono (by omega)) rfl (kn.glo 57) F3.kp B4 .nil (fun _ _ => rfl) tk1 (da_cons (N.de_call (dds := []) O5 (hr.mono (by omega)) rfl (kn.glo 58) F5.kp B6 .nil (fun _ _ => rfl) tk1 (da_cons (de_ix (de_var (pv 1)) de_int (fun _ _ => rfl)) da_nil)) da_nil)) (N.de_call (dds := []) O7 (hr.mono (by omega)) rfl (kn.glo 59) F7.kp B8 .nil (fun _ _ => rfl) tk1 (da_cons (N.de_call (dds := []) O5 (hr.mono (by omega)) rfl (kn.glo 58) F5.kp B6 .nil (fun _ _ => rfl) tk1 (da_cons (de_ix (de_var (pv 1)) (de_var (pv 4)) (fun _ _ => rfl)) da_nil)) da_nil)))))) (fun ⟨yc, yf⟩ a od oe pn hc hz hf tkS hotS => by
      replace hc : sub_read_notice_139 yc = some true := hc
      unfold sub_read_notice_139 at hc
      split at hc
      · rename_i e; subst e; show PSs _ _ (tS _ _ _ _ (sRaiseX "InvalidLine" 1 x_InvalidLine (mCons (mOp (gAdd false) (mVar 4) (mC (.int 1))) mNil))); exact (dss_one (ds_raiseXH hotS tkS X9 (L2H.roomH_mark (hr.mono (by omega)) _) rfl (kn.glo 45) (da_cons (de_op (od_add false) (de_var (pv 4)) de_int) da_nil)))
      split at hc
      · rename_i e; subst e; show PSs _ _ (tS _ _ _ _ (sRaiseX "InvalidLine" 1 x_InvalidLine (mCons (mOp (gAdd false) (mVar 4) (mC (.int 1))) mNil))); exact (dss_one (ds_raiseXH hotS tkS X9 (L2H.roomH_mark (hr.mono (by omega)) _) rfl (kn.glo 45) (da_cons (de_op (od_add false) (de_var (pv 4)) de_int) da_nil)))
      split at hc
      · rename_i e; subst e; show PSs _ _ (tS _ _ _ _ (sRaiseX "InvalidLine" 1 x_InvalidLine (mCons (mOp (gAdd false) (mVar 4) (mC (.int 1))) mNil))); exact (dss_one (ds_raiseXH hotS tkS X9 (L2H.roomH_mark (hr.mono (by omega)) _) rfl (kn.glo 45) (da_cons (de_op (od_add false) (de_var (pv 4)) de_int) da_nil)))
      split at hc
      · rename_i e; subst e; show PSs _ _ (tS _ _ _ _ (sRaiseX "InvalidLine" 1 x_InvalidLine (mCons (mOp (gAdd false) (mVar 4) (mC (.int 1))) mNil))); exact (dss_one (ds_raiseXH hotS tkS X9 (L2H.roomH_mark (hr.mono (by omega)) _) rfl (kn.glo 45) (da_cons (de_op (od_add false) (de_var (pv 4)) de_int) da_nil)))
      split at hc
      · rename_i e; subst e; show PSs _ _ (tS _ _ _ _ (sRaiseX "InvalidLine" 1 x_InvalidLine (mCons (mOp (gAdd false) (mVar 4) (mC (.int 1))) mNil))); exact (dss_one (ds_raiseXH hotS tkS X9 (L2H.roomH_mark (hr.mono (by omega)) _) rfl (kn.glo 45) (da_cons (de_op (od_add false) (de_var (pv 4)) de_int) da_nil)))
      split at hc
      · rename_i e; subst e; show PSs _ _ (tS _ _ _ _ (sRaiseX "InvalidLine" 1 x_InvalidLine (mCons (mOp (gAdd false) (mVar 4) (mC (.int 1))) mNil))); exact (dss_one (ds_raiseXH hotS tkS X9 (L2H.roomH_mark (hr.mono (by omega)) _) rfl (kn.glo 45) (da_cons (de_op (od_add false) (de_var (pv 4)) de_int) da_nil)))
      split at hc
      · rename_i e; subst e; show PSs _ _ (tS _ _ _ _ (sRaiseX "InvalidLine" 1 x_InvalidLine (mCons (mOp (gAdd false) (mVar 4) (mC (.int 1))) mNil))); exact (dss_one (ds_raiseXH hotS tkS X9 (L2H.roomH_mark (hr.mono (by omega)) _) rfl (kn.glo 45) (da_cons (de_op (od_add false) (de_var (pv 4)) de_int) da_nil)))
      cases hc))
    (dss_cons (ds_if (PW.pt (dw_or (dt_cmp od_is (de_var (pv 5)) de_non (nomark _)) (dw_or1 (PW.pt (dw_and (dt_truth (de_var (pv 3))) (dw_and1 (dt_cmp (od_geD hr.units) (de_ix (de_ix (de_var (pv 3)) (de_neg de_int) (fun _ _ => rfl)) de_int (fun _ _ => rfl)) (de_ix (de_var (pv 5)) de_int (fun _ _ => rfl)) (nomark _)))))))) (dss_one (ds_raiseX rfl tk_of X2 (hr.mono (by omega)) rfl (kn.glo 45) (da_cons (de_op (od_add false) (de_var (pv 4)) de_int) da_nil))) dss_nil)
    (dss_one (ds_if (dt_cmp (od_eq hr.units) (de_var (pv 4)) de_int (nomark _)) (dss_one (ds_set (i := 2) sc_read_notice.nd rfl (by first | exact .inl rfl | exact .inr rfl) (de_var (pv 5)))) (dss_one (ds_expr (de_app (de_var (pv 3)) (de_var (pv 5)))))))))))
    (dss_one (ds_ret (de_tup (da_cons (de_ix (de_var (pv 2)) de_int (fun _ _ => rfl)) (da_cons (de_ix (de_var (pv 2)) de_int (fun _ _ => rfl)) (da_cons (de_var (pv 3)) da_nil)))))))))))
def sub_law_read_362 (nm : Str) : Option Bool := if nm = "InvalidName" then some false else if nm = "InvalidNumber" then some false else if nm = "DuplicateName" then some false else if nm = "UnknownName" then some false else if nm = "TooMany" then some false else if nm = "InvalidLine" then some true else if nm = "InvalidPaper" then some false else none
theorem subok_law_read_362 {K : PySem.W.Frag} {mg : Str → Option Value} (kn : Kn K mg) (nm : Str) (b : Bool) (z : sub_law_read_362 nm = some b) : PySem.W.exmOne K (.ref (He.ga K nm)) (.ref (He.ga K "InvalidLine")) = some b := by
  unfold sub_law_read_362 at z
  split at z
  · rename_i e; cases z; rw [e]; exact kn.exm 60
  split at z
  · rename_i e; cases z; rw [e]; exact kn.exm 61
  split at z
  · rename_i e; cases z; rw [e]; exact kn.exm 62
  split at z
  · rename_i e; cases z; rw [e]; exact kn.exm 63
  split at z
  · rename_i e; cases z; rw [e]; exact kn.exm 64
  split at z
  · rename_i e; cases z; rw [e]; exact kn.exm 65
  split at z
  · rename_i e; cases z; rw [e]; exact kn.exm 66
  cases z
def b_law_read : SM := (sTryE sub_law_read_362 (some 1) (sRet (mFn (arity 1 f_read_notice) [] (mCons (mVar 0) mNil))) (fun y => if y.cls = "InvalidLine" then (sRet (mLst false (mCons (mXf y "line") mNil))) else fun _ _ => .bad))
def f_law_read : FM := runF 2 b_law_read
theorem ok_law_read {w : World} {K : PySem.W.Frag} {mg : Str → Option Value} {base : Heap} (kn : Kn K mg) : Has PP w K mg base 6 d_law_read ["text"] f_law_read := by
  obtain ⟨fd0, F0, O0⟩ := ok_read_notice (w := w) (base := base) kn
  have B1 := FunD.bindsN (ps := ["text"]) F0 (fun _ _ _ _ _ _ us hl => match us, hl with | [_], _ => rfl)
  refine has_def (k := 5) (N := ["text", "e"]) (d := d_law_read) (kn.c.def_ 23 (d := d_law_read) rfl) sc_law_read fun f cdv A outer s H E hr => ?_
  delta b_law_read
  exact (dss_one (ds_tryE_as (i := 1) (cv := (.ref (He.ga K "InvalidLine"))) rfl rfl sc_law_read.nd rfl rfl (⟨rfl, by decide, .inl (kn.glo 45)⟩) tk_of (subok_law_read_362 kn) (fun W1 pn1 xe1 tk1 own1 => (dss_one (ds_ret (de_call (dds := []) O0 (hr.mono (by omega)) rfl (kn.glo 67) F0.kp B1 .nil (fun _ _ => rfl) tk1 (da_cons (de_var (pv 0)) da_nil))))) (fun ⟨yc, yf⟩ a od oe pn hc hz hf => by
      replace hc : sub_law_read_362 yc = some true := hc
      unfold sub_law_read_362 at hc
      split at hc
      · cases hc
      split at hc
      · cases hc
      split at hc
      · cases hc
      split at hc
      · cases hc
      split at hc
      · cases hc
      split at hc
      · rename_i e; subst e; show PSs _ _ (tS _ _ _ _ (sRet (mLst false (mCons (mXf (⟨"InvalidLine", yf⟩ : Exn) "line") mNil)))); exact (dss_one (ds_ret (de_lst (hm := false) (da_cons (de_xf (xf_of (fx_exc (fx_at kn.x 0))) (kn.noat 3) hz hf (pv 1)) da_nil))))
      split at hc
      · cases hc
      cases hc)))
def b_land_plants : SM := (sRet (mCall (g1 (gSorted false)) (mCons (mFld "Land" "_plants" (mVar 0)) mNil)))
def f_land_plants : FM := runF 1 b_land_plants
theorem ok_land_plants {w : World} {K : PySem.W.Frag} {mg : Str → Option Value} {base : Heap} (kn : Kn K mg) : Has PP w K mg base 1 d_land_plants ["self"] f_land_plants := by
  refine has_def (k := 0) (N := ["self"]) (d := d_land_plants) (kn.c.def_ 24 (d := d_land_plants) rfl) sc_land_plants fun f cdv A outer s H E hr => ?_
  delta b_land_plants
  exact (dss_one (ds_ret (de_callB (cd_sorted false rfl) rfl (kn.free 16) (by decide +kernel) (da_cons (de_fld (de_var (pv 0)) (kn.cls 4) (kn.noat 7)) da_nil))))
def b_land_stations : SM := (sRet (mCall (g1 (gList false)) (mCons (mFld "Land" "_stations" (mVar 0)) mNil)))
def f_land_stations : FM := runF 1 b_land_stations
theorem ok_land_stations {w : World} {K : PySem.W.Frag} {mg : Str → Option Value} {base : Heap} (kn : Kn K mg) : Has PP w K mg base 1 d_land_stations ["self"] f_land_stations := by
  refine has_def (k := 0) (N := ["self"]) (d := d_land_stations) (kn.c.def_ 25 (d := d_land_stations) rfl) sc_land_stations fun f cdv A outer s H E hr => ?_
  delta b_land_stations
  exact (dss_one (ds_ret (de_callTy (cd_list false) rfl (kn.free 68) (by decide +kernel) (da_cons (de_fld (de_var (pv 0)) (kn.cls 4) (kn.noat 5)) da_nil))))
def b_land_lines : SM := (sRet (mCall (g1 (gSorted false)) (mCons (mFld "Land" "_lines" (mVar 0)) mNil)))
def f_land_lines : FM := runF 1 b_land_lines
theorem ok_land_lines {w : World} {K : PySem.W.Frag} {mg : Str → Option Value} {base : Heap} (kn : Kn K mg) : Has PP w K mg base 1 d_land_lines ["self"] f_land_lines := by
  refine has_def (k := 0) (N := ["self"]) (d := d_land_lines) (kn.c.def_ 26 (d := d_land_lines) rfl) sc_land_lines fun f cdv A outer s H E hr => ?_
  delta b_land_lines
  exact (dss_one (ds_ret (de_callB (cd_sorted false rfl) rfl (kn.free 16) (by decide +kernel) (da_cons (de_fld (de_var (pv 0)) (kn.cls 4) (kn.noat 6)) da_nil))))
def b_named : SM := (sSeq (sIf (mTest (mOp gEq (mVar 1) (mC (.str "station")))) (sRet (mMeth "Land" "stations" (arity 1 f_land_stations) [] (mVar 0) mNil)) sNext)
    (sSeq (sIf (mTest (mOp gEq (mVar 1) (mC (.str "line")))) (sRet (mMeth "Land" "lines" (arity 1 f_land_lines) [] (mVar 0) mNil)) sNext)
    (sRet (mMeth "Land" "plants" (arity 1 f_land_plants) [] (mVar 0) mNil))))
def f_named : FM := runF 2 b_named
theorem ok_named {w : World} {K : PySem.W.Frag} {mg : Str → Option Value} {base : Heap} (kn : Kn K mg) : Has PP w K mg base 2 d_named ["land", "kind"] f_named := by
  obtain ⟨fd0, F0, O0⟩ := ok_land_stations (w := w) (base := base) kn
  have B1 := FunD.bindsN (ps := ["self"]) F0 (fun _ _ _ _ _ _ us hl => match us, hl with | [_], _ => rfl)
  obtain ⟨fd2, F2, O2⟩ := ok_land_lines (w := w) (base := base) kn
  have B3 := FunD.bindsN (ps := ["self"]) F2 (fun _ _ _ _ _ _ us hl => match us, hl with | [_], _ => rfl)
  obtain ⟨fd4, F4, O4⟩ := ok_land_plants (w := w) (base := base) kn
  have B5 := FunD.bindsN (ps := ["self"]) F4 (fun _ _ _ _ _ _ us hl => match us, hl with | [_], _ => rfl)
  refine has_def (k := 1) (N := ["land", "kind"]) (d := d_named) (kn.c.def_ 27 (d := d_named) rfl) sc_named fun f cdv A outer s H E hr => ?_
  delta b_named
  exact (dss_cons (ds_if (dt_cmp (od_eq hr.units) (de_var (pv 1)) de_str (nomark _)) (dss_one (ds_ret (de_meth0 (c := "Land") (dds := []) (de_var (pv 0)) (kn.cls 4) (kn.meth 69) O0 (hr.mono (by omega)) B1 .nil (fun _ _ => rfl) tk_of))) dss_nil)
    (dss_cons (ds_if (dt_cmp (od_eq hr.units) (de_var (pv 1)) de_str (nomark _)) (dss_one (ds_ret (de_meth0 (c := "Land") (dds := []) (de_var (pv 0)) (kn.cls 4) (kn.meth 70) O2 (hr.mono (by omega)) B3 .nil (fun _ _ => rfl) tk_of))) dss_nil)
    (dss_one (ds_ret (de_meth0 (c := "Land") (dds := []) (de_var (pv 0)) (kn.cls 4) (kn.meth 71) O4 (hr.mono (by omega)) B5 .nil (fun _ _ => rfl) tk_of)))))
theorem blk_table_init_267_15 : BlkOk ["self", "land", "minutes", "kind", "word", "value"] (defScope s_table_init) { kind := .function, names := [(".0", .local), ("word", .local), ("land", .free)], isGenerator := false, isCoroutine := false, more := [] } [("word", 4)] := ⟨rfl, by decide +kernel, by decide +kernel, by decide +kernel, by decide +kernel⟩
def b_table_init : SM := (sSeq (sFldM "Table" "_rows" (mVar 0) (mLst true mNil))
    (sSeq (sForT (mC (.tup [.str "station", .str "line", .str "plant"])) (bName 3) (sForL (mFn (arity 2 f_named) [] (mCons (mVar 1) (mCons (mVar 3) mNil))) (bName 4) (sSeq (sAsg (mDGet1 (mVar 2) (mVar 4)) (bName 5))
    (sSeq (sIf (mAnd (mTest (mOp gIsNot (mVar 5) (mC .non))) (mNot (mTest (mFn (arity 3 f_is_number) [] (mCons (mVar 5) (mCons (mC (.int 0)) (mCons (mOp gPow (mC (.int 10)) (mC (.int 12))) mNil))))))) (sRaise "InvalidPaper" (mCons (mC (.str "no minute")) mNil)) sNext)
    (sDrop (mApp (mFld "Table" "_rows" (mVar 0)) (mTup (mCons (mVar 3) (mCons (mVar 4) (mCons (mVar 5) mNil))))))))))
    (sSeq (sIf (mTest (mOp gGt (mCall (g1 gLen) (mCons (mLcD false (mVar 2) [4] (bName 4) (mTest (mOp gIs (mMeth "Land" "kind" (arity 2 f_land_kind) [] (mVar 1) (mCons (mVar 4) mNil)) (mC .non))) (mVar 4)) mNil)) (mC (.int 0)))) (sRaise "InvalidPaper" (mCons (mC (.str "an unknown name")) mNil)) sNext)
    (sSeq (sFldM "Table" "_minutes" (mVar 0) mDNew)
    (sForL (mFld "Table" "_rows" (mVar 0)) (bTup 3 (bCons (bName 3) (bCons (bName 4) (bCons (bName 5) bNil)))) (sDPutM (mFld "Table" "_minutes" (mVar 0)) (mVar 4) (mTup (mCons (mVar 3) (mCons (mVar 5) mNil)))))))))
def f_table_init : FM := runF 6 b_table_init
theorem ok_table_init {w : World} {K : PySem.W.Frag} {mg : Str → Option Value} {base : Heap} (kn : Kn K mg) : Has PP w K mg base 3 d_table_init ["self", "land", "minutes"] f_table_init := by
  obtain ⟨fd0, F0, O0⟩ := has_weak (ok_is_number (w := w) (base := base) kn)
  obtain ⟨ds1, V1, B1⟩ := FunD.binds1 (ps := ["value", "least", "most"]) F0 3 2 (by intro z; cases z) rfl (fun T kV doc pm an cdv ct us its h1 h2 => match us, its, h1, h2 with | [_, _, _], [_, _], _, _ => ⟨_, rfl, rfl⟩)
  obtain ⟨fd2, F2, O2⟩ := ok_named (w := w) (base := base) kn
  have B3 := FunD.bindsN (ps := ["land", "kind"]) F2 (fun _ _ _ _ _ _ us hl => match us, hl with | [_, _], _ => rfl)
  obtain ⟨fd4, F4, O4⟩ := ok_land_kind (w := w) (base := base) kn
  have B5 := FunD.bindsN (ps := ["self", "word"]) F4 (fun _ _ _ _ _ _ us hl => match us, hl with | [_, _], _ => rfl)
  refine has_def (k := 2) (N := ["self", "land", "minutes", "kind", "word", "value"]) (d := d_table_init) (kn.c.def_ 28 (d := d_table_init) rfl) sc_table_init fun f cdv A outer s H E hr => ?_
  delta b_table_init
  exact (dss_cons (ds_fld (de_var (pv 0)) (de_lst (hm := true) da_nil) (kn.cls 36) (kn.noat 72))
    (dss_cons (ds_forT own_of rfl (de_c (d := .tup [.str "station", .str "line", .str "plant"]) (pe_glob (v := .ref (He.ga K "KINDS")) rfl (kn.glo 76) rfl) (fun S r => fx_tupS (xs := ["station", "line", "plant"]) (fx_at kn.x 1) S r)) (dg_name (i := 3) sc_table_init.nd rfl (by first | exact .inl rfl | exact .inr rfl)) (dss_one (ds_forL own_of rfl (de_call (dds := []) O2 (hr.mono (by omega)) rfl (kn.glo 75) F2.kp B3 .nil (fun _ _ => rfl) tk_of (da_cons (de_var (pv 1)) (da_cons (de_var (pv 3)) da_nil))) (dg_name (i := 4) sc_table_init.nd rfl (by first | exact .inl rfl | exact .inr rfl)) (dss_cons (ds_set (i := 5) sc_table_init.nd rfl (by first | exact .inl rfl | exact .inr rfl) (de_dget1 (un1 hr) (de_var (pv 2)) (de_var (pv 4))))
    (dss_cons (ds_if (PW.pt (dw_and (dt_cmp od_isnot (de_var (pv 5)) de_non (nomark _)) (dw_and1 (dt_not (dt_val (de_call (dds := []) O0 (hr.mono (by omega)) rfl (kn.glo 33) F0.kp B1 V1 (fun _ _ => rfl) tk_of (da_cons (de_var (pv 5)) (da_cons de_int (da_cons (de_op od_pow de_int de_int) da_nil))))))))) (dss_one (ds_raise (c := "InvalidPaper") rfl tk_of PySem.F.excBase_ValueError (kn.exc 73).1 (kn.glo 74) (kn.exc 73).2.1 (raises_own (kn.exc 73).2.2.1 (kn.exc 73).2.2.2) rfl (da_cons de_str da_nil))) dss_nil)
    (dss_one (ds_expr (de_app (de_fld (de_var (pv 0)) (kn.cls 36) (kn.noat 72)) (de_tup (da_cons (de_var (pv 3)) (da_cons (de_var (pv 4)) (da_cons (de_var (pv 5)) da_nil))))))))))))
    (dss_cons (ds_if (dt_cmp od_gt (de_callB cd_len rfl (kn.free 10) (by decide +kernel) (da_cons (de_lcD (own := [("word", 4)]) (hm := false) rfl sc_table_init.nd (de_var (pv 2)) blk_table_init_267_15 (fun s1 H1 C1 cl1 fp1 J1 hJ1 => (dg_name (i := 4) sc_table_init.nd rfl (by first | exact .inl rfl | exact .inr rfl) (hJ := fun σ v S h => hJ1 σ v S 4 (by simp) h))) (fun s1 H1 C1 cl1 fp1 J1 hJ1 => (dts_one (dt_cmp od_is (de_meth (c := "Land") (dds := []) (de_var (pv 1)) (kn.cls 4) (kn.meth 24) O4 (hr.mono (by omega)) B5 .nil (fun _ _ => rfl) takesF (da_cons (de_var (pv 4)) da_nil)) de_non (nomark _)))) (fun s1 H1 C1 cl1 fp1 J1 hJ1 => (de_var (pv 4)))) da_nil)) de_int (nomark _)) (dss_one (ds_raise (c := "InvalidPaper") rfl tk_of PySem.F.excBase_ValueError (kn.exc 73).1 (kn.glo 74) (kn.exc 73).2.1 (raises_own (kn.exc 73).2.2.1 (kn.exc 73).2.2.2) rfl (da_cons de_str da_nil))) dss_nil)
    (dss_cons (ds_fld (de_var (pv 0)) de_dnew (kn.cls 36) (kn.noat 37))
    (dss_one (ds_forL own_of rfl (de_fld (de_var (pv 0)) (kn.cls 36) (kn.noat 72)) (dg_tup rfl (dgs_cons (dg_name (i := 3) sc_table_init.nd rfl (by first | exact .inl rfl | exact .inr rfl)) (dgs_cons (dg_name (i := 4) sc_table_init.nd rfl (by first | exact .inl rfl | exact .inr rfl)) (dgs_cons (dg_name (i := 5) sc_table_init.nd rfl (by first | exact .inl rfl | exact .inr rfl)) dgs_nil)))) (dss_one (ds_dput (un1 hr) (de_fld (de_var (pv 0)) (kn.cls 36) (kn.noat 37)) (de_var (pv 4)) (de_tup (da_cons (de_var (pv 3)) (da_cons (de_var (pv 5)) da_nil)))))))))))
def b_notices_row : SM := (sSeq (sIf (mTest (mOp gGe (mFn (arity 3 f_checked_number) [.int 0, .int 1000000] (mCons (mVar 1) mNil)) (mCall (g1 gLen) (mCons (mFld "Notices" "_rows" (mVar 0)) mNil)))) (sRaise "UnknownName" (mCons (mC (.str "notice")) mNil)) sNext)
    (sRet (mOp gIx (mFld "Notices" "_rows" (mVar 0)) (mVar 1))))
def f_notices_row : FM := runF 2 b_notices_row
theorem ok_notices_row {w : World} {K : PySem.W.Frag} {mg : Str → Option Value} {base : Heap} (kn : Kn K mg) : Has PP w K mg base 3 d_notices_row ["self", "number"] f_notices_row := by
  obtain ⟨fd0, F0, O0⟩ := has_weak (ok_checked_number (w := w) (base := base) kn)
  obtain ⟨ds1, V1, B1⟩ := FunD.binds1 (ps := ["value", "least", "most"]) F0 1 0 (by intro z; cases z) rfl (fun T kV doc pm an cdv ct us its h1 h2 => match us, its, h1, h2 with | [_], [_, _], _, _ => ⟨_, rfl, rfl⟩)
  refine has_def (k := 2) (N := ["self", "number"]) (d := d_notices_row) (kn.c.def_ 29 (d := d_notices_row) rfl) sc_notices_row fun f cdv A outer s H E hr => ?_
  delta b_notices_row
  exact (dss_cons (ds_if (dt_cmp od_ge (de_call (dds := [.int 0, .int 1000000]) O0 (hr.mono (by omega)) rfl (kn.glo 40) F0.kp B1 V1 (fun _ _ => ⟨_, _, rfl, rfl, ⟨_, _, rfl, rfl, rfl⟩⟩) tk_of (da_cons (de_var (pv 1)) da_nil)) (de_callB cd_len rfl (kn.free 10) (by decide +kernel) (da_cons (de_fld (de_var (pv 0)) (kn.cls 17) (kn.noat 20)) da_nil)) (nomark _)) (dss_one (ds_raise (c := "UnknownName") rfl tk_of PySem.F.excBase_ValueError (kn.exc 38).1 (kn.glo 39) (kn.exc 38).2.1 (raises_own (kn.exc 38).2.2.1 (kn.exc 38).2.2.2) rfl (da_cons de_str da_nil))) dss_nil)
    (dss_one (ds_ret (de_ix (de_fld (de_var (pv 0)) (kn.cls 17) (kn.noat 20)) (de_var (pv 1)) (fun _ _ => rfl)))))
def b_told : SM := (sSeq (sIf (mTest (mOp gIs (mVar 0) (mC .non))) (sRet (mC (.str "never"))) sNext)
    (sRet (mCall (g1 gStr) (mCons (mVar 0) mNil))))
def f_told : FM := runF 1 b_told
theorem ok_told {w : World} {K : PySem.W.Frag} {mg : Str → Option Value} {base : Heap} (kn : Kn K mg) : Has PP w K mg base 1 d_told ["value"] f_told := by
  refine has_def (k := 0) (N := ["value"]) (d := d_told) (kn.c.def_ 30 (d := d_told) rfl) sc_told fun f cdv A outer s H E hr => ?_
  delta b_told
  exact (dss_cons (ds_if (dt_cmp od_is (de_var (pv 0)) de_non (nomark _)) (dss_one (ds_ret de_str)) dss_nil)
    (dss_one (ds_ret (de_callTy cd_str rfl (kn.free 1) (by decide +kernel) (da_cons (de_var (pv 0)) da_nil)))))
theorem blk_notices_text_120_24 : BlkOk ["self", "number", "minute", "rows", "lines", "word", "line"] (defScope s_notices_text) { kind := .function, names := [(".0", .local), ("word", .local), ("told", .globalImplicit), ("rows", .free)], isGenerator := false, isCoroutine := false, more := [] } [("word", 5)] := ⟨rfl, by decide +kernel, by decide +kernel, by decide +kernel, by decide +kernel⟩
theorem blk_notices_text_121_23 : BlkOk ["self", "number", "minute", "rows", "lines", "word", "line"] (defScope s_notices_text) { kind := .function, names := [(".0", .local), ("line", .local)], isGenerator := false, isCoroutine := false, more := [] } [("line", 6)] := ⟨rfl, by decide +kernel, by decide +kernel, by decide +kernel, by decide +kernel⟩
def b_notices_text : SM := (sSeq (sAsg (mMeth "Notices" "_row" (arity 2 f_notices_row) [] (mVar 0) (mCons (mVar 1) mNil)) (bTup 2 (bCons (bName 2) (bCons (bName 3) bNil))))
    (sSeq (sAsg (mLst false (mCons (mOp (gAdd false) (mOp (gAdd false) (mOp (gAdd false) (mC (.str "notice ")) (mCall (g1 gStr) (mCons (mVar 1) mNil))) (mC (.str " at "))) (mCall (g1 gStr) (mCons (mVar 2) mNil))) mNil)) (bName 4))
    (sSeq (sAsg (mOp (gAdd false) (mVar 4) (mLcL false (mFld "Notices" "_stations" (mVar 0)) [5] (bName 5) mYes (mOp (gAdd false) (mOp (gAdd false) (mVar 5) (mC (.str " "))) (mFn (arity 1 f_told) [] (mCons (mDGet (mVar 3) (mVar 5)) mNil))))) (bName 4))
    (sRet (mBS (gJoin) (mC (.str "")) (mCons (mLcL false (mVar 4) [6] (bName 6) mYes (mOp (gAdd false) (mVar 6) (mC (.str "\n")))) mNil))))))
def f_notices_text : FM := runF 7 b_notices_text
theorem ok_notices_text {w : World} {K : PySem.W.Frag} {mg : Str → Option Value} {base : Heap} (kn : Kn K mg) : Has PP w K mg base 4 d_notices_text ["self", "number"] f_notices_text := by
  obtain ⟨fd0, F0, O0⟩ := ok_notices_row (w := w) (base := base) kn
  have B1 := FunD.bindsN (ps := ["self", "number"]) F0 (fun _ _ _ _ _ _ us hl => match us, hl with | [_, _], _ => rfl)
  obtain ⟨fd2, F2, O2⟩ := ok_told (w := w) (base := base) kn
  have B3 := FunD.bindsN (ps := ["value"]) F2 (fun _ _ _ _ _ _ us hl => match us, hl with | [_], _ => rfl)
  refine has_def (k := 3) (N := ["self", "number", "minute", "rows", "lines", "word", "line"]) (d := d_notices_text) (kn.c.def_ 31 (d := d_notices_text) rfl) sc_notices_text fun f cdv A outer s H E hr => ?_
  delta b_notices_text
  exact (dss_cons (ds_asg (de_meth (c := "Notices") (dds := []) (de_var (pv 0)) (kn.cls 17) (kn.meth 77) O0 (hr.mono (by omega)) B1 .nil (fun _ _ => rfl) tk_of (da_cons (de_var (pv 1)) da_nil)) (dg_tup rfl (dgs_cons (dg_name (i := 2) sc_notices_text.nd rfl (by first | exact .inl rfl | exact .inr rfl)) (dgs_cons (dg_name (i := 3) sc_notices_text.nd rfl (by first | exact .inl rfl | exact .inr rfl)) dgs_nil))))
    (dss_cons (ds_set (i := 4) sc_notices_text.nd rfl (by first | exact .inl rfl | exact .inr rfl) (de_lst (hm := false) (da_cons (de_op (od_add false) (de_op (od_add false) (de_op (od_add false) de_str (de_callTy cd_str rfl (kn.free 1) (by decide +kernel) (da_cons (de_var (pv 1)) da_nil))) de_str) (de_callTy cd_str rfl (kn.free 1) (by decide +kernel) (da_cons (de_var (pv 2)) da_nil))) da_nil)))
    (dss_cons (ds_set (i := 4) sc_notices_text.nd rfl (by first | exact .inl rfl | exact .inr rfl) (de_op (od_add false) (de_var (pv 4)) (de_lcL (own := [("word", 5)]) (hm := false) rfl sc_notices_text.nd (de_fld (de_var (pv 0)) (kn.cls 17) (kn.noat 18)) blk_notices_text_120_24 (fun s1 H1 C1 cl1 fp1 J1 hJ1 => (dg_name (i := 5) sc_notices_text.nd rfl (by first | exact .inl rfl | exact .inr rfl) (hJ := fun σ v S h => hJ1 σ v S 5 (by simp) h))) (fun s1 H1 C1 cl1 fp1 J1 hJ1 => dts_nil) (fun s1 H1 C1 cl1 fp1 J1 hJ1 => (de_op (od_add false) (de_op (od_add false) (de_var (pv 5)) de_str) (de_call (dds := []) O2 (hr.mono (by omega)) rfl (kn.glo 78) F2.kp B3 .nil (fun _ _ => rfl) takesF (da_cons (de_dget (un1 hr) (de_var (pv 3)) (de_var (pv 5))) da_nil)))))))
    (dss_one (ds_ret (de_bS PySem.F.plainAttrs_str PySem.F.slot_str_join PySem.F.type_str_join ms_join de_str (da_cons (de_lcL (own := [("line", 6)]) (hm := false) rfl sc_notices_text.nd (de_var (pv 4)) blk_notices_text_121_23 (fun s2 H2 C2 cl2 fp2 J2 hJ2 => (dg_name (i := 6) sc_notices_text.nd rfl (by first | exact .inl rfl | exact .inr rfl) (hJ := fun σ v S h => hJ2 σ v S 6 (by simp) h))) (fun s2 H2 C2 cl2 fp2 J2 hJ2 => dts_nil) (fun s2 H2 C2 cl2 fp2 J2 hJ2 => (de_op (od_add false) (de_var (pv 6)) de_str))) da_nil)))))))
def b_law_spoilt : SM := (sSeq (sAsg (mFn (arity 2 f_law_take) [] (mCons (mVar 0) (mCons (mCall (g1 gLen) (mCons (mVar 1) mNil)) mNil))) (bName 2))
    (sSeq (sAsg (mOp gIx (mVar 1) (mVar 2)) (bName 3))
    (sSeq (sAsg (mLst false (mCons (mC (.str "")) (mCons (mC (.str "ash Never")) (mCons (mC (.str "ash")) (mCons (mC (.str "Ash 5")) (mCons (mC (.str "ash 05")) (mCons (mC (.str "zed never")) (mCons (mC (.str "ash 1000001")) (mCons (mC (.str "notice 0 at")) (mCons (mC (.str "notice 0 on 5")) (mCons (mC (.str "abcdefghijklm 5")) mNil))))))))))) (bName 4))
    (sSeq (sAsg (mFn (arity 2 f_law_take) [] (mCons (mVar 0) (mCons (mC (.int 14)) mNil))) (bName 5))
    (sSeq (sIf (mTest (mOp gLt (mVar 5) (mC (.int 10)))) (sAsg (mOp gIx (mVar 4) (mVar 5)) (bName 3)) (sIf (mTest (mOp gEq (mVar 5) (mC (.int 10)))) (sAsg (mOp (gAdd false) (mVar 3) (mC (.str " 5"))) (bName 3)) (sIf (mTest (mOp gEq (mVar 5) (mC (.int 11)))) (sAsg (mRepl " " "  " (mVar 3)) (bName 3)) (sIf (mTest (mOp gEq (mVar 5) (mC (.int 12)))) (sRet (mOp (gAdd false) (mOp (gAdd false) (mSl false (mVar 1) oNone (oSome (mVar 2))) (mLst false (mCons (mVar 3) mNil))) (mSl false (mVar 1) (oSome (mVar 2)) oNone))) (sRet (mOp (gAdd false) (mSl false (mVar 1) oNone (oSome (mVar 2))) (mSl false (mVar 1) (oSome (mOp (gAdd false) (mVar 2) (mC (.int 1)))) oNone)))))))
    (sRet (mOp (gAdd false) (mOp (gAdd false) (mSl false (mVar 1) oNone (oSome (mVar 2))) (mLst false (mCons (mVar 3) mNil))) (mSl false (mVar 1) (oSome (mOp (gAdd false) (mVar 2) (mC (.int 1)))) oNone))))))))
def f_law_spoilt : FM := runF 6 b_law_spoilt
theorem ok_law_spoilt {w : World} {K : PySem.W.Frag} {mg : Str → Option Value} {base : Heap} (kn : Kn K mg) : Has PP w K mg base 3 d_law_spoilt ["draw", "lines"] f_law_spoilt := by
  obtain ⟨fd0, F0, O0⟩ := ok_law_take (w := w) (base := base) kn
  have B1 := FunD.bindsN (ps := ["state", "limit"]) F0 (fun _ _ _ _ _ _ us hl => match us, hl with | [_, _], _ => rfl)
  refine has_def (k := 2) (N := ["draw", "lines", "at", "line", "fixed", "pick"]) (d := d_law_spoilt) (kn.c.def_ 32 (d := d_law_spoilt) rfl) sc_law_spoilt fun f cdv A outer s H E hr => ?_
  delta b_law_spoilt
  exact (dss_cons (ds_set (i := 2) sc_law_spoilt.nd rfl (by first | exact .inl rfl | exact .inr rfl) (de_call (dds := []) O0 (hr.mono (by omega)) rfl (kn.glo 79) F0.kp B1 .nil (fun _ _ => rfl) tk_of (da_cons (de_var (pv 0)) (da_cons (de_callB cd_len rfl (kn.free 10) (by decide +kernel) (da_cons (de_var (pv 1)) da_nil)) da_nil))))
    (dss_cons (ds_set (i := 3) sc_law_spoilt.nd rfl (by first | exact .inl rfl | exact .inr rfl) (de_ix (de_var (pv 1)) (de_var (pv 2)) (fun _ _ => rfl)))
    (dss_lstT (hm := false) (i := 4) sc_law_spoilt.nd rfl (by first | exact .inl rfl | exact .inr rfl) (da_cons de_str (da_cons de_str (da_cons de_str (da_cons de_str (da_cons de_str (da_cons de_str (da_cons de_str (da_cons de_str (da_cons de_str da_nil)))))))))
    (dsst_cons (dst_of (ds_set (i := 5) sc_law_spoilt.nd rfl (by first | exact .inl rfl | exact .inr rfl) (de_call (dds := []) O0 (hr.mono (by omega)) rfl (kn.glo 79) F0.kp B1 .nil (fun _ _ => rfl) tk_of (da_cons (de_var (pv 0)) (da_cons de_int da_nil)))))
    (dsst_cons (dst_ifP (dt_cmp od_lt (de_var (pv 5)) de_int (nomark _)) (dsst_of (dss_one (ds_set (i := 3) sc_law_spoilt.nd rfl (by first | exact .inl rfl | exact .inr rfl) (de_ix (de_var (pv 4)) (de_var (pv 5)) (fun _ _ => rfl))))) (dsst_one (dst_ifP (dt_cmp (od_eq hr.units) (de_var (pv 5)) de_int (nomark _)) (dsst_of (dss_one (ds_set (i := 3) sc_law_spoilt.nd rfl (by first | exact .inl rfl | exact .inr rfl) (de_op (od_add false) (de_var (pv 3)) de_str)))) (dsst_one (dst_ifP (dt_cmp (od_eq hr.units) (de_var (pv 5)) de_int (nomark _)) (dsst_one (dst_set (i := 3) sc_law_spoilt.nd rfl (by first | exact .inl rfl | exact .inr rfl) (det_repl (de_var (pv 3)) (y := " ") (z := "  ")))) (dsst_of (dss_one (ds_if (dt_cmp (od_eq hr.units) (de_var (pv 5)) de_int (nomark _)) (dss_one (ds_ret (de_op (od_add false) (de_op (od_add false) (de_sl (hm := false) (de_var (pv 1)) do_none (do_some (de_var (pv 2)))) (de_lst (hm := false) (da_cons (de_var (pv 3)) da_nil))) (de_sl (hm := false) (de_var (pv 1)) (do_some (de_var (pv 2))) do_none)))) (dss_one (ds_ret (de_op (od_add false) (de_sl (hm := false) (de_var (pv 1)) do_none (do_some (de_var (pv 2)))) (de_sl (hm := false) (de_var (pv 1)) (do_some (de_op (od_add false) (de_var (pv 2)) de_int)) do_none))))))))))))
    (dsst_one (dst_of (ds_ret (de_op (od_add false) (de_op (od_add false) (de_sl (hm := false) (de_var (pv 1)) do_none (do_some (de_var (pv 2)))) (de_lst (hm := false) (da_cons (de_var (pv 3)) da_nil))) (de_sl (hm := false) (de_var (pv 1)) (do_some (de_op (od_add false) (de_var (pv 2)) de_int)) do_none))))))))))
theorem blk_law_381_20 : BlkOk ["script", "draw", "stations", "land", "told_v", "name", "notices", "number", "minute", "k", "lines", "text", "rows", "due", "found", "line"] (defScope s_law) { kind := .function, names := [(".0", .local), ("name", .local), ("str", .globalImplicit), ("told_v", .free)], isGenerator := false, isCoroutine := false, more := [] } [("name", 5)] := ⟨rfl, by decide +kernel, by decide +kernel, by decide +kernel, by decide +kernel⟩
theorem blk_law_382_19 : BlkOk ["script", "draw", "stations", "land", "told_v", "name", "notices", "number", "minute", "k", "lines", "text", "rows", "due", "found", "line"] (defScope s_law) { kind := .function, names := [(".0", .local), ("line", .local)], isGenerator := false, isCoroutine := false, more := [] } [("line", 15)] := ⟨rfl, by decide +kernel, by decide +kernel, by decide +kernel, by decide +kernel⟩
theorem blk_law_383_11 : BlkOk ["script", "draw", "stations", "land", "told_v", "name", "notices", "number", "minute", "k", "lines", "text", "rows", "due", "found", "line"] (defScope s_law) { kind := .function, names := [(".0", .local), ("name", .local), ("told_v", .free)], isGenerator := false, isCoroutine := false, more := [] } [("name", 5)] := ⟨rfl, by decide +kernel, by decide +kernel, by decide +kernel, by decide +kernel⟩
theorem blk_law_390_34 : BlkOk ["script", "draw", "stations", "land", "told_v", "name", "notices", "number", "minute", "k", "lines", "text", "rows", "due", "found", "line"] (defScope s_law) { kind := .function, names := [(".0", .local), ("line", .local)], isGenerator := false, isCoroutine := false, more := [] } [("line", 15)] := ⟨rfl, by decide +kernel, by decide +kernel, by decide +kernel, by decide +kernel⟩
def b_law : SM := (sSeq (sAsg (mLst true (mCons (mVar 0) (mCons (mC (.int 0)) (mCons (mC (.int 0)) mNil)))) (bName 1))
    (sSeq (sAsg (mSl false (mLst false (mCons (mC (.str "ash")) (mCons (mC (.str "bay")) (mCons (mC (.str "elm")) (mCons (mC (.str "fir")) (mCons (mC (.str "gum")) mNil)))))) oNone (oSome (mOp (gAdd false) (mC (.int 1)) (mFn (arity 2 f_law_take) [] (mCons (mVar 1) (mCons (mC (.int 5)) mNil)))))) (bName 2))
    (sSeq (sAsg (mMake "Land" (arity 1 f_land_init) [] mNil) (bName 3))
    (sSeq (sAsg mDNew (bName 4))
    (sSeq (sForL (mVar 2) (bName 5) (sSeq (sDrop (mMeth "Land" "add_station" (arity 2 f_land_add_station) [] (mVar 3) (mCons (mVar 5) mNil)))
    (sIf (mTest (mOp gGt (mFn (arity 2 f_law_take) [] (mCons (mVar 1) (mCons (mC (.int 4)) mNil))) (mC (.int 0)))) (sDPutM (mVar 4) (mVar 5) (mOp gIx (mLst false (mCons (mC (.int 0)) (mCons (mC (.int 9)) (mCons (mC (.int 10)) (mCons (mC (.int 1000000)) (mCons (mFn (arity 2 f_law_take) [] (mCons (mVar 1) (mCons (mC (.int 5000)) mNil))) mNil)))))) (mFn (arity 2 f_law_take) [] (mCons (mVar 1) (mCons (mC (.int 5)) mNil))))) sNext)))
    (sSeq (sAsg (mMake "Notices" (arity 2 f_notices_init) [] (mCons (mVar 2) mNil)) (bName 6))
    (sSeq (sAsg (mFn (arity 2 f_law_take) [] (mCons (mVar 1) (mCons (mC (.int 3)) mNil))) (bName 7))
    (sSeq (sAsg (mFn (arity 2 f_law_take) [] (mCons (mVar 1) (mCons (mC (.int 3000)) mNil))) (bName 8))
    (sSeq (sForR1 (mCons (mOp (gAdd false) (mVar 7) (mC (.int 1))) mNil) (bName 9) (sDrop (mMeth "Notices" "publish" (arity 3 f_notices_publish) [] (mVar 6) (mCons (mVar 8) (mCons (mMake "Table" (arity 3 f_table_init) [] (mCons (mVar 3) (mCons (mCall (g1 gDictD) (mCons (mVar 4) mNil)) mNil))) mNil)))))
    (sSeq (sAsg (mLst false (mCons (mOp (gAdd false) (mOp (gAdd false) (mOp (gAdd false) (mC (.str "notice ")) (mCall (g1 gStr) (mCons (mVar 7) mNil))) (mC (.str " at "))) (mCall (g1 gStr) (mCons (mVar 8) mNil))) mNil)) (bName 10))
    (sSeq (sAsg (mOp (gAdd false) (mVar 10) (mLcL false (mVar 2) [5] (bName 5) mYes (mOp (gAdd false) (mOp (gAdd false) (mVar 5) (mC (.str " "))) (mIf (mTest (mDIn false (mVar 5) (mVar 4))) (mC (.str "never")) (mCall (g1 gStr) (mCons (mDGet (mVar 4) (mVar 5)) mNil)))))) (bName 10))
    (sSeq (sAsg (mBS (gJoin) (mC (.str "")) (mCons (mLcL false (mVar 10) [15] (bName 15) mYes (mOp (gAdd false) (mVar 15) (mC (.str "\n")))) mNil)) (bName 11))
    (sSeq (sAsg (mLcL false (mVar 2) [5] (bName 5) mYes (mTup (mCons (mVar 5) (mCons (mDGet1 (mVar 4) (mVar 5)) mNil)))) (bName 12))
    (sSeq (sIf (mOr (mTest (mOp gNe (mMeth "Notices" "text" (arity 2 f_notices_text) [] (mVar 6) (mCons (mVar 7) mNil)) (mVar 11))) (mTest (mOp gNe (mFn (arity 1 f_read_notice) [] (mCons (mVar 11) mNil)) (mTup (mCons (mVar 7) (mCons (mVar 8) (mCons (mVar 12) mNil))))))) (sRet (mC (.bl false))) sNext)
    (sSeq (sForR1 (mCons (mC (.int 2)) mNil) (bName 9) (sSeq (sIf (mTest (mOp gNe (mVar 10) (mLst false mNil))) (sAsg (mFn (arity 2 f_law_spoilt) [] (mCons (mVar 1) (mCons (mVar 10) mNil))) (bName 10)) sNext)
    (sSeq (sAsg (mFn (arity 1 f_law_due) [] (mCons (mVar 10) mNil)) (bName 13))
    (sSeq (sAsg (mFn (arity 1 f_law_read) [] (mCons (mBS (gJoin) (mC (.str "")) (mCons (mLcL false (mVar 10) [15] (bName 15) mYes (mOp (gAdd false) (mVar 15) (mC (.str "\n")))) mNil)) mNil)) (bName 14))
    (sIf (mOr (mAnd (mTest (mOp gGt (mVar 13) (mC (.int 0)))) (mTest (mOp gNe (mVar 14) (mLst false (mCons (mVar 13) mNil))))) (mAnd (mTest (mOp gEq (mVar 13) (mC (.int 0)))) (mOr (mTest (mIsi "list" (mVar 14))) (mTest (mOp gNe (mCall (g1 gLen) (mCons (mOp gIx (mVar 14) (mC (.int 2))) mNil)) (mOp gSub (mCall (g1 gLen) (mCons (mVar 10) mNil)) (mC (.int 1)))))))) (sRet (mC (.bl false))) sNext)))))
    (sRet (mAndV (mOp gEq (mFn (arity 1 f_law_read) [] (mCons (mSl false (mVar 11) oNone (oSome (mNeg (mC (.int 1))))) mNil)) (mLst false (mCons (mOp (gAdd false) (mCall (g1 gLen) (mCons (mVar 2) mNil)) (mC (.int 1))) mNil))) (mOp gEq (mFn (arity 1 f_law_read) [] (mCons (mC (.str "")) mNil)) (mLst false (mCons (mC (.int 1)) mNil))))))))))))))))))))
def f_law : FM := runF 16 b_law
theorem ok_law {w : World} {K : PySem.W.Frag} {mg : Str → Option Value} {base : Heap} (kn : Kn K mg) : ∃ fd, FunD K "law" "law" (defArgs s_law) (defBody s_law) (defScope s_law) [] [] (He.ga K "law") fd ∧ FnOk PP w K mg base CX0 7 (He.ga K "law") fd ["script"] (spLaw K f_law) := by
  obtain ⟨fd0, F0, O0⟩ := ok_law_take (w := w) (base := base) kn
  have B1 := FunD.bindsN (ps := ["state", "limit"]) F0 (fun _ _ _ _ _ _ us hl => match us, hl with | [_, _], _ => rfl)
  obtain ⟨fd2, F2, O2⟩ := ok_land_init (w := w) (base := base) kn
  have B3 := FunD.bindsN (ps := ["self"]) F2 (fun _ _ _ _ _ _ us hl => match us, hl with | [_], _ => rfl)
  obtain ⟨fd4, F4, O4⟩ := ok_land_add_station (w := w) (base := base) kn
  have B5 := FunD.bindsN (ps := ["self", "word"]) F4 (fun _ _ _ _ _ _ us hl => match us, hl with | [_, _], _ => rfl)
  obtain ⟨fd6, F6, O6⟩ := ok_notices_init (w := w) (base := base) kn
  have B7 := FunD.bindsN (ps := ["self", "stations"]) F6 (fun _ _ _ _ _ _ us hl => match us, hl with | [_, _], _ => rfl)
  obtain ⟨fd8, F8, O8⟩ := ok_notices_publish (w := w) (base := base) kn
  have B9 := FunD.bindsN (ps := ["self", "minute", "table"]) F8 (fun _ _ _ _ _ _ us hl => match us, hl with | [_, _, _], _ => rfl)
  obtain ⟨fd10, F10, O10⟩ := ok_table_init (w := w) (base := base) kn
  have B11 := FunD.bindsN (ps := ["self", "land", "minutes"]) F10 (fun _ _ _ _ _ _ us hl => match us, hl with | [_, _, _], _ => rfl)
  obtain ⟨fd12, F12, O12⟩ := ok_notices_text (w := w) (base := base) kn
  have B13 := FunD.bindsN (ps := ["self", "number"]) F12 (fun _ _ _ _ _ _ us hl => match us, hl with | [_, _], _ => rfl)
  obtain ⟨fd14, F14, O14⟩ := ok_read_notice (w := w) (base := base) kn
  have B15 := FunD.bindsN (ps := ["text"]) F14 (fun _ _ _ _ _ _ us hl => match us, hl with | [_], _ => rfl)
  obtain ⟨fd16, F16, O16⟩ := ok_law_spoilt (w := w) (base := base) kn
  have B17 := FunD.bindsN (ps := ["draw", "lines"]) F16 (fun _ _ _ _ _ _ us hl => match us, hl with | [_, _], _ => rfl)
  obtain ⟨fd18, F18, O18⟩ := ok_law_due (w := w) (base := base) kn
  have B19 := FunD.bindsN (ps := ["lines"]) F18 (fun _ _ _ _ _ _ us hl => match us, hl with | [_], _ => rfl)
  obtain ⟨fd20, F20, O20⟩ := ok_law_read (w := w) (base := base) kn
  have B21 := FunD.bindsN (ps := ["text"]) F20 (fun _ _ _ _ _ _ us hl => match us, hl with | [_], _ => rfl)
  obtain ⟨fd, F⟩ := kn.c.def_ 33 (d := d_law) rfl
  refine ⟨fd, F, law_def (ad := He.ga K) (k := 6) (N := ["script", "draw", "stations", "land", "told_v", "name", "notices", "number", "minute", "k", "lines", "text", "rows", "due", "found", "line"]) F sc_law fun cdv A outer s H E hr => ?_⟩
  delta b_law
  exact (dss_cons (ds_set (i := 1) sc_law.nd rfl (by first | exact .inl rfl | exact .inr rfl) (de_lst (hm := true) (da_cons (de_var (pv 0)) (da_cons de_int (da_cons de_int da_nil)))))
    (dss_cons (ds_set (i := 2) sc_law.nd rfl (by first | exact .inl rfl | exact .inr rfl) (de_sl (hm := false) (de_lst (hm := false) (da_cons de_str (da_cons de_str (da_cons de_str (da_cons de_str (da_cons de_str da_nil)))))) do_none (do_some (de_op (od_add false) de_int (de_call (dds := []) O0 (hr.mono (by omega)) rfl (kn.glo 79) F0.kp B1 .nil (fun _ _ => rfl) takesF (da_cons (de_var (pv 1)) (da_cons de_int da_nil)))))))
    (dss_cons (ds_set (i := 3) sc_law.nd rfl (by first | exact .inl rfl | exact .inr rfl) (de_make0 (c := "Land") (dds := []) (kn.mkr 81) O2 (hr.mono (by omega)) rfl (kn.glo 80) B3 .nil (fun _ _ => rfl) takesF))
    (dss_cons (ds_set (i := 4) sc_law.nd rfl (by first | exact .inl rfl | exact .inr rfl) de_dnew)
    (dss_cons (ds_forL own_of rfl (de_var (pv 2)) (dg_name (i := 5) sc_law.nd rfl (by first | exact .inl rfl | exact .inr rfl)) (dss_cons (ds_expr (de_meth (c := "Land") (dds := []) (de_var (pv 3)) (kn.cls 4) (kn.meth 82) O4 (hr.mono (by omega)) B5 .nil (fun _ _ => rfl) takesF (da_cons (de_var (pv 5)) da_nil)))
    (dss_one (ds_if (dt_cmp od_gt (de_call (dds := []) O0 (hr.mono (by omega)) rfl (kn.glo 79) F0.kp B1 .nil (fun _ _ => rfl) takesF (da_cons (de_var (pv 1)) (da_cons de_int da_nil))) de_int (nomark _)) (dss_one (ds_dput (un1 hr) (de_var (pv 4)) (de_var (pv 5)) (de_ix (de_lst (hm := false) (da_cons de_int (da_cons de_int (da_cons de_int (da_cons de_int (da_cons (de_call (dds := []) O0 (hr.mono (by omega)) rfl (kn.glo 79) F0.kp B1 .nil (fun _ _ => rfl) takesF (da_cons (de_var (pv 1)) (da_cons de_int da_nil))) da_nil)))))) (de_call (dds := []) O0 (hr.mono (by omega)) rfl (kn.glo 79) F0.kp B1 .nil (fun _ _ => rfl) takesF (da_cons (de_var (pv 1)) (da_cons de_int da_nil))) (fun _ _ => rfl)))) dss_nil))))
    (dss_cons (ds_set (i := 6) sc_law.nd rfl (by first | exact .inl rfl | exact .inr rfl) (de_make (c := "Notices") (dds := []) (kn.mkr 84) O6 (hr.mono (by omega)) rfl (kn.glo 83) B7 .nil (fun _ _ => rfl) takesF (da_cons (de_var (pv 2)) da_nil)))
    (dss_cons (ds_set (i := 7) sc_law.nd rfl (by first | exact .inl rfl | exact .inr rfl) (de_call (dds := []) O0 (hr.mono (by omega)) rfl (kn.glo 79) F0.kp B1 .nil (fun _ _ => rfl) takesF (da_cons (de_var (pv 1)) (da_cons de_int da_nil))))
    (dss_cons (ds_set (i := 8) sc_law.nd rfl (by first | exact .inl rfl | exact .inr rfl) (de_call (dds := []) O0 (hr.mono (by omega)) rfl (kn.glo 79) F0.kp B1 .nil (fun _ _ => rfl) takesF (da_cons (de_var (pv 1)) (da_cons de_int da_nil))))
    (dss_cons (ds_forR1 own_of rfl rfl (kn.free 44) (da_cons (de_op (od_add false) (de_var (pv 7)) de_int) da_nil) (dg_name (i := 9) sc_law.nd rfl (by first | exact .inl rfl | exact .inr rfl)) (dss_one (ds_expr (de_meth (c := "Notices") (dds := []) (de_var (pv 6)) (kn.cls 17) (kn.meth 88) O8 (hr.mono (by omega)) B9 .nil (fun _ _ => rfl) takesF (da_cons (de_var (pv 8)) (da_cons (de_make (c := "Table") (dds := []) (kn.mkr 86) O10 (hr.mono (by omega)) rfl (kn.glo 85) B11 .nil (fun _ _ => rfl) takesF (da_cons (de_var (pv 3)) (da_cons (de_callTy cd_dictD rfl (kn.free 87) (by decide +kernel) (da_cons (de_var (pv 4)) da_nil)) da_nil))) da_nil))))))
    (dss_cons (ds_set (i := 10) sc_law.nd rfl (by first | exact .inl rfl | exact .inr rfl) (de_lst (hm := false) (da_cons (de_op (od_add false) (de_op (od_add false) (de_op (od_add false) de_str (de_callTy cd_str rfl (kn.free 1) (by decide +kernel) (da_cons (de_var (pv 7)) da_nil))) de_str) (de_callTy cd_str rfl (kn.free 1) (by decide +kernel) (da_cons (de_var (pv 8)) da_nil))) da_nil)))
    (dss_cons (ds_set (i := 10) sc_law.nd rfl (by first | exact .inl rfl | exact .inr rfl) (de_op (od_add false) (de_var (pv 10)) (de_lcL (own := [("name", 5)]) (hm := false) rfl sc_law.nd (de_var (pv 2)) blk_law_381_20 (fun s1 H1 C1 cl1 fp1 J1 hJ1 => (dg_name (i := 5) sc_law.nd rfl (by first | exact .inl rfl | exact .inr rfl) (hJ := fun σ v S h => hJ1 σ v S 5 (by simp) h))) (fun s1 H1 C1 cl1 fp1 J1 hJ1 => dts_nil) (fun s1 H1 C1 cl1 fp1 J1 hJ1 => (de_op (od_add false) (de_op (od_add false) (de_var (pv 5)) de_str) (de_if (dt_dnotin (un1 hr) (de_var (pv 5)) (de_var (pv 4)) (by with_unfolding_all rfl)) de_str (de_callTy cd_str rfl (kn.free 1) (by decide +kernel) (da_cons (de_dget (un1 hr) (de_var (pv 4)) (de_var (pv 5))) da_nil))))))))
    (dss_cons (ds_set (i := 11) sc_law.nd rfl (by first | exact .inl rfl | exact .inr rfl) (de_bS PySem.F.plainAttrs_str PySem.F.slot_str_join PySem.F.type_str_join ms_join de_str (da_cons (de_lcL (own := [("line", 15)]) (hm := false) rfl sc_law.nd (de_var (pv 10)) blk_law_382_19 (fun s2 H2 C2 cl2 fp2 J2 hJ2 => (dg_name (i := 15) sc_law.nd rfl (by first | exact .inl rfl | exact .inr rfl) (hJ := fun σ v S h => hJ2 σ v S 15 (by simp) h))) (fun s2 H2 C2 cl2 fp2 J2 hJ2 => dts_nil) (fun s2 H2 C2 cl2 fp2 J2 hJ2 => (de_op (od_add false) (de_var (pv 15)) de_str))) da_nil)))
    (dss_cons (ds_setLcL (iy := 12) (own := [("name", 5)]) (hm := false) rfl sc_law.nd (de_var (pv 2)) blk_law_383_11 (fun s3 H3 C3 cl3 fp3 J3 hJ3 => (dg_name (i := 5) sc_law.nd rfl (by first | exact .inl rfl | exact .inr rfl) (hJ := fun σ v S h => hJ3 σ v S 5 (by simp) h))) (fun s3 H3 C3 cl3 fp3 J3 hJ3 => dts_nil) (fun s3 H3 C3 cl3 fp3 J3 hJ3 => (de_tup (da_cons (de_var (pv 5)) (da_cons (de_dget1 (un1 hr) (de_var (pv 4)) (de_var (pv 5))) da_nil)))) (hy := rfl) (hyl := rfl) (hsw := rfl))
    (dss_cons (ds_if (PW.pt (dw_or (dt_cmp (od_ne hr.units) (de_meth (c := "Notices") (dds := []) (de_var (pv 6)) (kn.cls 17) (kn.meth 89) O12 (hr.mono (by omega)) B13 .nil (fun _ _ => rfl) takesF (da_cons (de_var (pv 7)) da_nil)) (de_var (pv 11)) (nomark _)) (dw_or1 (dt_cmp (od_ne hr.units) (de_call (dds := []) O14 (hr.mono (by omega)) rfl (kn.glo 67) F14.kp B15 .nil (fun _ _ => rfl) takesF (da_cons (de_var (pv 11)) da_nil)) (de_tup (da_cons (de_var (pv 7)) (da_cons (de_var (pv 8)) (da_cons (de_var (pv 12)) da_nil)))) (nomark _))))) (dss_one (ds_ret de_bl)) dss_nil)
    (dss_cons (ds_forR1 own_of rfl rfl (kn.free 44) (da_cons de_int da_nil) (dg_name (i := 9) sc_law.nd rfl (by first | exact .inl rfl | exact .inr rfl)) (dss_cons (ds_if (dt_cmp (od_ne hr.units) (de_var (pv 10)) (de_lst (hm := false) da_nil) (nomark _)) (dss_one (ds_set (i := 10) sc_law.nd rfl (by first | exact .inl rfl | exact .inr rfl) (de_call (dds := []) O16 (hr.mono (by omega)) rfl (kn.glo 90) F16.kp B17 .nil (fun _ _ => rfl) takesF (da_cons (de_var (pv 1)) (da_cons (de_var (pv 10)) da_nil))))) dss_nil)
    (dss_cons (ds_set (i := 13) sc_law.nd rfl (by first | exact .inl rfl | exact .inr rfl) (de_call (dds := []) O18 (hr.mono (by omega)) rfl (kn.glo 91) F18.kp B19 .nil (fun _ _ => rfl) takesF (da_cons (de_var (pv 10)) da_nil)))
    (dss_cons (ds_set (i := 14) sc_law.nd rfl (by first | exact .inl rfl | exact .inr rfl) (de_call (dds := []) O20 (hr.mono (by omega)) rfl (kn.glo 92) F20.kp B21 .nil (fun _ _ => rfl) takesF (da_cons (de_bS PySem.F.plainAttrs_str PySem.F.slot_str_join PySem.F.type_str_join ms_join de_str (da_cons (de_lcL (own := [("line", 15)]) (hm := false) rfl sc_law.nd (de_var (pv 10)) blk_law_390_34 (fun s4 H4 C4 cl4 fp4 J4 hJ4 => (dg_name (i := 15) sc_law.nd rfl (by first | exact .inl rfl | exact .inr rfl) (hJ := fun σ v S h => hJ4 σ v S 15 (by simp) h))) (fun s4 H4 C4 cl4 fp4 J4 hJ4 => dts_nil) (fun s4 H4 C4 cl4 fp4 J4 hJ4 => (de_op (od_add false) (de_var (pv 15)) de_str))) da_nil)) da_nil)))
    (dss_one (ds_if (PW.pt (dw_or (PW.pt (dw_and (dt_cmp od_gt (de_var (pv 13)) de_int (nomark _)) (dw_and1 (dt_cmp (od_ne hr.units) (de_var (pv 14)) (de_lst (hm := false) (da_cons (de_var (pv 13)) da_nil)) (nomark _))))) (dw_or1 (PW.pt (dw_and (dt_cmp (od_eq hr.units) (de_var (pv 13)) de_int (nomark _)) (dw_and1 (PW.pt (dw_or (dt_val (de_isi (T := "list") rfl (kn.free 9) (by decide +kernel) rfl (kn.free 68) (by decide +kernel) (de_var (pv 14)))) (dw_or1 (dt_cmp (od_ne hr.units) (de_callB cd_len rfl (kn.free 10) (by decide +kernel) (da_cons (de_ix (de_var (pv 14)) de_int (fun _ _ => rfl)) da_nil)) (de_op od_sub (de_callB cd_len rfl (kn.free 10) (by decide +kernel) (da_cons (de_var (pv 10)) da_nil)) de_int) (nomark _))))))))))) (dss_one (ds_ret de_bl)) dss_nil))))))
    (dss_one (ds_ret (de_and (de_cmp (od_eq hr.units) (de_call (dds := []) O20 (hr.mono (by omega)) rfl (kn.glo 92) F20.kp B21 .nil (fun _ _ => rfl) takesF (da_cons (de_sl (hm := false) (de_var (pv 11)) do_none (do_some (de_neg de_int))) da_nil)) (de_lst (hm := false) (da_cons (de_op (od_add false) (de_callB cd_len rfl (kn.free 10) (by decide +kernel) (da_cons (de_var (pv 2)) da_nil)) de_int) da_nil)) (nomark _)) (de_and1 (by exact (de_cmp (od_eq hr.units) (de_call (dds := []) O20 (hr.mono (by omega)) rfl (kn.glo 92) F20.kp B21 .nil (fun _ _ => rfl) takesF (da_cons de_str da_nil)) (de_lst (hm := false) (da_cons de_int da_nil)) (nomark _))))))))))))))))))))))
end DK.k48
end
section
set_option Elab.async false
set_option linter.all false
set_option autoImplicit false
set_option maxRecDepth 100000
set_option maxHeartbeats 0
/-! The head of darkrise_k48_notice_texts_there_and_back: printed by gen.py. -/
namespace DK.k48
open PySem L2 DK
def loose0 : List PySem.Str := ["_wall", "RiseError", "InvalidName", "InvalidNumber", "DuplicateName", "UnknownName", "TooMany", "InvalidLine", "InvalidPaper", "LETTERS", "FIGURES", "LONGEST", "GREATEST", "is_name", "checked_name", "is_number", "checked_number", "read_number", "words", "lines_of", "told", "Notices", "_read_head", "_read_station", "read_notice", "MOST", "KINDS", "Land", "Table", "_named"]
def loose1 : List PySem.Str := ["_law_cell", "_law_take", "_law_is_name", "_law_is_number", "_law_due", "_law_spoilt", "_law_read"]
def loose : List PySem.Str := loose0 ++ loose1
abbrev R : PySem.W.OpenRow := PySem.W.OpenLaw.row PySem.Challenge.rw_darkrise_k48_notice_texts_there_and_back
abbrev hk : PySem.W.Hook := hookJ fa fn fx "/claim/cut.py" ins
def ob (s : PySem.W.SharedT) : AlI := obsJG fa fn fx "/claim/cut.py" ins (HandSHeadRun.getT s)
theorem ob_eq (s : PySem.W.SharedT) : ob s = hk.obs s.abs := obsJG_eq (HandSHeadRun.getT_eq s)
theorem runA (w : World) : HandSHeadRun.RunEq R (PySem.W.view R.prog [43]) (hkL (Bool × Bool × (Bool × List FnC)) (true, true, (true, ins.map IniD.val))) (fun s => (lookA fa s, lookX fx s, lookI "/claim/cut.py" ins s)) 20000 loose w := by
  intro os
  kernel_rfl
theorem runB (w : World) : HandSHeadRun.RunEq R (PySem.W.view R.prog [43]) (hkL (Bool × List He.FnW) (true, fn.map He.DefD.val)) (fun s => (lookD fn s, lookV fn s)) 20000 loose w := by
  intro os
  kernel_rfl
theorem run (w : World) : HandSHeadRun.RunEq R (PySem.W.view R.prog [43]) hk ob 20000 loose w := run_of (run_and (runA w) (runB w)) fun s h => look_join h
end DK.k48
open PySem PySem.W PySem.Calls PyProof.Rows
theorem DK.k48.core (hm : ∀ ns : List Int, ns.length ≤ 63 → ∃ O, DK.k48.f_law [.rol (ns.map DK.D.int)] [] = .ok (.bl true) O) : PySem.Challenge.rw_darkrise_k48_notice_texts_there_and_back.Holds := by
  w_on; o_law
  refine HandSHeadRun.head_any (r := OpenLaw.row PySem.Challenge.rw_darkrise_k48_notice_texts_there_and_back) (q := view (OpenLaw.row PySem.Challenge.rw_darkrise_k48_notice_texts_there_and_back).prog [43]) (H := DK.k48.hk) (ob := DK.k48.ob) (M := 20000) (loose := DK.k48.loose) (d := HandSHeadRun.topDef (OpenLaw.row PySem.Challenge.rw_darkrise_k48_notice_texts_there_and_back).prog 43) (kwd := []) DK.k48.ob_eq
    (by kernel_rfl) (fun s => by kernel_rfl) DK.k48.run (by kernel_rfl) (by kernel_rfl) (by kernel_rfl) (by rfl) (by first | assumption | decide +kernel) (by decide +kernel) ⟨rfl, rfl, rfl, rfl, rfl, by decide +kernel⟩ ?hw ?hc
  case hw => w_witness2
  case hc =>
    refine L2.walk_ofE (l := PySem.Challenge.rw_darkrise_k48_notice_texts_there_and_back) (n := 63) (k := 7) (x := "script") (CX := L2.CX0) rfl (by decide) (by kernel_rfl) ⟨rfl, by decide, by decide⟩ ?F (fun _ _ _ _ z => z)
    intro w mg fa h Y G hmg0
    obtain ⟨K, KX, c⟩ := Y
    have hmg : mg ("law" : PySem.Str) = some (.ref fa) := by
      have e : (HandSHeadRun.topDef (OpenLaw.row PySem.Challenge.rw_darkrise_k48_notice_texts_there_and_back).prog 43).name = ("law" : PySem.Str) := by kernel_rfl
      rw [← e]
      exact hmg0
    have kn : DK.k48.Kn K mg := ⟨⟨c.c, c.x, h, KX, G⟩, c.i⟩
    have e := hmg.symm.trans (kn.glo 0)
    cases e
    obtain ⟨fd1, F1⟩ := kn.c.def_ 33 (d := DK.k48.d_law) rfl
    obtain ⟨fd, F, _⟩ := DK.k48.ok_law (w := w) (base := h) kn
    have b := L2.FunD.bindsA (ps := ["script"]) F fun _ _ _ _ _ _ us hl => match us, hl with | [_], _ => rfl
    refine ⟨K, fd, DK.spLaw K DK.k48.f_law, KX, fun s v => b s [v] rfl, fun H a ns hl _ hS => ⟨a, ns, rfl, hS, hl, hm ns hl, fun _ => rfl⟩, fun base _ _ => ?_⟩
    obtain ⟨fd2, F2, O2⟩ := DK.k48.ok_law (w := w) (base := base) kn
    rw [DK.fd_eq F F2]
    exact O2
end
section
set_option Elab.async false
set_option linter.all false
set_option autoImplicit false
set_option maxRecDepth 100000
set_option maxHeartbeats 4000000
/-! DKPlain: the draws of the laws, in plain Lean. -/
namespace DK
open PySem L2
theorem set_at {O : Store} {n : Nat} {o p : Ob} (h : O[n]? = some o) : (O.set n p)[n]? = some p := List.getElem?_set_self (List.getElem?_eq_some_iff.mp h).1
theorem gMul_ok {O : Store} {i j : Int} (hi : i.natAbs < 2 ^ 4096) (hj : j.natAbs < 2 ^ 4096) : gMul O (.int i) (.int j) = some (.int (i * j), O) := by
  have h1 : i.natAbs.log2 ≤ 4096 := by
    by_cases h : i.natAbs = 0
    · rw [h]; decide
    · exact Nat.le_of_lt ((Nat.log2_lt h).mpr hi)
  have h2 : j.natAbs.log2 ≤ 4096 := by
    by_cases h : j.natAbs = 0
    · rw [h]; decide
    · exact Nat.le_of_lt ((Nat.log2_lt h).mpr hj)
  unfold gMul gI
  have e : decide (i.natAbs.log2 + j.natAbs.log2 < 1000000) = true := decide_eq_true (by omega)
  simp only [e, if_pos]
theorem gFdiv_ok {O : Store} {i j : Int} (h0 : 0 < j) (hj : j.natAbs < 2 ^ 4096) : gFdiv O (.int i) (.int j) = some (.int (i / j), O) := by
  have h2 : j.natAbs.log2 ≤ 4096 := Nat.le_of_lt ((Nat.log2_lt (by omega)).mpr hj)
  unfold gFdiv gI
  have e : decide (0 < j ∧ j.natAbs.log2 < 9000) = true := decide_eq_true ⟨h0, by omega⟩
  simp only [e, if_pos]
theorem gMod_ok {O : Store} {i j : Int} (h0 : 0 < j) : gMod O (.int i) (.int j) = some (.int (i % j), O) := by
  unfold gMod gI
  have e : decide (0 < j) = true := decide_eq_true h0
  simp only [e, if_pos]
theorem gPow_ok {O : Store} {i j : Int} (h0 : 0 ≤ j) (h1 : j ≤ 1000000) (h2 : i.natAbs < 2 ^ 64) : gPow O (.int i) (.int j) = some (.int (i ^ j.toNat), O) := by
  unfold gPow gI
  have e : decide (0 ≤ j ∧ j ≤ 1000000 ∧ i.natAbs < 2 ^ 64) = true := decide_eq_true ⟨h0, h1, h2⟩
  simp only [e, if_pos]
theorem gSub_ok {O : Store} {i j : Int} : gSub O (.int i) (.int j) = some (.int (i - j), O) := rfl
theorem gAdd_ok {O : Store} {h : Bool} {i j : Int} : gAdd h O (.int i) (.int j) = some (.int (i + j), O) := rfl
theorem gEq_int {O : Store} {i j : Int} : gEq O (.int i) (.int j) = some (.bl (decide (i = j)), O) := by
  have : decide (V.int i = V.int j) = decide (i = j) := by simp
  show (match some (decide (V.int i = V.int j)) with | some b => some (D.bl b, O) | none => none) = _
  rw [this]
theorem gNe_int {O : Store} {i j : Int} : gNe O (.int i) (.int j) = some (.bl (!decide (i = j)), O) := by
  have : decide (V.int i = V.int j) = decide (i = j) := by simp
  show (match some (decide (V.int i = V.int j)) with | some b => some (D.bl (!b), O) | none => none) = _
  rw [this]
theorem gLt_int {O : Store} {i j : Int} : gLt O (.int i) (.int j) = some (.bl (decide (i < j)), O) := rfl
theorem gLe_int {O : Store} {i j : Int} : gLe O (.int i) (.int j) = some (.bl (decide (i ≤ j)), O) := rfl
theorem gGt_int {O : Store} {i j : Int} : gGt O (.int i) (.int j) = some (.bl (decide (j < i)), O) := rfl
theorem gGe_int {O : Store} {i j : Int} : gGe O (.int i) (.int j) = some (.bl (decide (j ≤ i)), O) := rfl
theorem atI_nat {α : Type} {xs : List α} {i : Int} {x : α} (h0 : 0 ≤ i) (h : xs[i.toNat]? = some x) : atI xs i = some x := by
  have hl := (List.getElem?_eq_some_iff.mp h).1
  unfold atI ixN
  rw [if_pos h0, if_pos (by omega)]
  exact h
theorem big_of {i : Int} {n : Nat} (h0 : 0 ≤ i) (h : i ≤ n) (hn : n < 2 ^ 4096) : i.natAbs < 2 ^ 4096 := by omega
theorem atI_c0 {α : Type} {a : α} {xs : List α} : atI (a :: xs) 0 = some a := atI_nat (by decide) rfl
theorem atI_c1 {α : Type} {a b : α} {xs : List α} : atI (a :: b :: xs) 1 = some b := atI_nat (by decide) rfl
theorem atI_c2 {α : Type} {a b c : α} {xs : List α} : atI (a :: b :: c :: xs) 2 = some c := atI_nat (by decide) rfl
theorem atI_c3 {α : Type} {a b c d : α} {xs : List α} : atI (a :: b :: c :: d :: xs) 3 = some d := atI_nat (by decide) rfl
theorem atI_c4 {α : Type} {a b c d e : α} {xs : List α} : atI (a :: b :: c :: d :: e :: xs) 4 = some e := atI_nat (by decide) rfl
/-! ### evaluation -/
theorem kitTab : kitB "NoneType" "bool" = some false ∧ kitB "NoneType" "int" = some false ∧ kitB "NoneType" "str" = some false ∧ kitB "NoneType" "list" = some false ∧ kitB "NoneType" "tuple" = some false ∧ kitB "NoneType" "dict" = some false ∧ kitB "bool" "bool" = some true ∧ kitB "bool" "int" = some true ∧ kitB "bool" "str" = some false ∧ kitB "bool" "list" = some false ∧ kitB "bool" "tuple" = some false ∧ kitB "bool" "dict" = some false ∧ kitB "int" "bool" = some false ∧ kitB "int" "int" = some true ∧ kitB "int" "str" = some false ∧ kitB "int" "list" = some false ∧ kitB "int" "tuple" = some false ∧ kitB "int" "dict" = some false ∧ kitB "str" "bool" = some false ∧ kitB "str" "int" = some false ∧ kitB "str" "str" = some true ∧ kitB "str" "list" = some false ∧ kitB "str" "tuple" = some false ∧ kitB "str" "dict" = some false ∧ kitB "list" "bool" = some false ∧ kitB "list" "int" = some false ∧ kitB "list" "str" = some false ∧ kitB "list" "list" = some true ∧ kitB "list" "tuple" = some false ∧ kitB "list" "dict" = some false ∧ kitB "tuple" "bool" = some false ∧ kitB "tuple" "int" = some false ∧ kitB "tuple" "str" = some false ∧ kitB "tuple" "list" = some false ∧ kitB "tuple" "tuple" = some true ∧ kitB "tuple" "dict" = some false ∧ kitB "dict" "bool" = some false ∧ kitB "dict" "int" = some false ∧ kitB "dict" "str" = some false ∧ kitB "dict" "list" = some false ∧ kitB "dict" "tuple" = some false ∧ kitB "dict" "dict" = some true := by decide +kernel
theorem gNe_bl {O : Store} {i j : Bool} : gNe O (.bl i) (.bl j) = some (.bl (!decide (i = j)), O) := by cases i <;> cases j <;> rfl
theorem gEq_bl {O : Store} {i j : Bool} : gEq O (.bl i) (.bl j) = some (.bl (decide (i = j)), O) := by cases i <;> cases j <;> rfl
theorem gEq_str {O : Store} {i j : Str} : gEq O (.str i) (.str j) = some (.bl (decide (i = j)), O) := by
  have : decide (V.str i = V.str j) = decide (i = j) := by simp
  show (match some (decide (V.str i = V.str j)) with | some b => some (D.bl b, O) | none => none) = _
  rw [this]
theorem gNe_str {O : Store} {i j : Str} : gNe O (.str i) (.str j) = some (.bl (!decide (i = j)), O) := by
  have : decide (V.str i = V.str j) = decide (i = j) := by simp
  show (match some (decide (V.str i = V.str j)) with | some b => some (D.bl (!b), O) | none => none) = _
  rw [this]
theorem isNon_t : isNon .non = true ∧ (∀ b, isNon (.bl b) = false) ∧ (∀ b, isNon (.int b) = false) ∧ (∀ b, isNon (.str b) = false) ∧ (∀ b, isNon (.lst b) = false) ∧ (∀ b, isNon (.tup b) = false) ∧ (∀ b, isNon (.hdl b) = false) := ⟨rfl, fun _ => rfl, fun _ => rfl, fun _ => rfl, fun _ => rfl, fun _ => rfl, fun _ => rfl⟩
/-- a loop keeps what each turn keeps -/
theorem loopD_keeps {turn : D → SM} {I : Nat → Loc → Store → Prop} : ∀ (ds : List D) (i : Nat) (L : Loc) (O : Store), I i L O → (∀ j d L O, ds[j]? = some d → I (i + j) L O → ∃ L' O', turn d L O = .next L' O' ∧ I (i + j + 1) L' O') → ∃ L' O', loopD turn ds L O = .next L' O' ∧ I (i + ds.length) L' O'
  | [], i, L, O, h, _ => ⟨L, O, rfl, h⟩
  | d :: ds, i, L, O, h, k => by
    obtain ⟨L1, O1, e, h1⟩ := k 0 d L O rfl h
    obtain ⟨L2, O2, e2, h2⟩ := loopD_keeps ds (i + 1) L1 O1 h1 fun j d' L O hd hI => by
      have := k (j + 1) d' L O hd (by rw [show i + (j + 1) = i + 1 + j by omega]; exact hI)
      rw [show i + (j + 1) + 1 = i + 1 + j + 1 by omega] at this
      exact this
    refine ⟨L2, O2, ?_, by rw [show i + (d :: ds).length = i + 1 + ds.length by rw [List.length_cons]; omega]; exact h2⟩
    show (match turn d L O with
      | .next L1 O1 => loopD turn ds L1 O1
      | .cnt L1 O1 => loopD turn ds L1 O1
      | .brk L1 O1 => .next L1 O1
      | .ret d O1 => .ret d O1
      | .exc x L1 O1 => .exc x L1 O1
      | .bad => .bad) = _
    rw [e]
    exact e2
end DK
end
section
set_option Elab.async false
set_option linter.all false
set_option autoImplicit false
set_option maxRecDepth 100000
set_option maxHeartbeats 4000000
/-! DKText: the takes of the laws; loops over the signs of a text, in plain Lean. -/
namespace DK
open PySem L2
def fCell : FM := runF 2 (sSeq (sIf (mTest (mOp gLt (mVar 1) (mCall (g1 gLen) (mCons (mVar 0) mNil)))) (sRet (mCall (g1 gAbs) (mCons (mCall (g1 gInt) (mCons (mOp gIx (mVar 0) (mVar 1)) mNil)) mNil))) sNext)
    (sRet (mOp (gAdd false) (mOp gMul (mC (.int 37)) (mVar 1)) (mC (.int 11)))))
def bTake : SM := (sSeq (sIf (mTest (mOp gGt (mOp gIx (mVar 0) (mC (.int 2))) (mC (.int 0)))) (sSeq (sAsg (mOp gMod (mCall (g1 gInt) (mCons (mOp gIx (mVar 0) (mC (.int 2))) mNil)) (mVar 1)) (bName 2))
    (sSeq (sAsg (mOp gFdiv (mCall (g1 gInt) (mCons (mOp gIx (mVar 0) (mC (.int 2))) mNil)) (mVar 1)) (bSubL (mVar 0) (mC (.int 2))))
    (sRet (mVar 2)))) sNext)
    (sSeq (sAsg (mFn (arity 2 fCell) [] (mCons (mOp gIx (mVar 0) (mC (.int 0))) (mCons (mOp gIx (mVar 0) (mC (.int 1))) mNil))) (bName 3))
    (sSeq (sAsg (mOp (gAdd false) (mOp gIx (mVar 0) (mC (.int 1))) (mC (.int 1))) (bSubL (mVar 0) (mC (.int 1))))
    (sSeq (sIf (mTest (mOp gGe (mVar 3) (mOp gPow (mC (.int 10)) (mC (.int 9))))) (sAsg (mOp gFdiv (mCall (g1 gInt) (mCons (mVar 3) mNil)) (mVar 1)) (bSubL (mVar 0) (mC (.int 2)))) sNext)
    (sRet (mOp gMod (mCall (g1 gInt) (mCons (mVar 3) mNil)) (mVar 1)))))))
def fTake : FM := runF 4 bTake
/-- the state of the takes at n: its script, place (at most b), what is left -/
def takeL (ns : List Int) (z la : Int) : List D := [.rol (ns.map D.int), .int z, .int la]
structure Take (b : Nat) (n : Nat) (O : Store) : Prop where
  ex : ∃ ns z la, O[n]? = some (.lst (takeL ns z la)) ∧ ns.length ≤ 1000 ∧ 0 ≤ z ∧ z ≤ b ∧ 0 ≤ la
theorem tmono {n a c : Nat} {O : Store} (hac : a ≤ c) : Take a n O → Take c n O := fun ⟨ns, z, la, h, h0, h1, h2, h3⟩ => ⟨ns, z, la, h, h0, h1, by omega, h3⟩
theorem cell_ok {ns : List Int} {z : Int} {O : Store} (h0 : 0 ≤ z) (h1 : z ≤ 2 ^ 64) : ∃ c, fCell [.rol (ns.map D.int), .int z] O = .ok (.int c) O ∧ 0 ≤ c := by
  have ml : ∀ O : Store, gMul O (.int 37) (.int z) = some (.int (37 * z), O) := fun O => gMul_ok (by decide) (big_of (n := 2 ^ 64) h0 (by omega) (by decide))
  by_cases c : z < ns.length
  · obtain ⟨x, hx⟩ : ∃ x, ns[z.toNat]? = some x := ⟨ns[z.toNat]'(by omega), List.getElem?_eq_getElem _⟩
    have hix : atI (ns.map D.int) z = some (.int x) := atI_nat h0 (by rw [List.getElem?_map, hx]; rfl)
    exact ⟨if x < 0 then -x else x, by simp [fCell, runF, sSeq, sIf, sNext, sDrop, sRet, sRetN, sAsg, ofRes, ofB, bName, bNil, bCons, bTup, bLst, bSubL, mTest, mOp, mVar, mC, mChain, mAnd, mOr, mNot, mIf, mAndV, mOrV, mNotV, mNeg, mCons, mNil, mTup, mLst, newL, mCall, mFn, arity, g1, g2, gLen, gInt, gAbs, gMax2, gMin2, gIx, seqOf, lsqOf, lstOf, Res.bind, ofO, gAdd_ok, gSub_ok, gEq_int, gNe_int, gLt_int, gLe_int, gGt_int, gGe_int, gEq_bl, gNe_bl, gEq_str, gNe_str, mIsi, mIsiT, tyD, kitL, kitTab, atI_c0, atI_c1, atI_c2, atI_c3, atI_c4, sForR1, int1, int2, mMeth, mMake, mFld, sFldM, gIs, gIsNot, isNon_t, sRaise, gList, newLO, c, hix], by split <;> omega⟩
  · exact ⟨37 * z + 11, by simp [fCell, runF, sSeq, sIf, sNext, sDrop, sRet, sRetN, sAsg, ofRes, ofB, bName, bNil, bCons, bTup, bLst, bSubL, mTest, mOp, mVar, mC, mChain, mAnd, mOr, mNot, mIf, mAndV, mOrV, mNotV, mNeg, mCons, mNil, mTup, mLst, newL, mCall, mFn, arity, g1, g2, gLen, gInt, gAbs, gMax2, gMin2, gIx, seqOf, lsqOf, lstOf, Res.bind, ofO, gAdd_ok, gSub_ok, gEq_int, gNe_int, gLt_int, gLe_int, gGt_int, gGe_int, gEq_bl, gNe_bl, gEq_str, gNe_str, mIsi, mIsiT, tyD, kitL, kitTab, atI_c0, atI_c1, atI_c2, atI_c3, atI_c4, sForR1, int1, int2, mMeth, mMake, mFld, sFldM, gIs, gIsNot, isNon_t, sRaise, gList, newLO, c, ml], by omega⟩
theorem ixN3_1 : ixN 3 1 = some 1 := rfl
theorem ixN3_2 : ixN 3 2 = some 2 := rfl
theorem take_ok {b n : Nat} {O : Store} {m : Int} (h : Take b n O) (hm : 0 < m) (hm2 : m ≤ 2 ^ 64) (hb : b ≤ 2 ^ 32) :
    ∃ v P, fTake [.hdl n, .int m] O = .ok (.int v) (O.set n (.lst P)) ∧ 0 ≤ v ∧ v < m ∧ Take (b + 1) n (O.set n (.lst P)) := by
  obtain ⟨ns, z, la, h, hl, hz0, hz1, hla0⟩ := h
  have hmb : m.natAbs < 2 ^ 4096 := big_of (n := 2 ^ 64) (by omega) hm2 (by decide)
  have fd : ∀ (O : Store) (i : Int), gFdiv O (.int i) (.int m) = some (.int (i / m), O) := fun O i => gFdiv_ok hm hmb
  have md : ∀ (O : Store) (i : Int), gMod O (.int i) (.int m) = some (.int (i % m), O) := fun O i => gMod_ok hm
  have v0 : ∀ i : Int, 0 ≤ i % m ∧ i % m < m := fun i => ⟨Int.emod_nonneg i (by omega), Int.emod_lt_of_pos i hm⟩
  have hset : ∀ p : Ob, (O.set n p)[n]? = some p := fun p => set_at h
  have pw : ∀ (O : Store), gPow O (.int 10) (.int 9) = some (.int (10 ^ 9), O) := fun O => gPow_ok (by decide) (by decide) (by decide)
  by_cases c1 : 0 < la
  · refine ⟨la % m, takeL ns z (la / m), ?_, (v0 la).1, (v0 la).2, ns, z, la / m, set_at h, hl, hz0, by omega, Int.ediv_nonneg (by omega) (by omega)⟩
    simp [fTake, bTake, runF, sSeq, sIf, sNext, sDrop, sRet, sRetN, sAsg, ofRes, ofB, bName, bNil, bCons, bTup, bLst, bSubL, mTest, mOp, mVar, mC, mChain, mAnd, mOr, mNot, mIf, mAndV, mOrV, mNotV, mNeg, mCons, mNil, mTup, mLst, newL, mCall, mFn, arity, g1, g2, gLen, gInt, gAbs, gMax2, gMin2, gIx, seqOf, lsqOf, lstOf, Res.bind, ofO, gAdd_ok, gSub_ok, gEq_int, gNe_int, gLt_int, gLe_int, gGt_int, gGe_int, gEq_bl, gNe_bl, gEq_str, gNe_str, mIsi, mIsiT, tyD, kitL, kitTab, atI_c0, atI_c1, atI_c2, atI_c3, atI_c4, sForR1, int1, int2, mMeth, mMake, mFld, sFldM, gIs, gIsNot, isNon_t, sRaise, gList, newLO, h, hset, takeL, fd, md, c1, ixN3_1, ixN3_2]
  · obtain ⟨c, hc, c0⟩ := cell_ok (ns := ns) (O := O) hz0 (by omega)
    by_cases c2 : (10 : Int) ^ 9 ≤ c
    · refine ⟨c % m, takeL ns (z + 1) (c / m), ?_, (v0 c).1, (v0 c).2, ns, z + 1, c / m, set_at h, hl, by omega, by omega, Int.ediv_nonneg c0 (by omega)⟩
      simp only [show (10 : Int) ^ 9 = 1000000000 by decide] at c2 pw
      simp [fTake, bTake, runF, sSeq, sIf, sNext, sDrop, sRet, sRetN, sAsg, ofRes, ofB, bName, bNil, bCons, bTup, bLst, bSubL, mTest, mOp, mVar, mC, mChain, mAnd, mOr, mNot, mIf, mAndV, mOrV, mNotV, mNeg, mCons, mNil, mTup, mLst, newL, mCall, mFn, arity, g1, g2, gLen, gInt, gAbs, gMax2, gMin2, gIx, seqOf, lsqOf, lstOf, Res.bind, ofO, gAdd_ok, gSub_ok, gEq_int, gNe_int, gLt_int, gLe_int, gGt_int, gGe_int, gEq_bl, gNe_bl, gEq_str, gNe_str, mIsi, mIsiT, tyD, kitL, kitTab, atI_c0, atI_c1, atI_c2, atI_c3, atI_c4, sForR1, int1, int2, mMeth, mMake, mFld, sFldM, gIs, gIsNot, isNon_t, sRaise, gList, newLO, h, hset, takeL, fd, md, c1, c2, pw, hc, ixN3_1, ixN3_2]
    · refine ⟨c % m, takeL ns (z + 1) la, ?_, (v0 c).1, (v0 c).2, ns, z + 1, la, set_at h, hl, by omega, by omega, hla0⟩
      simp only [show (10 : Int) ^ 9 = 1000000000 by decide] at c2 pw
      simp [fTake, bTake, runF, sSeq, sIf, sNext, sDrop, sRet, sRetN, sAsg, ofRes, ofB, bName, bNil, bCons, bTup, bLst, bSubL, mTest, mOp, mVar, mC, mChain, mAnd, mOr, mNot, mIf, mAndV, mOrV, mNotV, mNeg, mCons, mNil, mTup, mLst, newL, mCall, mFn, arity, g1, g2, gLen, gInt, gAbs, gMax2, gMin2, gIx, seqOf, lsqOf, lstOf, Res.bind, ofO, gAdd_ok, gSub_ok, gEq_int, gNe_int, gLt_int, gLe_int, gGt_int, gGe_int, gEq_bl, gNe_bl, gEq_str, gNe_str, mIsi, mIsiT, tyD, kitL, kitTab, atI_c0, atI_c1, atI_c2, atI_c3, atI_c4, sForR1, int1, int2, mMeth, mMake, mFld, sFldM, gIs, gIsNot, isNon_t, sRaise, gList, newLO, h, hset, takeL, fd, md, c1, c2, pw, hc, ixN3_1, ixN3_2]
/-! ### signs -/
theorem notIn_sign {c : Nat} {cs : Str} {O : Store} : gNotIn O (.str ⟨#[c]⟩) (.str cs) = some (.bl (!decide (c ∈ cs.cps.toList)), O) := rfl
/-- all signs are among cs -/
def allIn (cs : Str) (w : List Nat) : Bool := w.all fun c => decide (c ∈ cs.cps.toList)
abbrev signB (i : Nat) (cs : Str) (bad : SM) : SM := sIf (mTest (mOp gNotIn (mVar i) (mC (.str cs)))) bad sNext
theorem turn_sign {i c : Nat} {cs : Str} {bad : SM} {L : Loc} {O : Store} (hi : i < L.length) : turnOf (bName i) (signB i cs bad) (.str ⟨#[c]⟩) L O = if c ∈ cs.cps.toList then .next (L.set i (some (.str ⟨#[c]⟩))) O else bad (L.set i (some (.str ⟨#[c]⟩))) O := by
  by_cases h : c ∈ cs.cps.toList <;> simp [signB, turnOf, runF, sSeq, sIf, sNext, sDrop, sRet, sRetN, sAsg, ofRes, ofB, bName, bNil, bCons, bTup, bLst, bSubL, mTest, mOp, mVar, mC, mChain, mAnd, mOr, mNot, mIf, mAndV, mOrV, mNotV, mNeg, mCons, mNil, mTup, mLst, newL, mCall, mFn, arity, g1, g2, gLen, gInt, gAbs, gMax2, gMin2, gIx, seqOf, lsqOf, lstOf, Res.bind, ofO, gAdd_ok, gSub_ok, gEq_int, gNe_int, gLt_int, gLe_int, gGt_int, gGe_int, gEq_bl, gNe_bl, gEq_str, gNe_str, mIsi, mIsiT, tyD, kitL, kitTab, atI_c0, atI_c1, atI_c2, atI_c3, atI_c4, sForR1, int1, int2, mMeth, mMake, mFld, sFldM, gIs, gIsNot, isNon_t, sRaise, gList, newLO, hi, notIn_sign, h]
theorem loop_signs_ok {i : Nat} {cs : Str} {bad : SM} : ∀ (w : List Nat) (L : Loc) (O : Store), i < L.length → allIn cs w = true → ∃ d, loopD (turnOf (bName i) (signB i cs bad)) (w.map fun c => D.str ⟨#[c]⟩) L O = .next (L.set i d) O
  | [], L, O, hi, _ => ⟨L[i], by rw [List.set_getElem_self]; rfl⟩
  | c :: w, L, O, hi, h => by
    obtain ⟨h1, h2⟩ := (Bool.and_eq_true _ _ ▸ h : decide (c ∈ cs.cps.toList) = true ∧ allIn cs w = true)
    have e := turn_sign (bad := bad) (O := O) (c := c) (cs := cs) hi
    rw [if_pos (of_decide_eq_true h1)] at e
    obtain ⟨d, hd⟩ := loop_signs_ok (bad := bad) w (L.set i (some (.str ⟨#[c]⟩))) O (by rw [List.length_set]; exact hi) h2
    rw [List.set_set] at hd
    refine ⟨d, ?_⟩
    rw [List.map_cons, loopD_cons, e]
    exact hd
theorem loop_signs_no {i : Nat} {cs : Str} {bad : SM} (hb : ∀ L O, (∃ d, bad L O = .ret d O) ∨ ∃ x, bad L O = .exc x L O) : ∀ (w : List Nat) (L : Loc) (O : Store), i < L.length → allIn cs w = false → ∃ L', loopD (turnOf (bName i) (signB i cs bad)) (w.map fun c => D.str ⟨#[c]⟩) L O = bad L' O
  | [], L, O, hi, h => by cases h
  | c :: w, L, O, hi, h => by
    have e := turn_sign (bad := bad) (O := O) (c := c) (cs := cs) hi
    rw [List.map_cons, loopD_cons, e]
    by_cases h1 : c ∈ cs.cps.toList
    · rw [if_pos h1]
      refine loop_signs_no hb w _ O (by rw [List.length_set]; exact hi) ?_
      have : (decide (c ∈ cs.cps.toList) && allIn cs w) = false := h
      rw [decide_eq_true h1] at this
      exact this
    · rw [if_neg h1]
      refine ⟨L.set i (some (.str ⟨#[c]⟩)), ?_⟩
      rcases hb (L.set i (some (.str ⟨#[c]⟩))) O with ⟨d, h⟩ | ⟨x, h⟩ <;> rw [h] <;> rfl
/-- the signs that are not among cs -/
def outOf (cs : Str) (w : List Nat) : List Nat := w.filter fun c => !decide (c ∈ cs.cps.toList)
theorem outOf_nil {cs : Str} : ∀ {w : List Nat}, (outOf cs w = []) ↔ allIn cs w = true := fun {w} => by
  unfold outOf allIn
  rw [List.filter_eq_nil_iff, List.all_eq_true]
  simp
theorem outOf_zero {cs : Str} {w : List Nat} : ((outOf cs w).length = 0) ↔ allIn cs w = true := by
  rw [List.length_eq_zero_iff, outOf_nil]
theorem outOf_in {cs : Str} {c : Nat} {w : List Nat} (h : c ∈ cs.cps.toList) : outOf cs (c :: w) = outOf cs w := by
  unfold outOf
  rw [List.filter_cons, if_neg (by rw [decide_eq_true h]; decide)]
theorem outOf_out {cs : Str} {c : Nat} {w : List Nat} (h : ¬ c ∈ cs.cps.toList) : outOf cs (c :: w) = c :: outOf cs w := by
  unfold outOf
  rw [List.filter_cons, if_pos (by rw [decide_eq_false h]; decide)]
theorem comp_signs {i : Nat} {cs : Str} {L : Loc} (hi : i < L.length) : ∀ (w pre : List Nat) (acc : List D) (O : Store), acc.length + w.length ≤ 900000 →
    lcG (fun j _ => some ((pre ++ w).map fun c => D.str ⟨#[c]⟩)[j]?) (lcTurn [i] (bName i) (mTest (mOp gNotIn (mVar i) (mC (.str cs)))) (mVar i) L) w.length pre.length O acc = some (O, acc ++ (outOf cs w).map fun c => D.str ⟨#[c]⟩)
  | [], pre, acc, O, h => by
    have : ((pre ++ []).map fun c => D.str ⟨#[c]⟩)[pre.length]? = none := by rw [List.append_nil, List.getElem?_map, List.getElem?_eq_none (Nat.le_refl _)]; rfl
    simp [lcG, outOf]
  | c :: w, pre, acc, O, h => by
    have e1 : ((pre ++ c :: w).map fun c => D.str ⟨#[c]⟩)[pre.length]? = some (.str ⟨#[c]⟩) := by simp
    have e2 : pre ++ c :: w = (pre ++ [c]) ++ w := by simp
    have e3 : pre.length + 1 = (pre ++ [c]).length := by simp
    have hi2 : i < (L.set i none).length := by rw [List.length_set]; exact hi
    have ih := fun acc h => comp_signs (cs := cs) (L := L) hi w (pre ++ [c]) acc O h
    have hl : acc.length ≤ 900000 := by omega
    rw [show (c :: w).length = w.length + 1 from rfl]
    unfold lcG
    simp only [e1]
    by_cases hc : c ∈ cs.cps.toList
    · have et : lcTurn [i] (bName i) (mTest (mOp gNotIn (mVar i) (mC (.str cs)))) (mVar i) L (.str ⟨#[c]⟩) O acc = some (O, acc) := by
        simp [lcTurn, wipeL, runF, sSeq, sIf, sNext, sDrop, sRet, sRetN, sAsg, ofRes, ofB, bName, bNil, bCons, bTup, bLst, bSubL, mTest, mOp, mVar, mC, mChain, mAnd, mOr, mNot, mIf, mAndV, mOrV, mNotV, mNeg, mCons, mNil, mTup, mLst, newL, mCall, mFn, arity, g1, g2, gLen, gInt, gAbs, gMax2, gMin2, gIx, seqOf, lsqOf, lstOf, Res.bind, ofO, gAdd_ok, gSub_ok, gEq_int, gNe_int, gLt_int, gLe_int, gGt_int, gGe_int, gEq_bl, gNe_bl, gEq_str, gNe_str, mIsi, mIsiT, tyD, kitL, kitTab, atI_c0, atI_c1, atI_c2, atI_c3, atI_c4, sForR1, int1, int2, mMeth, mMake, mFld, sFldM, gIs, gIsNot, isNon_t, sRaise, gList, newLO, hi, notIn_sign, hc]
      rw [et]
      simp only
      rw [e2, e3, outOf_in hc]
      exact ih acc (by simp at h; omega)
    · have et : lcTurn [i] (bName i) (mTest (mOp gNotIn (mVar i) (mC (.str cs)))) (mVar i) L (.str ⟨#[c]⟩) O acc = some (O, acc ++ [.str ⟨#[c]⟩]) := by
        simp [lcTurn, wipeL, runF, sSeq, sIf, sNext, sDrop, sRet, sRetN, sAsg, ofRes, ofB, bName, bNil, bCons, bTup, bLst, bSubL, mTest, mOp, mVar, mC, mChain, mAnd, mOr, mNot, mIf, mAndV, mOrV, mNotV, mNeg, mCons, mNil, mTup, mLst, newL, mCall, mFn, arity, g1, g2, gLen, gInt, gAbs, gMax2, gMin2, gIx, seqOf, lsqOf, lstOf, Res.bind, ofO, gAdd_ok, gSub_ok, gEq_int, gNe_int, gLt_int, gLe_int, gGt_int, gGe_int, gEq_bl, gNe_bl, gEq_str, gNe_str, mIsi, mIsiT, tyD, kitL, kitTab, atI_c0, atI_c1, atI_c2, atI_c3, atI_c4, sForR1, int1, int2, mMeth, mMake, mFld, sFldM, gIs, gIsNot, isNon_t, sRaise, gList, newLO, hi, notIn_sign, hc, hl]
      rw [et]
      simp only
      rw [e2, e3, outOf_out hc]
      refine (ih (acc ++ [.str ⟨#[c]⟩]) (by simp at h ⊢; omega)).trans ?_
      simp
theorem lcS_signs {i : Nat} {cs w : Str} {src : EM} {L : Loc} {O : Store} (hi : i < L.length) (hs : src L O = .ok (.str w) O) (hw : w.length ≤ 900000) :
    mLcS false src [i] (bName i) (mTest (mOp gNotIn (mVar i) (mC (.str cs)))) (mVar i) L O = .ok (.lst ((outOf cs w.cps.toList).map fun c => D.str ⟨#[c]⟩)) O := by
  have hl : w.cps.toList.length ≤ 900000 := by rw [Array.length_toList]; exact hw
  have h := comp_signs (cs := cs) hi w.cps.toList [] [] O (by simpa using hl)
  have ho : (outOf cs w.cps.toList).length ≤ 1000000 := Nat.le_trans (List.length_filter_le _ _) (by omega)
  unfold mLcS
  rw [hs]
  simp only [Res.bind, charsD, List.length_map]
  simp only [List.nil_append, List.length_nil] at h
  rw [h]
  simp [lcEnd, newL, ho]
end DK
end
section
set_option Elab.async false
set_option linter.all false
set_option autoImplicit false
set_option maxRecDepth 100000
set_option maxHeartbeats 4000000
/-! DKLaws: what many laws share, in plain Lean: draws that keep the rest of the store, picks, checked numbers, sameness. -/
namespace DK
open PySem L2
/-! ### checked numbers -/
/-! ### comprehensions over a range -/
theorem rangeD_len (a : Int) (n : Nat) : (rangeD a n).length = n := by simp [rangeD]
/-- a loop over a list of the store that the turns leave -/
theorem loopH_keeps {turn : D → SM} {n : Nat} {xs : List D} {I : Nat → Loc → Store → Prop} (ho : ∀ j L O, I j L O → O[n]? = some (.lst xs)) : ∀ (k i : Nat) (L : Loc) (O : Store), xs.length = i + k → I i L O →
    (∀ j d L O, xs[j]? = some d → I j L O → ∃ L' O', turn d L O = .next L' O' ∧ I (j + 1) L' O') → ∃ L' O', loopH turn n k i L O = .next L' O' ∧ I xs.length L' O'
  | 0, i, L, O, hk, h, _ => by
    refine ⟨L, O, ?_, by rw [show xs.length = i by omega]; exact h⟩
    show (match O[n]? with | some (.lst xs) => if xs.length ≤ i then SR.next L O else .bad | _ => .bad) = _
    rw [ho _ _ _ h]
    show (if xs.length ≤ i then SR.next L O else .bad) = _
    rw [if_pos (by omega)]
  | k + 1, i, L, O, hk, h, st => by
    obtain ⟨d, hd⟩ : ∃ d, xs[i]? = some d := ⟨xs[i]'(by omega), List.getElem?_eq_getElem _⟩
    obtain ⟨L1, O1, e, h1⟩ := st i d L O hd h
    obtain ⟨L2, O2, e2, h2⟩ := loopH_keeps ho k (i + 1) L1 O1 (by omega) h1 st
    refine ⟨L2, O2, ?_, h2⟩
    show (match O[n]? with
    | some (.lst xs) => match xs[i]? with
      | some d => match turn d L O with
        | .next L1 O1 => loopH turn n k (i + 1) L1 O1
        | .cnt L1 O1 => loopH turn n k (i + 1) L1 O1
        | .brk L1 O1 => .next L1 O1
        | .ret d O1 => .ret d O1
        | .exc x L1 O1 => .exc x L1 O1
        | .bad => .bad
      | none => .next L O
    | _ => .bad) = _
    rw [ho _ _ _ h]
    show (match xs[i]? with
      | some d => match turn d L O with
        | .next L1 O1 => loopH turn n k (i + 1) L1 O1
        | .cnt L1 O1 => loopH turn n k (i + 1) L1 O1
        | .brk L1 O1 => .next L1 O1
        | .ret d O1 => .ret d O1
        | .exc x L1 O1 => .exc x L1 O1
        | .bad => .bad
      | none => .next L O) = _
    rw [hd]
    show (match turn d L O with
        | .next L1 O1 => loopH turn n k (i + 1) L1 O1
        | .cnt L1 O1 => loopH turn n k (i + 1) L1 O1
        | .brk L1 O1 => .next L1 O1
        | .ret d O1 => .ret d O1
        | .exc x L1 O1 => .exc x L1 O1
        | .bad => .bad) = _
    rw [e]
    exact e2
end DK
end
section
set_option Elab.async false
set_option linter.all false
set_option autoImplicit false
set_option maxRecDepth 100000
set_option maxHeartbeats 4000000
/-! DKLoop: loops, comprehensions and frames, in plain Lean. -/
namespace DK
open PySem L2
/-! ### frames -/
/-- all but the draws' state stands as before -/
def Fr (O O' : Store) : Prop := O.length ≤ O'.length ∧ ∀ i, 0 < i → i < O.length → O'[i]? = O[i]?
theorem Fr.refl (O : Store) : Fr O O := ⟨Nat.le_refl _, fun _ _ _ => rfl⟩
theorem Fr.trans {O O1 O2 : Store} (a : Fr O O1) (b : Fr O1 O2) : Fr O O2 := ⟨Nat.le_trans a.1 b.1, fun i h0 h => (b.2 i h0 (Nat.lt_of_lt_of_le h a.1)).trans (a.2 i h0 h)⟩
theorem Fr.at {O O' : Store} {i : Nat} {x : Ob} (f : Fr O O') (h0 : 0 < i) (h : O[i]? = some x) : O'[i]? = some x := (f.2 i h0 (List.getElem?_eq_some_iff.mp h).1).trans h
theorem fr_set0 {O : Store} {p : Ob} : Fr O (O.set 0 p) := ⟨by rw [List.length_set]; exact Nat.le_refl _, fun i h0 _ => List.getElem?_set_ne (by omega)⟩
theorem fr_app {O : Store} {J : Store} : Fr O (O ++ J) := ⟨by rw [List.length_append]; omega, fun i h0 h => List.getElem?_append_left h⟩
/-- everything stands as before -/
def Fz (O O' : Store) : Prop := O.length ≤ O'.length ∧ ∀ i, i < O.length → O'[i]? = O[i]?
theorem Fz.refl (O : Store) : Fz O O := ⟨Nat.le_refl _, fun _ _ => rfl⟩
theorem Fz.trans {O O1 O2 : Store} (a : Fz O O1) (b : Fz O1 O2) : Fz O O2 := ⟨Nat.le_trans a.1 b.1, fun i h => (b.2 i (Nat.lt_of_lt_of_le h a.1)).trans (a.2 i h)⟩
theorem Fz.at {O O' : Store} {i : Nat} {x : Ob} (f : Fz O O') (h : O[i]? = some x) : O'[i]? = some x := (f.2 i (List.getElem?_eq_some_iff.mp h).1).trans h
theorem Fz.fr {O O' : Store} (f : Fz O O') : Fr O O' := ⟨f.1, fun i _ h => f.2 i h⟩
theorem fz_app {O : Store} {J : Store} : Fz O (O ++ J) := ⟨by rw [List.length_append]; omega, fun i h => List.getElem?_append_left h⟩
theorem Take.fz {b : Nat} {O O' : Store} (h : Take b 0 O) (f : Fz O O') : Take b 0 O' := by
  obtain ⟨ns, z, la, h, r⟩ := h
  exact ⟨ns, z, la, f.at h, r⟩
theorem Take.len {b : Nat} {O : Store} (h : Take b 0 O) : 0 < O.length := by
  obtain ⟨ns, z, la, h, r⟩ := h
  exact (List.getElem?_eq_some_iff.mp h).1
theorem Take.set {b n : Nat} {O : Store} {p : Ob} (h : Take b 0 O) (hn : n ≠ 0) : Take b 0 (O.set n p) := by
  obtain ⟨ns, z, la, h, r⟩ := h
  exact ⟨ns, z, la, by rw [List.getElem?_set_ne hn]; exact h, r⟩
theorem tk1 {b : Nat} {O : Store} {m : Int} (h : Take b 0 O) (hm : 0 < m) (hm2 : m ≤ 2 ^ 32) (hb : b ≤ 2 ^ 31) :
    ∃ v O', fTake [.hdl 0, .int m] O = .ok (.int v) O' ∧ 0 ≤ v ∧ v < m ∧ Take (b + 1) 0 O' ∧ Fr O O' ∧ O'.length = O.length := by
  obtain ⟨v, P, e, v0, v1, p⟩ := take_ok h hm (by omega) (by omega)
  exact ⟨v, _, e, v0, v1, p, fr_set0, List.length_set ..⟩
/-! ### loops -/
theorem forR1_keeps {t : AM} {b : BM} {body : SM} {I : Nat → Loc → Store → Prop} {L : Loc} {O O1 : Store} {j : Int} (ht : t L O = .ok [.int j] O1) (h0 : 0 ≤ j) (h1 : j ≤ 1000000) (hI : I 0 L O1)
    (st : ∀ (i : Nat) L O, (i : Int) < j → I i L O → ∃ L' O', turnOf b body (.int i) L O = .next L' O' ∧ I (i + 1) L' O') : ∃ L' O', sForR1 t b body L O = .next L' O' ∧ I j.toNat L' O' := by
  obtain ⟨L', O', e, h⟩ := loopD_keeps (turn := turnOf b body) (I := I) (rangeD 0 j.toNat) 0 L O1 hI fun i d L O hd hI => by
    have hl := (List.getElem?_eq_some_iff.mp hd).1
    rw [rangeD_len] at hl
    obtain rfl : d = .int (i : Int) := by
      unfold rangeD at hd
      rw [List.getElem?_map, List.getElem?_range hl] at hd
      have := (Option.some.inj hd).symm
      rw [this]
      show D.int (0 + (i : Int)) = _
      rw [Int.zero_add]
    rw [Nat.zero_add] at hI ⊢
    exact st i L O (by omega) hI
  rw [Nat.zero_add, rangeD_len] at h
  refine ⟨L', O', ?_, h⟩
  show ofRes L (t L O) (fun ds O1 => match int1 ds with
    | some j => loopD (turnOf b body) (rangeD 0 j.toNat) L O1
    | none => .bad) = _
  rw [ht]
  show (match int1 [.int j] with
    | some j => loopD (turnOf b body) (rangeD 0 j.toNat) L O1
    | none => .bad) = _
  rw [show int1 [.int j] = some j by simp [int1]; omega]
  exact e
theorem forL_keeps {m : EM} {b : BM} {body : SM} {I : Nat → Loc → Store → Prop} {L : Loc} {O O1 : Store} {ds : List D} (ht : m L O = .ok (.lst ds) O1) (hI : I 0 L O1)
    (st : ∀ (i : Nat) d L O, ds[i]? = some d → I i L O → ∃ L' O', turnOf b body d L O = .next L' O' ∧ I (i + 1) L' O') : ∃ L' O', sForL m b body L O = .next L' O' ∧ I ds.length L' O' := by
  obtain ⟨L', O', e, h⟩ := loopD_keeps (turn := turnOf b body) (I := I) ds 0 L O1 hI fun i d L O hd hI => by
    rw [Nat.zero_add] at hI ⊢
    exact st i d L O hd hI
  rw [Nat.zero_add] at h
  refine ⟨L', O', ?_, h⟩
  show ofRes L (m L O) _ = _
  rw [ht]
  exact e
/-! ### comprehensions -/
theorem lc_pureG {nx : Nat → Store → Option (Option D)} {turn : D → Store → List D → Option (Store × List D)} {ds : List D} {O : Store} {f : D → Option D} (hn : ∀ i, nx i O = some ds[i]?)
    (ht : ∀ d ∈ ds, ∀ acc : List D, acc.length ≤ 900000 → turn d O acc = some (O, acc ++ (f d).toList)) : ∀ (k i : Nat) (acc : List D), ds.length = i + k → acc.length + k ≤ 900000 → lcG nx turn k i O acc = some (O, acc ++ (ds.drop i).filterMap f)
  | 0, i, acc, h, hl => by
    unfold lcG
    rw [hn, List.getElem?_eq_none (by omega), List.drop_eq_nil_of_le (by omega)]
    simp
  | k + 1, i, acc, h, hl => by
    have hi : i < ds.length := by omega
    unfold lcG
    rw [hn, List.getElem?_eq_getElem hi]
    show (match turn ds[i] O acc with | some p => lcG nx turn k (i + 1) p.1 p.2 | none => none) = _
    rw [ht _ (List.getElem_mem hi) acc (by omega)]
    show lcG nx turn k (i + 1) O (acc ++ (f ds[i]).toList) = _
    have hz : (f ds[i]).toList.length ≤ 1 := by cases f ds[i] <;> simp
    rw [lc_pureG hn ht k (i + 1) _ (by omega) (by rw [List.length_append]; omega), List.drop_eq_getElem_cons hi, List.filterMap_cons, List.append_assoc]
    cases f ds[i] <;> rfl
theorem lcL_pure {src : EM} {vs : List Nat} {b : BM} {tt : TM} {el : EM} {L : Loc} {O O1 : Store} {d : D} {ds : List D} (f : D → Option D) (hs : src L O = .ok d O1) (hd : lsqOf O1 d = some ds) (hl : ds.length ≤ 900000)
    (st : ∀ d ∈ ds, ∃ L', b d (wipeL L vs) O1 = some (L', O1) ∧ ((∃ y, tt L' O1 = .ok true O1 ∧ el L' O1 = .ok y O1 ∧ f d = some y) ∨ (tt L' O1 = .ok false O1 ∧ f d = none))) :
    mLcL false src vs b tt el L O = .ok (.lst (ds.filterMap f)) O1 := by
  show ((src L O).bind fun d O1 => match lsqOf O1 d with
    | some xs => lcEnd false (lcG (fun i O => (lsqOf O d).map (·[i]?)) (lcTurn vs b tt el L) xs.length 0 O1 [])
    | none => .bad) = _
  rw [hs]
  show (match lsqOf O1 d with
    | some xs => lcEnd false (lcG (fun i O => (lsqOf O d).map (·[i]?)) (lcTurn vs b tt el L) xs.length 0 O1 [])
    | none => .bad) = _
  rw [hd]
  show lcEnd false (lcG (fun i O => (lsqOf O d).map (·[i]?)) (lcTurn vs b tt el L) ds.length 0 O1 []) = _
  rw [lc_pureG (f := f) (ds := ds) (fun i => by rw [hd]; rfl) (fun d' hd' acc ha => by
    obtain ⟨L', e1, e2⟩ := st d' hd'
    show (match b d' (wipeL L vs) O1 with
      | some p => (match tt p.1 p.2 with
        | .ok true O2 => (match el p.1 O2 with
          | .ok y O3 => if acc.length ≤ 900000 then some (O3, acc ++ [y]) else none
          | _ => none)
        | .ok false O2 => some (O2, acc)
        | _ => none)
      | none => none) = _
    rw [e1]
    rcases e2 with ⟨y, e2, e3, e4⟩ | ⟨e2, e4⟩
    · simp only [e2, e3, e4, if_pos ha]
      rfl
    · simp only [e2, e4]
      simp) ds.length 0 [] (by omega) (by simpa using hl)]
  show newL false ([] ++ (ds.drop 0).filterMap f) O1 = _
  have : (ds.filterMap f).length ≤ 1000000 := Nat.le_trans (List.length_filterMap_le ..) (by omega)
  simp [newL, this]
/-! ### lists that grow -/
theorem app_ok {m e : EM} {L : Loc} {O O1 O2 : Store} {n : Nat} {xs0 xs : List D} {y : D} (hm : m L O = .ok (.hdl n) O1) (h0 : O1[n]? = some (.lst xs0)) (he : e L O1 = .ok y O2) (h1 : O2[n]? = some (.lst xs)) (hl : xs.length ≤ 1000000) :
    mApp m e L O = .ok .non (O2.set n (.lst (xs ++ [y]))) := by
  simp [mApp, hm, Res.bind, lstOf, h0, he, h1, hl]
/-! ### texts in order -/
end DK
end
section
set_option Elab.async false
set_option linter.all false
set_option autoImplicit false
set_option maxRecDepth 100000
set_option maxHeartbeats 4000000
/-! mirrors that many laws share: printed by mirrors.py. -/
namespace DK.Rd
open PySem L2 DK
def m_invalidline_init : EM := (mOp (gAdd false) (mC (.str "line ")) (mCall (g1 gStr) (mCons (mVar 1) mNil)))
def x_InvalidLine : XM := mkOne ["self", "line"] m_invalidline_init "line" 1
def b_law_is_name : SM := (sRet (mAndV (mChain gLe gLe (mC (.int 1)) (mCall (g1 gLen) (mCons (mVar 0) mNil)) (mC (.int 12))) (mOp gEq (mCall (g1 gLen) (mCons (mLcS false (mVar 0) [1] (bName 1) (mTest (mOp gNotIn (mVar 1) (mC (.str "abcdefghijklmnopqrstuvwxyz")))) (mVar 1)) mNil)) (mC (.int 0)))))
def f_law_is_name : FM := runF 2 b_law_is_name
def b_law_is_number : SM := (sSeq (sIf (mOr (mNot (mTest (mChain gLe gLe (mC (.int 1)) (mCall (g1 gLen) (mCons (mVar 0) mNil)) (mC (.int 7))))) (mTest (mOp gGt (mCall (g1 gLen) (mCons (mLcS false (mVar 0) [1] (bName 1) (mTest (mOp gNotIn (mVar 1) (mC (.str "0123456789")))) (mVar 1)) mNil)) (mC (.int 0))))) (sRet (mC (.bl false))) sNext)
    (sRet (mAndV (mOrV (mOp gEq (mCall (g1 gLen) (mCons (mVar 0) mNil)) (mC (.int 1))) (mOp gNe (mOp gIx (mVar 0) (mC (.int 0))) (mC (.str "0")))) (mOp gLe (mCall (g1 gInt) (mCons (mVar 0) mNil)) (mC (.int 1000000))))))
def f_law_is_number : FM := runF 2 b_law_is_number
def b_lines_of : SM := (sSeq (sIf (mTest (mOp gEq (mVar 0) (mC (.str "")))) (sRet (mLst false mNil)) sNext)
    (sSeq (sAsg (mBS (gSplit false) (mVar 0) (mCons (mC (.str "\n")) mNil)) (bName 1))
    (sSeq (sIf (mTest (mOp gNe (mOp gIx (mVar 1) (mNeg (mC (.int 1)))) (mC (.str "")))) (sRaiseX "InvalidLine" 1 x_InvalidLine (mCons (mCall (g1 gLen) (mCons (mVar 1) mNil)) mNil)) sNext)
    (sRet (mSl false (mVar 1) oNone (oSome (mNeg (mC (.int 1)))))))))
def f_lines_of : FM := runF 2 b_lines_of
def b_words : SM := (sRet (mBS (gSplit false) (mVar 0) (mCons (mC (.str " ")) mNil)))
def f_words : FM := runF 1 b_words
def b_is_name : SM := (sSeq (sIf (mOr (mNot (mTest (mIsi "str" (mVar 0)))) (mNot (mTest (mChain gLe gLe (mC (.int 1)) (mCall (g1 gLen) (mCons (mVar 0) mNil)) (mC (.int 12)))))) (sRet (mC (.bl false))) sNext)
    (sSeq (sForS (mVar 0) (bName 1) (sIf (mTest (mOp gNotIn (mVar 1) (mC (.str "abcdefghijklmnopqrstuvwxyz")))) (sRet (mC (.bl false))) sNext))
    (sRet (mC (.bl true)))))
def f_is_name : FM := runF 2 b_is_name
def b_checked_name : SM := (sSeq (sIf (mNot (mTest (mFn (arity 1 f_is_name) [] (mCons (mVar 0) mNil)))) (sRaise "InvalidName" (mCons (mC (.str "no name")) mNil)) sNext)
    (sRet (mVar 0)))
def f_checked_name : FM := runF 1 b_checked_name
def b_is_number : SM := (sSeq (sIf (mOr (mTest (mIsi "bool" (mVar 0))) (mNot (mTest (mIsi "int" (mVar 0))))) (sRet (mC (.bl false))) sNext)
    (sRet (mChain gLe gLe (mVar 1) (mVar 0) (mVar 2))))
def f_is_number : FM := runF 3 b_is_number
def b_checked_number : SM := (sSeq (sIf (mNot (mTest (mFn (arity 3 f_is_number) [] (mCons (mVar 0) (mCons (mVar 1) (mCons (mVar 2) mNil)))))) (sRaise "InvalidNumber" (mCons (mOp (gAdd false) (mOp (gAdd false) (mOp (gAdd false) (mC (.str "no number from ")) (mCall (g1 gStr) (mCons (mVar 1) mNil))) (mC (.str " to "))) (mCall (g1 gStr) (mCons (mVar 2) mNil))) mNil)) sNext)
    (sRet (mVar 0)))
def f_checked_number : FM := runF 3 b_checked_number
def b_read_number : SM := (sSeq (sIf (mOr (mNot (mTest (mIsi "str" (mVar 0)))) (mNot (mTest (mChain gLe gLe (mC (.int 1)) (mCall (g1 gLen) (mCons (mVar 0) mNil)) (mC (.int 7)))))) (sRaise "InvalidNumber" (mCons (mC (.str "no number")) mNil)) sNext)
    (sSeq (sForS (mVar 0) (bName 3) (sIf (mTest (mOp gNotIn (mVar 3) (mC (.str "0123456789")))) (sRaise "InvalidNumber" (mCons (mC (.str "no number")) mNil)) sNext))
    (sSeq (sIf (mAnd (mTest (mOp gGt (mCall (g1 gLen) (mCons (mVar 0) mNil)) (mC (.int 1)))) (mTest (mOp gEq (mOp gIx (mVar 0) (mC (.int 0))) (mC (.str "0"))))) (sRaise "InvalidNumber" (mCons (mC (.str "a nought ahead")) mNil)) sNext)
    (sRet (mFn (arity 3 f_checked_number) [] (mCons (mCall (g1 gInt) (mCons (mVar 0) mNil)) (mCons (mVar 1) (mCons (mVar 2) mNil))))))))
def f_read_number : FM := runF 4 b_read_number
end DK.Rd
end
section
set_option Elab.async false
set_option linter.all false
set_option autoImplicit false
set_option maxRecDepth 100000
set_option maxHeartbeats 4000000
/-! DKSpl: rows of a text, in plain Lean. -/
namespace DK.Sp
open PySem L2 DK
abbrev one (c : Nat) : Str := ⟨#[c]⟩
def jn (c : Nat) (ps : List Str) : List Nat := (Str.join (one c) ps).cps.toList
def free (c : Nat) (ps : List Str) : Prop := ∀ p ∈ ps, c ∉ p.cps.toList
theorem str_ext {a b : Str} (h : a.cps.toList = b.cps.toList) : a = b := Str.ext' (Array.toList_inj.mp h)
theorem jn_one (c : Nat) (x : Str) : jn c [x] = x.cps.toList := rfl
theorem jn_cons (c : Nat) (x y : Str) (r : List Str) : jn c (x :: y :: r) = x.cps.toList ++ c :: jn c (y :: r) := by
  unfold jn
  show ((x ++ one c ++ Str.join (one c) (y :: r)).cps).toList = _
  rw [Str.cps_append, Str.cps_append, Array.toList_append, Array.toList_append, List.append_assoc]
  rfl
theorem cut_eq {c : Nat} : ∀ {x y A B : List Nat}, c ∉ x → c ∉ y → x ++ c :: A = y ++ c :: B → x = y ∧ A = B
  | [], [], A, B, _, _, h => ⟨rfl, (List.cons.inj h).2⟩
  | [], b :: y, A, B, _, hy, h => absurd (List.mem_cons.mpr (.inl (List.cons.inj h).1)) hy
  | a :: x, [], A, B, hx, _, h => absurd (List.mem_cons.mpr (.inl (List.cons.inj h).1.symm)) hx
  | a :: x, b :: y, A, B, hx, hy, h => by
    obtain ⟨h1, h2⟩ := List.cons.inj h
    obtain ⟨h3, h4⟩ := cut_eq (fun z => hx (List.mem_cons_of_mem _ z)) (fun z => hy (List.mem_cons_of_mem _ z)) h2
    exact ⟨by rw [h1, h3], h4⟩
theorem jn_uniq {c : Nat} : ∀ {ps qs : List Str}, ps ≠ [] → qs ≠ [] → free c ps → free c qs → jn c ps = jn c qs → ps = qs
  | [], _, h, _, _, _, _ => absurd rfl h
  | _, [], _, h, _, _, _ => absurd rfl h
  | [x], [y], _, _, _, _, h => by rw [jn_one, jn_one] at h; rw [str_ext h]
  | [x], y :: z :: r, _, _, hp, _, h => by
    rw [jn_one, jn_cons] at h
    exact absurd (by rw [h]; simp) (hp x List.mem_cons_self)
  | x :: z :: r, [y], _, _, _, hq, h => by
    rw [jn_one, jn_cons] at h
    exact absurd (by rw [← h]; simp) (hq y List.mem_cons_self)
  | x :: z :: r, y :: z' :: r', _, _, hp, hq, h => by
    rw [jn_cons, jn_cons] at h
    obtain ⟨h1, h2⟩ := cut_eq (hp x List.mem_cons_self) (hq y List.mem_cons_self) h
    rw [str_ext h1, jn_uniq (ps := z :: r) (qs := z' :: r') (by simp) (by simp) (fun p hp' => hp p (List.mem_cons_of_mem _ hp')) (fun p hp' => hq p (List.mem_cons_of_mem _ hp')) h2]
theorem jn_new {c : Nat} {l : Str} : ∀ {A : List Str}, jn c (A ++ [l, Str.empty]) = jn c (A ++ [l]) ++ [c]
  | [] => by
    show jn c (l :: Str.empty :: []) = l.cps.toList ++ [c]
    rw [jn_cons]
    rfl
  | [x] => by
    show jn c (x :: l :: Str.empty :: []) = jn c (x :: l :: []) ++ [c]
    rw [jn_cons, jn_cons, jn_cons, jn_one, jn_one, List.append_assoc]
    rfl
  | x :: y :: A => by
    show jn c (x :: y :: (A ++ [l, Str.empty])) = jn c (x :: y :: (A ++ [l])) ++ [c]
    rw [jn_cons, jn_cons, show y :: (A ++ [l, Str.empty]) = (y :: A) ++ [l, Str.empty] from rfl, jn_new (A := y :: A), List.append_assoc]
    rfl
theorem split_is {c : Nat} {x : Str} {ps : List Str} (h0 : ps ≠ []) (hf : free c ps) (h : jn c ps = x.cps.toList) : Txt.split x (one c) = ps := by
  have j : Str.join (one c) (Txt.split x (one c)) = x := StrLaws.join_split x (one c)
  have hs : Txt.split x (one c) ≠ [] := fun e => by
    unfold Txt.split at e
    split at e
    · cases e
    · split at e
      · cases e
      · rw [StrLaws.partsBetween_eq] at e
        obtain ⟨p, r, e2⟩ := StrLaws.partsFrom_ne x (one c).length 0 (Builtin.Str.occurrences x (one c) 0 x.length (x.length + 1))
        rw [e2] at e
        cases e
  exact jn_uniq hs h0 (StrLaws.split_free x c) hf (by unfold jn at h ⊢; rw [j, h])
theorem part_in {c q : Nat} {p : Str} : ∀ {ps : List Str}, p ∈ ps → q ∈ p.cps.toList → q ∈ jn c ps
  | [], h, _ => by cases h
  | [x], h, hq => by rw [jn_one, ← List.mem_singleton.mp h]; exact hq
  | x :: y :: r, h, hq => by
    rw [jn_cons]
    rcases List.mem_cons.mp h with rfl | h
    · exact List.mem_append_left _ hq
    · exact List.mem_append_right _ (List.mem_cons_of_mem _ (part_in (ps := y :: r) h hq))
theorem strOk_iff {x : Str} : PyData.strOk x = true ↔ ∀ q ∈ x.cps.toList, q < 0x110000 := by
  unfold PyData.strOk
  rw [Array.all_eq_true]
  constructor
  · intro h q hq
    obtain ⟨i, hi, e⟩ := List.getElem_of_mem hq
    have := h i (by simpa using hi)
    rw [← e]
    simpa using this
  · intro h i hi
    have := h (x.cps[i]) (by simp)
    simpa using this
theorem split_len {c : Nat} {x : Str} : (Txt.split x (one c)).length ≤ x.length + 1 := by
  have j : Str.join (one c) (Txt.split x (one c)) = x := StrLaws.join_split x (one c)
  have key : ∀ ps : List Str, ps.length ≤ (jn c ps).length + 1 := fun ps => by
    induction ps with
    | nil => exact Nat.zero_le _
    | cons a ps ih =>
      cases ps with
      | nil => simp
      | cons b r =>
        rw [jn_cons, List.length_append, List.length_cons, List.length_cons] at *
        simp only [List.length_cons] at ih ⊢
        omega
  have := key (Txt.split x (one c))
  unfold jn at this
  rw [j] at this
  simpa [Str.length] using this
theorem part_len {c : Nat} {p : Str} : ∀ {ps : List Str}, p ∈ ps → p.cps.toList.length ≤ (jn c ps).length
  | [], h => by cases h
  | [y], h => by rw [jn_one, ← List.mem_singleton.mp h]; exact Nat.le_refl _
  | a :: b :: r, h => by
    rw [jn_cons, List.length_append, List.length_cons]
    rcases List.mem_cons.mp h with rfl | h
    · omega
    · have := part_len (c := c) (ps := b :: r) h
      omega
theorem split_part {c : Nat} {x p : Str} (h : p ∈ Txt.split x (one c)) : p.length ≤ x.length := by
  have j : Str.join (one c) (Txt.split x (one c)) = x := StrLaws.join_split x (one c)
  have := part_len (c := c) h
  unfold jn at this
  rw [j] at this
  simpa [Str.length] using this
theorem sum_le {m : Nat} : ∀ {ys : List Str}, (∀ p ∈ ys, p.length ≤ m) → (ys.map (·.length)).sum ≤ ys.length * m
  | [], _ => by simp
  | y :: ys, h => by
    have h1 := h y List.mem_cons_self
    have h2 := sum_le (ys := ys) fun p hp => h p (List.mem_cons_of_mem _ hp)
    rw [List.map_cons, List.sum_cons, List.length_cons, Nat.succ_mul]
    omega
theorem jn_flat {c : Nat} : ∀ {A : List Str}, jn c (A ++ [Str.empty]) = A.flatMap fun p => p.cps.toList ++ [c]
  | [] => rfl
  | [x] => by
    show jn c (x :: Str.empty :: []) = _
    rw [jn_cons]
    simp
    rfl
  | x :: y :: A => by
    show jn c (x :: y :: (A ++ [Str.empty])) = _
    rw [jn_cons, show jn c (y :: (A ++ [Str.empty])) = jn c ((y :: A) ++ [Str.empty]) from rfl, jn_flat (A := y :: A), List.flatMap_cons]
    simp
theorem join_flat : ∀ {ps : List Str}, (Str.join Str.empty ps).cps.toList = ps.flatMap fun p => p.cps.toList
  | [] => rfl
  | [x] => by
    show x.cps.toList = _
    simp
  | x :: y :: r => by
    show ((x ++ Str.empty ++ Str.join Str.empty (y :: r)).cps).toList = _
    rw [Str.cps_append, Str.cps_append, Array.toList_append, Array.toList_append, join_flat (ps := y :: r), List.flatMap_cons]
    simp [Str.empty]
end DK.Sp
end
section
set_option Elab.async false
set_option linter.all false
set_option autoImplicit false
set_option maxRecDepth 100000
set_option maxHeartbeats 4000000
/-! DKRd: names, numbers, words and lines read, in plain Lean. -/
namespace DK.Rd
open PySem L2 DK DK.Sp
theorem chars_eq (w : Str) : charsD w = w.cps.toList.map fun c => D.str ⟨#[c]⟩ := rfl
theorem gIx_str {O : Store} {s : Str} {i : Int} {c : Nat} (hl : s.length ≤ 1000000) (h : atI s.cps.toList i = some c) : gIx O (.str s) (.int i) = some (.str ⟨#[c]⟩, O) := by
  show (if s.length ≤ 1000000 then (match atI s.cps.toList i with
      | some c => some (D.str ⟨#[c]⟩, O)
      | none => none) else none) = _
  rw [if_pos hl, h]
theorem gAdd_str {O : Store} {h : Bool} {a b : Str} (hl : a.length + b.length ≤ 1000000) : gAdd h O (.str a) (.str b) = some (.str (a ++ b), O) := by
  show (if a.length + b.length ≤ 1000000 then some (D.str (a ++ b), O) else none) = _
  rw [if_pos hl]
/-! ### names -/
abbrev LET : Str := "abcdefghijklmnopqrstuvwxyz"
abbrev FIG : Str := "0123456789"
def nameB (w : Str) : Bool := decide (1 ≤ (w.length : Int)) && (decide ((w.length : Int) ≤ 12) && allIn LET w.cps.toList)
theorem law_name_ok {w : Str} {O : Store} (hw : w.length ≤ 900) : f_law_is_name [.str w] O = .ok (.bl (nameB w)) O := by
  have hl : w.length ≤ 1000000 := by omega
  have e := lcS_signs (i := 1) (cs := LET) (w := w) (src := mVar 0) (L := [some (.str w), none]) (O := O) (by simp) rfl (by omega)
  unfold nameB
  have hz := outOf_zero (cs := LET) (w := w.cps.toList)
  by_cases h1 : 1 ≤ (w.length : Int) <;> by_cases h2 : (w.length : Int) ≤ 12 <;> cases hc : allIn LET w.cps.toList <;> rw [hc] at hz <;> simp [f_law_is_name, b_law_is_name, runF, sSeq, sIf, sNext, sDrop, sRet, sRetN, sAsg, ofRes, ofB, bName, bNil, bCons, bTup, bLst, bSubL, mTest, mOp, mVar, mC, mChain, mAnd, mOr, mNot, mIf, mAndV, mOrV, mNotV, mNeg, mCons, mNil, mTup, mLst, newL, mCall, mFn, arity, g1, g2, gLen, gInt, gAbs, gMax2, gMin2, gIx, seqOf, lsqOf, lstOf, Res.bind, ofO, gAdd_ok, gSub_ok, gEq_int, gNe_int, gLt_int, gLe_int, gGt_int, gGe_int, gEq_bl, gNe_bl, gEq_str, gNe_str, mIsi, mIsiT, tyD, kitL, kitTab, atI_c0, atI_c1, atI_c2, atI_c3, atI_c4, sForR1, int1, int2, mMeth, mMake, mFld, sFldM, gIs, gIsNot, isNon_t, sRaise, gList, newLO, hl, h1, h2, e, hc] <;> simpa using hz
theorem is_name_ok {w : Str} {O : Store} (hw : w.length ≤ 900) : f_is_name [.str w] O = .ok (.bl (nameB w)) O := by
  have hl : w.length ≤ 1000000 := by omega
  unfold nameB
  by_cases h1 : 1 ≤ (w.length : Int)
  · by_cases h2 : (w.length : Int) ≤ 12
    · cases hc : allIn LET w.cps.toList
      · obtain ⟨L', e⟩ := loop_signs_no (i := 1) (cs := LET) (bad := sRet (mC (.bl false))) (fun L O => .inl ⟨_, rfl⟩) w.cps.toList [some (.str w), none] O (by simp) hc
        simp only [signB] at e
        simp [f_is_name, b_is_name, sForS, chars_eq, runF, sSeq, sIf, sNext, sDrop, sRet, sRetN, sAsg, ofRes, ofB, bName, bNil, bCons, bTup, bLst, bSubL, mTest, mOp, mVar, mC, mChain, mAnd, mOr, mNot, mIf, mAndV, mOrV, mNotV, mNeg, mCons, mNil, mTup, mLst, newL, mCall, mFn, arity, g1, g2, gLen, gInt, gAbs, gMax2, gMin2, gIx, seqOf, lsqOf, lstOf, Res.bind, ofO, gAdd_ok, gSub_ok, gEq_int, gNe_int, gLt_int, gLe_int, gGt_int, gGe_int, gEq_bl, gNe_bl, gEq_str, gNe_str, mIsi, mIsiT, tyD, kitL, kitTab, atI_c0, atI_c1, atI_c2, atI_c3, atI_c4, sForR1, int1, int2, mMeth, mMake, mFld, sFldM, gIs, gIsNot, isNon_t, sRaise, gList, newLO, hl, h1, h2, e]
      · obtain ⟨d, e⟩ := loop_signs_ok (i := 1) (cs := LET) (bad := sRet (mC (.bl false))) w.cps.toList [some (.str w), none] O (by simp) hc
        simp only [signB] at e
        simp [f_is_name, b_is_name, sForS, chars_eq, runF, sSeq, sIf, sNext, sDrop, sRet, sRetN, sAsg, ofRes, ofB, bName, bNil, bCons, bTup, bLst, bSubL, mTest, mOp, mVar, mC, mChain, mAnd, mOr, mNot, mIf, mAndV, mOrV, mNotV, mNeg, mCons, mNil, mTup, mLst, newL, mCall, mFn, arity, g1, g2, gLen, gInt, gAbs, gMax2, gMin2, gIx, seqOf, lsqOf, lstOf, Res.bind, ofO, gAdd_ok, gSub_ok, gEq_int, gNe_int, gLt_int, gLe_int, gGt_int, gGe_int, gEq_bl, gNe_bl, gEq_str, gNe_str, mIsi, mIsiT, tyD, kitL, kitTab, atI_c0, atI_c1, atI_c2, atI_c3, atI_c4, sForR1, int1, int2, mMeth, mMake, mFld, sFldM, gIs, gIsNot, isNon_t, sRaise, gList, newLO, hl, h1, h2, e]
    · simp [f_is_name, b_is_name, runF, sSeq, sIf, sNext, sDrop, sRet, sRetN, sAsg, ofRes, ofB, bName, bNil, bCons, bTup, bLst, bSubL, mTest, mOp, mVar, mC, mChain, mAnd, mOr, mNot, mIf, mAndV, mOrV, mNotV, mNeg, mCons, mNil, mTup, mLst, newL, mCall, mFn, arity, g1, g2, gLen, gInt, gAbs, gMax2, gMin2, gIx, seqOf, lsqOf, lstOf, Res.bind, ofO, gAdd_ok, gSub_ok, gEq_int, gNe_int, gLt_int, gLe_int, gGt_int, gGe_int, gEq_bl, gNe_bl, gEq_str, gNe_str, mIsi, mIsiT, tyD, kitL, kitTab, atI_c0, atI_c1, atI_c2, atI_c3, atI_c4, sForR1, int1, int2, mMeth, mMake, mFld, sFldM, gIs, gIsNot, isNon_t, sRaise, gList, newLO, hl, h1, h2]
  · simp [f_is_name, b_is_name, runF, sSeq, sIf, sNext, sDrop, sRet, sRetN, sAsg, ofRes, ofB, bName, bNil, bCons, bTup, bLst, bSubL, mTest, mOp, mVar, mC, mChain, mAnd, mOr, mNot, mIf, mAndV, mOrV, mNotV, mNeg, mCons, mNil, mTup, mLst, newL, mCall, mFn, arity, g1, g2, gLen, gInt, gAbs, gMax2, gMin2, gIx, seqOf, lsqOf, lstOf, Res.bind, ofO, gAdd_ok, gSub_ok, gEq_int, gNe_int, gLt_int, gLe_int, gGt_int, gGe_int, gEq_bl, gNe_bl, gEq_str, gNe_str, mIsi, mIsiT, tyD, kitL, kitTab, atI_c0, atI_c1, atI_c2, atI_c3, atI_c4, sForR1, int1, int2, mMeth, mMake, mFld, sFldM, gIs, gIsNot, isNon_t, sRaise, gList, newLO, hl, h1]
theorem checked_name_ok {w : Str} {O : Store} (hw : w.length ≤ 900) : f_checked_name [.str w] O = if nameB w = true then .ok (.str w) O else .exc ⟨"InvalidName", none⟩ O := by
  have e := is_name_ok (O := O) hw
  cases h : nameB w <;> rw [h] at e <;> simp [f_checked_name, b_checked_name, runF, sSeq, sIf, sNext, sDrop, sRet, sRetN, sAsg, ofRes, ofB, bName, bNil, bCons, bTup, bLst, bSubL, mTest, mOp, mVar, mC, mChain, mAnd, mOr, mNot, mIf, mAndV, mOrV, mNotV, mNeg, mCons, mNil, mTup, mLst, newL, mCall, mFn, arity, g1, g2, gLen, gInt, gAbs, gMax2, gMin2, gIx, seqOf, lsqOf, lstOf, Res.bind, ofO, gAdd_ok, gSub_ok, gEq_int, gNe_int, gLt_int, gLe_int, gGt_int, gGe_int, gEq_bl, gNe_bl, gEq_str, gNe_str, mIsi, mIsiT, tyD, kitL, kitTab, atI_c0, atI_c1, atI_c2, atI_c3, atI_c4, sForR1, int1, int2, mMeth, mMake, mFld, sFldM, gIs, gIsNot, isNon_t, sRaise, gList, newLO, e]
theorem nameB_len {w : Str} (h : nameB w = true) : 1 ≤ w.length ∧ w.length ≤ 12 := by
  unfold nameB at h
  simp at h
  omega
/-- a name has no sign but letters -/
theorem nameB_free {w : Str} {c : Nat} (h : nameB w = true) (hc : c < 97) : c ∉ w.cps.toList := fun hm => by
  unfold nameB at h
  have h3 := (Bool.and_eq_true_iff.mp (Bool.and_eq_true_iff.mp h).2).2
  have := of_decide_eq_true (List.all_eq_true.mp h3 c hm)
  rw [show LET.cps.toList = [97, 98, 99, 100, 101, 102, 103, 104, 105, 106, 107, 108, 109, 110, 111, 112, 113, 114, 115, 116, 117, 118, 119, 120, 121, 122] from rfl] at this
  simp at this
  omega
/-! ### numbers -/
def headN (w : Str) : Bool := match w.cps.toList with
  | 48 :: _ => true
  | _ => false
def figB (w : Str) : Bool := decide (1 ≤ (w.length : Int)) && (decide ((w.length : Int) ≤ 7) && (allIn FIG w.cps.toList && (decide ((w.length : Int) = 1) || !headN w)))
def valW (w : Str) : Int := (PySem.intText? w).getD 0
def numW (w : Str) : Bool := figB w && decide (valW w ≤ 1000000)
theorem all_digits {w : Str} (hc : allIn FIG w.cps.toList = true) : PySem.NumText.AllDigits w.cps.toList := fun c hcm => by
  have := of_decide_eq_true (List.all_eq_true.mp hc c hcm)
  rw [show FIG.cps.toList = [48, 49, 50, 51, 52, 53, 54, 55, 56, 57] from rfl] at this
  simp at this
  omega
theorem len_list (w : Str) : w.cps.toList.length = w.length := by rw [Array.length_toList]; rfl
theorem val_of {w : Str} (hc : allIn FIG w.cps.toList = true) (h1 : 1 ≤ w.length) (h2 : w.length ≤ 7) : PySem.intText? w = some (valW w) ∧ 0 ≤ valW w ∧ valW w = ((PySem.NumText.digitsVal w.cps.toList : Nat) : Int) := by
  have hwl := len_list w
  have e := PySem.intText_digits (all_digits hc) (fun z => by rw [z] at hwl; simp at hwl; omega) (by omega)
  unfold valW
  rw [e]
  exact ⟨rfl, Int.natCast_nonneg _, rfl⟩
theorem head_eq {w : Str} {c : Nat} {cs : List Nat} (h : w.cps.toList = c :: cs) : decide ((⟨#[c]⟩ : Str) = "0") = headN w := by
  unfold headN
  rw [h]
  by_cases hc : c = 48
  · subst hc
    rfl
  · have : ¬ (⟨#[c]⟩ : Str) = "0" := fun q => hc (by
      have q2 : (⟨#[c]⟩ : Str).cps[0]? = (("0" : Str)).cps[0]? := congrArg (fun z : Str => z.cps[0]?) q
      exact Option.some.inj ((show (⟨#[c]⟩ : Str).cps[0]? = some c from rfl).symm.trans (q2.trans (show (("0" : Str)).cps[0]? = some 48 from by decide +kernel))))
    rw [decide_eq_false this]
    split
    · rename_i q
      exact absurd (List.cons.inj q).1 hc
    · rfl
theorem checked0_ok {v : Int} {O : Store} (h0 : 0 ≤ v) : f_checked_number [.int v, .int 0, .int 1000000] O = if v ≤ 1000000 then .ok (.int v) O else .exc ⟨"InvalidNumber", none⟩ O := by
  by_cases h : v ≤ 1000000
  · simp [f_checked_number, b_checked_number, f_is_number, b_is_number, runF, sSeq, sIf, sNext, sDrop, sRet, sRetN, sAsg, ofRes, ofB, bName, bNil, bCons, bTup, bLst, bSubL, mTest, mOp, mVar, mC, mChain, mAnd, mOr, mNot, mIf, mAndV, mOrV, mNotV, mNeg, mCons, mNil, mTup, mLst, newL, mCall, mFn, arity, g1, g2, gLen, gInt, gAbs, gMax2, gMin2, gIx, seqOf, lsqOf, lstOf, Res.bind, ofO, gAdd_ok, gSub_ok, gEq_int, gNe_int, gLt_int, gLe_int, gGt_int, gGe_int, gEq_bl, gNe_bl, gEq_str, gNe_str, mIsi, mIsiT, tyD, kitL, kitTab, atI_c0, atI_c1, atI_c2, atI_c3, atI_c4, sForR1, int1, int2, mMeth, mMake, mFld, sFldM, gIs, gIsNot, isNon_t, sRaise, gList, newLO, h0, h]
  · obtain ⟨z, hm⟩ : ∃ z, (mCons (mOp (gAdd false) (mOp (gAdd false) (mOp (gAdd false) (mC (.str "no number from ")) (mCall (DK.g1 gStr) (mCons (mVar 1) mNil))) (mC (.str " to "))) (mCall (DK.g1 gStr) (mCons (mVar 2) mNil))) mNil) [some (.int v), some (.int 0), some (.int 1000000)] O = .ok [z] O := ⟨_, rfl⟩
    unfold f_checked_number b_checked_number
    generalize (mCons (mOp (gAdd false) (mOp (gAdd false) (mOp (gAdd false) (mC (.str "no number from ")) (mCall (DK.g1 gStr) (mCons (mVar 1) mNil))) (mC (.str " to "))) (mCall (DK.g1 gStr) (mCons (mVar 2) mNil))) mNil) = mm at hm ⊢
    simp [f_is_number, b_is_number, runF, sSeq, sIf, sNext, sDrop, sRet, sRetN, sAsg, ofRes, ofB, bName, bNil, bCons, bTup, bLst, bSubL, mTest, mOp, mVar, mC, mChain, mAnd, mOr, mNot, mIf, mAndV, mOrV, mNotV, mNeg, mCons, mNil, mTup, mLst, newL, mCall, mFn, arity, g1, g2, gLen, gInt, gAbs, gMax2, gMin2, gIx, seqOf, lsqOf, lstOf, Res.bind, ofO, gAdd_ok, gSub_ok, gEq_int, gNe_int, gLt_int, gLe_int, gGt_int, gGe_int, gEq_bl, gNe_bl, gEq_str, gNe_str, mIsi, mIsiT, tyD, kitL, kitTab, atI_c0, atI_c1, atI_c2, atI_c3, atI_c4, sForR1, int1, int2, mMeth, mMake, mFld, sFldM, gIs, gIsNot, isNon_t, sRaise, gList, newLO, h0, h, hm]
theorem read_ok {w : Str} {O : Store} (hw : w.length ≤ 900) : f_read_number [.str w, .int 0, .int 1000000] O = if numW w = true then .ok (.int (valW w)) O else .exc ⟨"InvalidNumber", none⟩ O := by
  have hl : w.length ≤ 1000000 := by omega
  unfold numW figB
  by_cases h1 : 1 ≤ (w.length : Int)
  · by_cases h2 : (w.length : Int) ≤ 7
    · cases hc : allIn FIG w.cps.toList
      · obtain ⟨L', e2⟩ := loop_signs_no (i := 3) (cs := FIG) (bad := sRaise "InvalidNumber" (mCons (mC (.str "no number")) mNil)) (fun L O => .inr ⟨_, rfl⟩) w.cps.toList [some (.str w), some (.int 0), some (.int 1000000), none] O (by simp) hc
        simp only [signB] at e2
        simp [f_read_number, b_read_number, sForS, chars_eq, runF, sSeq, sIf, sNext, sDrop, sRet, sRetN, sAsg, ofRes, ofB, bName, bNil, bCons, bTup, bLst, bSubL, mTest, mOp, mVar, mC, mChain, mAnd, mOr, mNot, mIf, mAndV, mOrV, mNotV, mNeg, mCons, mNil, mTup, mLst, newL, mCall, mFn, arity, g1, g2, gLen, gInt, gAbs, gMax2, gMin2, gIx, seqOf, lsqOf, lstOf, Res.bind, ofO, gAdd_ok, gSub_ok, gEq_int, gNe_int, gLt_int, gLe_int, gGt_int, gGe_int, gEq_bl, gNe_bl, gEq_str, gNe_str, mIsi, mIsiT, tyD, kitL, kitTab, atI_c0, atI_c1, atI_c2, atI_c3, atI_c4, sForR1, int1, int2, mMeth, mMake, mFld, sFldM, gIs, gIsNot, isNon_t, sRaise, gList, newLO, hl, h1, h2, e2]
      · obtain ⟨hv, v0, _⟩ := val_of hc (by omega) (by omega)
        obtain ⟨d, e2⟩ := loop_signs_ok (i := 3) (cs := FIG) (bad := sRaise "InvalidNumber" (mCons (mC (.str "no number")) mNil)) w.cps.toList [some (.str w), some (.int 0), some (.int 1000000), none] O (by simp) hc
        simp only [signB] at e2
        have hl2 : w.length ≤ 640 := by omega
        have e5 := checked0_ok (O := O) v0
        obtain ⟨c, cs, hcs⟩ : ∃ c cs, w.cps.toList = c :: cs := by
          have := len_list w
          match h : w.cps.toList with
          | [] => rw [h] at this; simp at this; omega
          | c :: cs => exact ⟨c, cs, rfl⟩
        have hx := gIx_str (O := O) (s := w) hl (atI_nat (Int.le_refl 0) (show w.cps.toList[(0 : Int).toNat]? = some c by rw [hcs]; rfl))
        have hh := head_eq hcs
        generalize (⟨#[c]⟩ : Str) = sc at *
        rw [← hcs] at *
        by_cases h3 : 1 < (w.length : Int)
        · have h3' : ¬ (w.length : Int) = 1 := by omega
          by_cases h4 : sc = "0"
          · have hq : headN w = true := by rw [← hh]; exact decide_eq_true h4
            simp [f_read_number, b_read_number, sForS, chars_eq, runF, sSeq, sIf, sNext, sDrop, sRet, sRetN, sAsg, ofRes, ofB, bName, bNil, bCons, bTup, bLst, bSubL, mTest, mOp, mVar, mC, mChain, mAnd, mOr, mNot, mIf, mAndV, mOrV, mNotV, mNeg, mCons, mNil, mTup, mLst, newL, mCall, mFn, arity, g1, g2, gLen, gInt, gAbs, gMax2, gMin2, seqOf, lsqOf, lstOf, Res.bind, ofO, gAdd_ok, gSub_ok, gEq_int, gNe_int, gLt_int, gLe_int, gGt_int, gGe_int, gEq_bl, gNe_bl, gEq_str, gNe_str, mIsi, mIsiT, tyD, kitL, kitTab, atI_c0, atI_c1, atI_c2, atI_c3, atI_c4, sForR1, int1, int2, mMeth, mMake, mFld, sFldM, gIs, gIsNot, isNon_t, sRaise, gList, newLO, hl, h1, h2, e2, h3, h3', hx, h4, hq]
          · have hh : headN w = false := by rw [← hh]; exact decide_eq_false h4
            by_cases h6 : valW w ≤ 1000000 <;> simp only [h6, if_true, if_false] at e5 <;> simp [f_read_number, b_read_number, sForS, chars_eq, runF, sSeq, sIf, sNext, sDrop, sRet, sRetN, sAsg, ofRes, ofB, bName, bNil, bCons, bTup, bLst, bSubL, mTest, mOp, mVar, mC, mChain, mAnd, mOr, mNot, mIf, mAndV, mOrV, mNotV, mNeg, mCons, mNil, mTup, mLst, newL, mCall, mFn, arity, g1, g2, gLen, gInt, gAbs, gMax2, gMin2, seqOf, lsqOf, lstOf, Res.bind, ofO, gAdd_ok, gSub_ok, gEq_int, gNe_int, gLt_int, gLe_int, gGt_int, gGe_int, gEq_bl, gNe_bl, gEq_str, gNe_str, mIsi, mIsiT, tyD, kitL, kitTab, atI_c0, atI_c1, atI_c2, atI_c3, atI_c4, sForR1, int1, int2, mMeth, mMake, mFld, sFldM, gIs, gIsNot, isNon_t, sRaise, gList, newLO, hl, hl2, h1, h2, e2, h3, h3', hx, hh, h4, hv, h6, e5]
        · have h3' : (w.length : Int) = 1 := by omega
          by_cases h6 : valW w ≤ 1000000 <;> simp only [h6, if_true, if_false] at e5 <;> simp [f_read_number, b_read_number, sForS, chars_eq, runF, sSeq, sIf, sNext, sDrop, sRet, sRetN, sAsg, ofRes, ofB, bName, bNil, bCons, bTup, bLst, bSubL, mTest, mOp, mVar, mC, mChain, mAnd, mOr, mNot, mIf, mAndV, mOrV, mNotV, mNeg, mCons, mNil, mTup, mLst, newL, mCall, mFn, arity, g1, g2, gLen, gInt, gAbs, gMax2, gMin2, seqOf, lsqOf, lstOf, Res.bind, ofO, gAdd_ok, gSub_ok, gEq_int, gNe_int, gLt_int, gLe_int, gGt_int, gGe_int, gEq_bl, gNe_bl, gEq_str, gNe_str, mIsi, mIsiT, tyD, kitL, kitTab, atI_c0, atI_c1, atI_c2, atI_c3, atI_c4, sForR1, int1, int2, mMeth, mMake, mFld, sFldM, gIs, gIsNot, isNon_t, sRaise, gList, newLO, hl, hl2, h1, h2, e2, h3, h3', hv, h6, e5]
    · simp [f_read_number, b_read_number, runF, sSeq, sIf, sNext, sDrop, sRet, sRetN, sAsg, ofRes, ofB, bName, bNil, bCons, bTup, bLst, bSubL, mTest, mOp, mVar, mC, mChain, mAnd, mOr, mNot, mIf, mAndV, mOrV, mNotV, mNeg, mCons, mNil, mTup, mLst, newL, mCall, mFn, arity, g1, g2, gLen, gInt, gAbs, gMax2, gMin2, gIx, seqOf, lsqOf, lstOf, Res.bind, ofO, gAdd_ok, gSub_ok, gEq_int, gNe_int, gLt_int, gLe_int, gGt_int, gGe_int, gEq_bl, gNe_bl, gEq_str, gNe_str, mIsi, mIsiT, tyD, kitL, kitTab, atI_c0, atI_c1, atI_c2, atI_c3, atI_c4, sForR1, int1, int2, mMeth, mMake, mFld, sFldM, gIs, gIsNot, isNon_t, sRaise, gList, newLO, hl, h1, h2]
  · simp [f_read_number, b_read_number, runF, sSeq, sIf, sNext, sDrop, sRet, sRetN, sAsg, ofRes, ofB, bName, bNil, bCons, bTup, bLst, bSubL, mTest, mOp, mVar, mC, mChain, mAnd, mOr, mNot, mIf, mAndV, mOrV, mNotV, mNeg, mCons, mNil, mTup, mLst, newL, mCall, mFn, arity, g1, g2, gLen, gInt, gAbs, gMax2, gMin2, gIx, seqOf, lsqOf, lstOf, Res.bind, ofO, gAdd_ok, gSub_ok, gEq_int, gNe_int, gLt_int, gLe_int, gGt_int, gGe_int, gEq_bl, gNe_bl, gEq_str, gNe_str, mIsi, mIsiT, tyD, kitL, kitTab, atI_c0, atI_c1, atI_c2, atI_c3, atI_c4, sForR1, int1, int2, mMeth, mMake, mFld, sFldM, gIs, gIsNot, isNon_t, sRaise, gList, newLO, hl, h1]
theorem law_number_ok {w : Str} {O : Store} (hw : w.length ≤ 900) : f_law_is_number [.str w] O = .ok (.bl (numW w)) O := by
  have hl : w.length ≤ 1000000 := by omega
  have e := lcS_signs (i := 1) (cs := FIG) (w := w) (src := mVar 0) (L := [some (.str w), none]) (O := O) (by simp) rfl (by omega)
  have hz := outOf_zero (cs := FIG) (w := w.cps.toList)
  unfold numW figB
  by_cases h1 : 1 ≤ (w.length : Int)
  · by_cases h2 : (w.length : Int) ≤ 7
    · cases hc : allIn FIG w.cps.toList
      · have hp : 0 < (outOf FIG w.cps.toList).length := Nat.pos_of_ne_zero fun z => by rw [hz.mp z] at hc; cases hc
        simp [f_law_is_number, b_law_is_number, runF, sSeq, sIf, sNext, sDrop, sRet, sRetN, sAsg, ofRes, ofB, bName, bNil, bCons, bTup, bLst, bSubL, mTest, mOp, mVar, mC, mChain, mAnd, mOr, mNot, mIf, mAndV, mOrV, mNotV, mNeg, mCons, mNil, mTup, mLst, newL, mCall, mFn, arity, g1, g2, gLen, gInt, gAbs, gMax2, gMin2, gIx, seqOf, lsqOf, lstOf, Res.bind, ofO, gAdd_ok, gSub_ok, gEq_int, gNe_int, gLt_int, gLe_int, gGt_int, gGe_int, gEq_bl, gNe_bl, gEq_str, gNe_str, mIsi, mIsiT, tyD, kitL, kitTab, atI_c0, atI_c1, atI_c2, atI_c3, atI_c4, sForR1, int1, int2, mMeth, mMake, mFld, sFldM, gIs, gIsNot, isNon_t, sRaise, gList, newLO, hl, h1, h2, e, hp]
      · have hp : ¬ 0 < (outOf FIG w.cps.toList).length := by rw [hz.mpr hc]; decide
        obtain ⟨hv, v0, _⟩ := val_of hc (by omega) (by omega)
        have hl2 : w.length ≤ 640 := by omega
        obtain ⟨c, cs, hcs⟩ : ∃ c cs, w.cps.toList = c :: cs := by
          have := len_list w
          match h : w.cps.toList with
          | [] => rw [h] at this; simp at this; omega
          | c :: cs => exact ⟨c, cs, rfl⟩
        have hx := gIx_str (O := O) (s := w) hl (atI_nat (Int.le_refl 0) (show w.cps.toList[(0 : Int).toNat]? = some c by rw [hcs]; rfl))
        have hh := head_eq hcs
        generalize (⟨#[c]⟩ : Str) = sc at *
        by_cases h3 : (w.length : Int) = 1
        · by_cases h6 : valW w ≤ 1000000 <;> simp [f_law_is_number, b_law_is_number, runF, sSeq, sIf, sNext, sDrop, sRet, sRetN, sAsg, ofRes, ofB, bName, bNil, bCons, bTup, bLst, bSubL, mTest, mOp, mVar, mC, mChain, mAnd, mOr, mNot, mIf, mAndV, mOrV, mNotV, mNeg, mCons, mNil, mTup, mLst, newL, mCall, mFn, arity, g1, g2, gLen, gInt, gAbs, gMax2, gMin2, seqOf, lsqOf, lstOf, Res.bind, ofO, gAdd_ok, gSub_ok, gEq_int, gNe_int, gLt_int, gLe_int, gGt_int, gGe_int, gEq_bl, gNe_bl, gEq_str, gNe_str, mIsi, mIsiT, tyD, kitL, kitTab, atI_c0, atI_c1, atI_c2, atI_c3, atI_c4, sForR1, int1, int2, mMeth, mMake, mFld, sFldM, gIs, gIsNot, isNon_t, sRaise, gList, newLO, hl, hl2, h1, h2, e, hp, h3, hv, h6]
        · by_cases h4 : sc = "0"
          · have hh : headN w = true := by rw [← hh]; exact decide_eq_true h4
            simp [f_law_is_number, b_law_is_number, runF, sSeq, sIf, sNext, sDrop, sRet, sRetN, sAsg, ofRes, ofB, bName, bNil, bCons, bTup, bLst, bSubL, mTest, mOp, mVar, mC, mChain, mAnd, mOr, mNot, mIf, mAndV, mOrV, mNotV, mNeg, mCons, mNil, mTup, mLst, newL, mCall, mFn, arity, g1, g2, gLen, gInt, gAbs, gMax2, gMin2, seqOf, lsqOf, lstOf, Res.bind, ofO, gAdd_ok, gSub_ok, gEq_int, gNe_int, gLt_int, gLe_int, gGt_int, gGe_int, gEq_bl, gNe_bl, gEq_str, gNe_str, mIsi, mIsiT, tyD, kitL, kitTab, atI_c0, atI_c1, atI_c2, atI_c3, atI_c4, sForR1, int1, int2, mMeth, mMake, mFld, sFldM, gIs, gIsNot, isNon_t, sRaise, gList, newLO, hl, hl2, h1, h2, e, hp, h3, hx, h4, hh]
          · have hh : headN w = false := by rw [← hh]; exact decide_eq_false h4
            by_cases h6 : valW w ≤ 1000000 <;> simp [f_law_is_number, b_law_is_number, runF, sSeq, sIf, sNext, sDrop, sRet, sRetN, sAsg, ofRes, ofB, bName, bNil, bCons, bTup, bLst, bSubL, mTest, mOp, mVar, mC, mChain, mAnd, mOr, mNot, mIf, mAndV, mOrV, mNotV, mNeg, mCons, mNil, mTup, mLst, newL, mCall, mFn, arity, g1, g2, gLen, gInt, gAbs, gMax2, gMin2, seqOf, lsqOf, lstOf, Res.bind, ofO, gAdd_ok, gSub_ok, gEq_int, gNe_int, gLt_int, gLe_int, gGt_int, gGe_int, gEq_bl, gNe_bl, gEq_str, gNe_str, mIsi, mIsiT, tyD, kitL, kitTab, atI_c0, atI_c1, atI_c2, atI_c3, atI_c4, sForR1, int1, int2, mMeth, mMake, mFld, sFldM, gIs, gIsNot, isNon_t, sRaise, gList, newLO, hl, hl2, h1, h2, e, hp, h3, hx, h4, hh, hv, h6]
    · simp [f_law_is_number, b_law_is_number, runF, sSeq, sIf, sNext, sDrop, sRet, sRetN, sAsg, ofRes, ofB, bName, bNil, bCons, bTup, bLst, bSubL, mTest, mOp, mVar, mC, mChain, mAnd, mOr, mNot, mIf, mAndV, mOrV, mNotV, mNeg, mCons, mNil, mTup, mLst, newL, mCall, mFn, arity, g1, g2, gLen, gInt, gAbs, gMax2, gMin2, gIx, seqOf, lsqOf, lstOf, Res.bind, ofO, gAdd_ok, gSub_ok, gEq_int, gNe_int, gLt_int, gLe_int, gGt_int, gGe_int, gEq_bl, gNe_bl, gEq_str, gNe_str, mIsi, mIsiT, tyD, kitL, kitTab, atI_c0, atI_c1, atI_c2, atI_c3, atI_c4, sForR1, int1, int2, mMeth, mMake, mFld, sFldM, gIs, gIsNot, isNon_t, sRaise, gList, newLO, hl, h1, h2]
  · simp [f_law_is_number, b_law_is_number, runF, sSeq, sIf, sNext, sDrop, sRet, sRetN, sAsg, ofRes, ofB, bName, bNil, bCons, bTup, bLst, bSubL, mTest, mOp, mVar, mC, mChain, mAnd, mOr, mNot, mIf, mAndV, mOrV, mNotV, mNeg, mCons, mNil, mTup, mLst, newL, mCall, mFn, arity, g1, g2, gLen, gInt, gAbs, gMax2, gMin2, gIx, seqOf, lsqOf, lstOf, Res.bind, ofO, gAdd_ok, gSub_ok, gEq_int, gNe_int, gLt_int, gLe_int, gGt_int, gGe_int, gEq_bl, gNe_bl, gEq_str, gNe_str, mIsi, mIsiT, tyD, kitL, kitTab, atI_c0, atI_c1, atI_c2, atI_c3, atI_c4, sForR1, int1, int2, mMeth, mMake, mFld, sFldM, gIs, gIsNot, isNon_t, sRaise, gList, newLO, hl, h1]
end DK.Rd
end
section
set_option Elab.async false
set_option linter.all false
set_option autoImplicit false
set_option maxRecDepth 100000
set_option maxHeartbeats 4000000
/-! DKLcK: comprehensions over a list of the store whose tests or elements make objects, in plain Lean. -/
namespace DK.Lc
open PySem L2 DK
theorem strsOf_m : ∀ ys : List Str, strsOf (ys.map D.str) = some ys
  | [] => rfl
  | y :: ys => by
    show (strsOf (ys.map D.str)).map (y :: ·) = _
    rw [strsOf_m ys]
    rfl
theorem seq_next {a b : SM} {L L1 : Loc} {O O1 : Store} (h : a L O = .next L1 O1) : sSeq a b L O = b L1 O1 := by
  unfold sSeq
  rw [h]
theorem seq_ret {a b : SM} {L : Loc} {d : D} {O O1 : Store} (h : a L O = .ret d O1) : sSeq a b L O = .ret d O1 := by
  unfold sSeq
  rw [h]
theorem seq_exc {a b : SM} {L L1 : Loc} {x : Exn} {O O1 : Store} (h : a L O = .exc x L1 O1) : sSeq a b L O = .exc x L1 O1 := by
  unfold sSeq
  rw [h]
theorem lsq_h {O : Store} {n : Nat} {xs : List D} (e : O[n]? = some (.lst xs)) : lsqOf O (.hdl n) = some xs := by
  simp [lsqOf, lstOf, e]
/-! ### loops that stop at the first bad turn -/
theorem loopD_first {turn : D → SM} {I : Nat → Loc → Store → Prop} {good : Nat → Bool} {R : Nat → SR → Prop} (hR : ∀ j r f, R j r → afterT r f = r) : ∀ (ds : List D) (i : Nat) (L : Loc) (O : Store), I i L O →
    (∀ j d L O, ds[j]? = some d → I (i + j) L O → (good (i + j) = true → ∃ L' O', turn d L O = .next L' O' ∧ I (i + j + 1) L' O') ∧ (good (i + j) = false → R (i + j) (turn d L O))) →
    ((∀ j, j < ds.length → good (i + j) = true) ∧ ∃ L' O', loopD turn ds L O = .next L' O' ∧ I (i + ds.length) L' O') ∨ ∃ j, j < ds.length ∧ (∀ j', j' < j → good (i + j') = true) ∧ good (i + j) = false ∧ R (i + j) (loopD turn ds L O)
  | [], i, L, O, h, _ => .inl ⟨fun j hj => absurd hj (Nat.not_lt_zero _), L, O, rfl, h⟩
  | d :: ds, i, L, O, h, k => by
    rw [loopD_cons]
    have k0 := k 0 d L O rfl h
    rw [Nat.add_zero] at k0
    cases hg : good i with
    | false =>
      have r := k0.2 hg
      exact .inr ⟨0, by simp, fun j' hj => absurd hj (Nat.not_lt_zero _), hg, by rw [Nat.add_zero, hR _ _ _ r]; exact r⟩
    | true =>
      obtain ⟨L1, O1, e, h1⟩ := k0.1 hg
      rw [e]
      have := loopD_first (turn := turn) (I := I) (good := good) (R := R) hR ds (i + 1) L1 O1 h1 fun j d' L O hd hI => by
        have := k (j + 1) d' L O hd (by rw [show i + (j + 1) = i + 1 + j by omega]; exact hI)
        rw [show i + (j + 1) = i + 1 + j by omega] at this
        exact this
      rcases this with ⟨g1, L', O', e1, h2⟩ | ⟨j, hj, g1, g2, r⟩
      · refine .inl ⟨fun j hj => ?_, L', O', e1, by rw [show i + (d :: ds).length = i + 1 + ds.length by rw [List.length_cons]; omega]; exact h2⟩
        cases j with
        | zero => exact hg
        | succ j =>
          rw [show i + (j + 1) = i + 1 + j by omega]
          exact g1 j (by rw [List.length_cons] at hj; omega)
      · refine .inr ⟨j + 1, by rw [List.length_cons]; omega, fun j' hj' => ?_, by rw [show i + (j + 1) = i + 1 + j by omega]; exact g2, by rw [show i + (j + 1) = i + 1 + j by omega]; exact r⟩
        cases j' with
        | zero => exact hg
        | succ j' =>
          rw [show i + (j' + 1) = i + 1 + j' by omega]
          exact g1 j' (by omega)
theorem range_at {a : Int} {n i : Nat} {d : D} (h : (rangeD a n)[i]? = some d) : i < n ∧ d = .int (a + (i : Int)) := by
  have hl := (List.getElem?_eq_some_iff.mp h).1
  rw [rangeD_len] at hl
  unfold rangeD at h
  rw [List.getElem?_map, List.getElem?_range hl] at h
  exact ⟨hl, (Option.some.inj h).symm⟩
theorem forR1_first {t : AM} {b : BM} {body : SM} {I : Nat → Loc → Store → Prop} {good : Nat → Bool} {R : Nat → SR → Prop} {L : Loc} {O O1 : Store} {n : Nat} (ht : t L O = .ok [.int (n : Int)] O1) (h1 : n ≤ 1000000) (hI : I 0 L O1) (hR : ∀ j r f, R j r → afterT r f = r)
    (st : ∀ (i : Nat) L O, i < n → I i L O → (good i = true → ∃ L' O', turnOf b body (.int (i : Int)) L O = .next L' O' ∧ I (i + 1) L' O') ∧ (good i = false → R i (turnOf b body (.int (i : Int)) L O))) :
    ((∀ i, i < n → good i = true) ∧ ∃ L' O', sForR1 t b body L O = .next L' O' ∧ I n L' O') ∨ ∃ i, i < n ∧ (∀ j, j < i → good j = true) ∧ good i = false ∧ R i (sForR1 t b body L O) := by
  have e : sForR1 t b body L O = loopD (turnOf b body) (rangeD 0 n) L O1 := by
    show ofRes L (t L O) (fun ds O1 => match int1 ds with
      | some j => loopD (turnOf b body) (rangeD 0 j.toNat) L O1
      | none => .bad) = _
    rw [ht]
    show (match int1 [.int (n : Int)] with
      | some j => loopD (turnOf b body) (rangeD 0 j.toNat) L O1
      | none => .bad) = _
    rw [show int1 [.int (n : Int)] = some (n : Int) by simp [int1]; omega]
    rfl
  rw [e]
  have := loopD_first (turn := turnOf b body) (I := I) (good := good) (R := R) hR (rangeD 0 n) 0 L O1 hI fun j d L O hd hI => by
    obtain ⟨hj, rfl⟩ := range_at hd
    rw [Nat.zero_add] at hI ⊢
    rw [Int.zero_add]
    exact st j L O hj hI
  rw [rangeD_len, Nat.zero_add] at this
  rcases this with ⟨g, h⟩ | ⟨j, hj, g1, g2, r⟩
  · exact .inl ⟨fun i hi => by have := g i hi; rwa [Nat.zero_add] at this, h⟩
  · rw [Nat.zero_add] at g2 r
    exact .inr ⟨j, hj, fun j' h => by have := g1 j' h; rwa [Nat.zero_add] at this, g2, r⟩
theorem forR2_first {t : AM} {b : BM} {body : SM} {I : Nat → Loc → Store → Prop} {good : Nat → Bool} {R : Nat → SR → Prop} {L : Loc} {O O1 : Store} {a n : Nat} (ht : t L O = .ok [.int (a : Int), .int (n : Int)] O1) (ha : a ≤ n) (h1 : n ≤ 1000000) (hI : I a L O1) (hR : ∀ j r f, R j r → afterT r f = r)
    (st : ∀ (i : Nat) L O, a ≤ i → i < n → I i L O → (good i = true → ∃ L' O', turnOf b body (.int (i : Int)) L O = .next L' O' ∧ I (i + 1) L' O') ∧ (good i = false → R i (turnOf b body (.int (i : Int)) L O))) :
    ((∀ i, a ≤ i → i < n → good i = true) ∧ ∃ L' O', sForR2 t b body L O = .next L' O' ∧ I n L' O') ∨ ∃ i, a ≤ i ∧ i < n ∧ (∀ j, a ≤ j → j < i → good j = true) ∧ good i = false ∧ R i (sForR2 t b body L O) := by
  have e : sForR2 t b body L O = loopD (turnOf b body) (rangeD (a : Int) (n - a)) L O1 := by
    show ofRes L (t L O) (fun ds O1 => match int2 ds with
      | some p => loopD (turnOf b body) (rangeD p.1 (p.2 - p.1).toNat) L O1
      | none => .bad) = _
    rw [ht]
    show (match int2 [.int (a : Int), .int (n : Int)] with
      | some p => loopD (turnOf b body) (rangeD p.1 (p.2 - p.1).toNat) L O1
      | none => .bad) = _
    rw [show int2 [.int (a : Int), .int (n : Int)] = some ((a : Int), (n : Int)) by simp [int2]; omega]
    show loopD (turnOf b body) (rangeD (a : Int) ((n : Int) - (a : Int)).toNat) L O1 = _
    rw [show ((n : Int) - (a : Int)).toNat = n - a by omega]
  rw [e]
  have := loopD_first (turn := turnOf b body) (I := fun i => I i) (good := good) (R := R) hR (rangeD (a : Int) (n - a)) a L O1 hI fun j d L O hd hI => by
    obtain ⟨hj, rfl⟩ := range_at hd
    rw [show ((a : Int) + (j : Int)) = (((a + j : Nat)) : Int) by omega]
    exact st (a + j) L O (by omega) (by omega) hI
  rw [rangeD_len, show a + (n - a) = n by omega] at this
  rcases this with ⟨g, h⟩ | ⟨j, hj, g1, g2, r⟩
  · exact .inl ⟨fun i h1 h2 => by have := g (i - a) (by omega); rwa [show a + (i - a) = i by omega] at this, h⟩
  · exact .inr ⟨a + j, by omega, by omega, fun j' h1 h2 => by have := g1 (j' - a) (by omega); rwa [show a + (j' - a) = j' by omega] at this, g2, r⟩
end DK.Lc
end
section
set_option Elab.async false
set_option linter.all false
set_option autoImplicit false
set_option maxRecDepth 100000
set_option maxHeartbeats 4000000
/-! DKRdB: numbers told and read again; texts of lines, in plain Lean. -/
namespace DK.Rd
open PySem L2 DK DK.Sp DK.Lc
/-! ### numbers -/
abbrev strN (v : Int) : Str := (toString v : String)
theorem dig_nat : ∀ d : Fin 10, (Nat.digitChar d.val).toNat = d.val + 48 := by decide
theorem dig_ok {m : Nat} {c : Nat} (h : c ∈ (Nat.toDigits 10 m).map Char.toNat) : 48 ≤ c ∧ c ≤ 57 := by
  obtain ⟨ch, hch, rfl⟩ := List.mem_map.mp h
  have r := Nat.isDigit_of_mem_toDigits (by decide) (by decide) hch
  simp only [Char.isDigit, Bool.and_eq_true, decide_eq_true_eq] at r
  have h1 : (48 : Nat) ≤ ch.toNat := r.1
  have h2 : ch.toNat ≤ 57 := r.2
  exact ⟨h1, h2⟩
theorem head_num : ∀ (m : Nat), 0 < m → ∃ c cs, (Nat.toDigits 10 m).map Char.toNat = c :: cs ∧ c ≠ 48
  | m, h => by
    by_cases hm : m < 10
    · rw [Nat.toDigits_of_lt_base hm]
      refine ⟨_, [], rfl, ?_⟩
      have := dig_nat ⟨m, hm⟩
      simp only at this
      omega
    · obtain ⟨c, cs, e, hc⟩ := head_num (m / 10) (by omega)
      have t : Nat.toDigits 10 (m / 10) ++ Nat.toDigits 10 (m % 10) = Nat.toDigits 10 (10 * (m / 10) + m % 10) := Nat.toDigits_append_toDigits (by decide) (by omega) (Nat.mod_lt m (by decide))
      rw [Nat.div_add_mod] at t
      refine ⟨c, cs ++ (Nat.toDigits 10 (m % 10)).map Char.toNat, ?_, hc⟩
      rw [← t, List.map_append, e]
      rfl
theorem allIn_dig {l : List Nat} (h : ∀ c ∈ l, 48 ≤ c ∧ c ≤ 57) : allIn FIG l = true := by
  unfold allIn
  rw [List.all_eq_true]
  intro c hc
  rw [decide_eq_true_eq, show FIG.cps.toList = [48, 49, 50, 51, 52, 53, 54, 55, 56, 57] from rfl]
  have := h c hc
  simp
  omega
theorem num_fig {v : Int} (h0 : 0 ≤ v) (h1 : v ≤ 1000000) : numW (strN v) = true ∧ valW (strN v) = v := by
  have hv : valW (strN v) = v := by
    unfold valW
    have := PySem.W.KIN.num_reads (n := v) h0 (by omega)
    rw [show strN v = PySem.Str.ofString (toString v) from rfl, this]
    rfl
  obtain ⟨m, rfl⟩ := Int.eq_ofNat_of_zero_le h0
  have hs : (strN (m : Int)).cps.toList = (Nat.toDigits 10 m).map Char.toNat := PySem.W.KIN.signs_num m
  have hl : (strN (m : Int)).length ≤ 7 := PyProof.Rows.toString_length_le h0 (k := 7) (by decide) (by omega)
  have hll := len_list (strN (m : Int))
  have hp : 0 < (strN (m : Int)).length := by
    rw [← hll, hs, List.length_map]
    exact Nat.length_toDigits_pos
  have ha : allIn FIG (strN (m : Int)).cps.toList = true := by
    rw [hs]
    exact allIn_dig fun c hc => dig_ok hc
  refine ⟨?_, hv⟩
  unfold numW figB
  rw [hv, ha]
  have hh : (strN (m : Int)).length = 1 ∨ headN (strN (m : Int)) = false := by
    by_cases hm : m < 10
    · left
      rw [← hll, hs, Nat.toDigits_of_lt_base hm]
      rfl
    · right
      obtain ⟨c, cs, e, hc⟩ := head_num m (by omega)
      unfold headN
      rw [hs, e]
      split
      · rename_i q
        exact absurd (List.cons.inj q).1 hc
      · rfl
  have h2 : 1 ≤ ((strN (m : Int)).length : Int) := by omega
  have h3 : ((strN (m : Int)).length : Int) ≤ 7 := by omega
  rcases hh with hh | hh
  · simp [h2, h3, hh, h1]
  · simp [h2, h3, hh, h1]
theorem numW_free {w : Str} {c : Nat} (h : numW w = true) (hc : c < 48) : c ∉ w.cps.toList := fun hm => by
  unfold numW figB at h
  simp only [Bool.and_eq_true, decide_eq_true_eq] at h
  have := all_digits h.1.2.2.1 c hm
  omega
theorem gStr_ok {O : Store} {v : Int} (h0 : 0 ≤ v) (h1 : v ≤ 10 ^ 12) : gStr O (.int v) = some (.str (strN v), O) := by
  have h2 : v.natAbs.log2 < 1920 := by
    have : v.natAbs < 2 ^ 41 := by omega
    have z : v.natAbs = 0 ∨ v.natAbs ≠ 0 := by omega
    rcases z with z | z
    · rw [z]; decide
    · have := (Nat.log2_lt z).mpr this
      omega
  show (if v.natAbs.log2 < 1920 then _ else none) = _
  rw [if_pos h2]
/-! ### texts of lines -/
def txt (A : List Str) : Str := Txt.join Str.empty (A.map fun (p : Str) => p ++ one 10)
theorem txt_list {A : List Str} : (txt A).cps.toList = A.flatMap fun p => p.cps.toList ++ [10] := by
  show (Builtin.Str.glued Str.empty (A.map fun (p : Str) => p ++ one 10)).cps.toList = _
  rw [StrLaws.glued_eq_join, join_flat, List.flatMap_map]
  congr 1
  funext p
  rw [Str.cps_append, Array.toList_append]
theorem empty_free {c : Nat} : c ∉ Str.empty.cps.toList := by simp [Str.empty]
theorem free_snoc {c : Nat} {A : List Str} {l : Str} (hf : free c A) (hl : c ∉ l.cps.toList) : free c (A ++ [l]) := fun p hp => by
  rcases List.mem_append.mp hp with hp | hp
  · exact hf p hp
  · rw [List.mem_singleton.mp hp]
    exact hl
theorem txt_split {A : List Str} (hf : free 10 A) : Txt.split (txt A) (one 10) = A ++ [Str.empty] := split_is (by simp) (free_snoc hf empty_free) (by rw [jn_flat, txt_list])
theorem txt_length {A : List Str} : (txt A).length = (A.map fun (p : Str) => p.length + 1).sum := by
  rw [← len_list, txt_list, List.length_flatMap]
  congr 1
  refine List.map_congr_left fun p _ => ?_
  rw [List.length_append, len_list]
  rfl
theorem sum_le' {m : Nat} : ∀ {ys : List Str}, (∀ p ∈ ys, p.length ≤ m) → (ys.map fun (p : Str) => p.length + 1).sum ≤ ys.length * (m + 1)
  | [], _ => by simp
  | y :: ys, h => by
    have h1 := h y List.mem_cons_self
    have h2 := sum_le' (ys := ys) fun p hp => h p (List.mem_cons_of_mem _ hp)
    rw [List.map_cons, List.sum_cons, List.length_cons, Nat.succ_mul]
    omega
theorem txt_len {A : List Str} {m : Nat} (h : ∀ p ∈ A, p.length ≤ m) : (txt A).length ≤ A.length * (m + 1) := by
  rw [txt_length]
  exact sum_le' h
theorem txt_ne {A : List Str} (h : A ≠ []) : txt A ≠ "" := fun e => by
  have := congrArg (fun s : Str => s.cps.toList) e
  simp only [txt_list] at this
  cases A with
  | nil => exact h rfl
  | cons a A =>
    rw [List.flatMap_cons] at this
    have z : (("" : Str)).cps.toList = [] := rfl
    rw [z] at this
    simp at this
section
variable {O O1 : Store} {L : Loc} {A : List Str} {x l : Str} {d : D}
/-- [line + newline for line in lines] -/
theorem lcNl {src : EM} {i : Nat} (hs : src L O = .ok d O1) (hd : lsqOf O1 d = some (A.map .str)) (hi : i < L.length) (hA : A.length ≤ 1000) (hp : ∀ p ∈ A, p.length ≤ 1000) : mLcL false src [i] (bName i) mYes (mOp (gAdd false) (mVar i) (mC (.str "\n"))) L O = .ok (.lst ((A.map fun (p : Str) => p ++ one 10).map .str)) O1 := by
  have e := lcL_pure (src := src) (vs := [i]) (b := bName i) (tt := mYes) (el := mOp (gAdd false) (mVar i) (mC (.str "\n"))) (L := L) (O := O) (O1 := O1) (d := d) (ds := A.map .str) (fun d => match d with | .str p => some (.str (p ++ one 10)) | _ => none) hs hd (by rw [List.length_map]; omega) fun d' hd' => by
    obtain ⟨p, hpm, rfl⟩ := List.mem_map.mp hd'
    have hl := hp p hpm
    refine ⟨(wipeL L [i]).set i (some (.str p)), ?_, .inl ⟨.str (p ++ one 10), rfl, ?_, rfl⟩⟩
    · have : i < (wipeL L [i]).length := by simpa [wipeL] using hi
      simp [bName, this]
    · have hv : ((wipeL L [i]).set i (some (.str p)))[i]? = some (some (.str p)) := by
        rw [List.getElem?_set_self (by simpa [wipeL] using hi)]
      have ad : gAdd false O1 (.str p) (.str "\n") = some (.str (p ++ one 10), O1) := by
        rw [gAdd_str (by show p.length + 1 ≤ _; omega)]
        rfl
      simp [mOp, mVar, mC, Res.bind, ofO, hv, ad]
  rw [e]
  congr 2
  clear e hd hA hp
  induction A with
  | nil => rfl
  | cons a A ih =>
    rw [List.map_cons, List.filterMap_cons]
    simp only
    rw [ih]
    rfl
theorem join_txt (hA : A.length ≤ 1000) (hp : ∀ p ∈ A, p.length ≤ 1000) : gJoin O ("" : Str) [.lst ((A.map fun (p : Str) => p ++ one 10).map .str)] = some (.str (txt A), O) := by
  show (match strsOf ((A.map fun (p : Str) => p ++ one 10).map D.str) with
    | some ys => if (ys.map fun (y : Str) => y.length).sum + ys.length * ("" : Str).length ≤ 16777216 then some (D.str (Txt.join ("" : Str) ys), O) else none
    | none => none) = _
  rw [strsOf_m]
  have hs := sum_le (m := 1001) (ys := A.map fun (p : Str) => p ++ one 10) fun p hp' => by
    obtain ⟨q, hq, rfl⟩ := List.mem_map.mp hp'
    rw [Str.length_append]
    have := hp q hq
    show q.length + 1 ≤ 1001
    omega
  rw [List.length_map] at hs
  have hm : A.length * 1001 ≤ 1000 * 1001 := Nat.mul_le_mul_right _ hA
  simp only [show ("" : Str).length = 0 from rfl, Nat.mul_zero, Nat.add_zero]
  rw [if_pos (by omega)]
  rfl
theorem gs10 (hx : x.length ≤ 900000) (e : Txt.split x (one 10) = A ++ [l]) : gSplit false O x [.str "\n"] = some (.lst (A.map .str ++ [.str l]), O) := by
  have sl := split_len (c := 10) (x := x)
  show (if (("\n" : Str).length == 0) = false ∧ x.length ≤ 1000000 then rows false (Txt.split x "\n") O else none) = _
  rw [if_pos ⟨rfl, by omega⟩]
  show newLO false _ O = _
  unfold newLO
  rw [show ("\n" : Str) = one 10 from rfl, if_pos (by rw [List.length_map]; omega), e, List.map_append]
  rfl
theorem gs32 (hx : x.length ≤ 900000) : gSplit false O x [.str " "] = some (.lst ((Txt.split x (one 32)).map .str), O) := by
  have sl := split_len (c := 32) (x := x)
  show (if ((" " : Str).length == 0) = false ∧ x.length ≤ 1000000 then rows false (Txt.split x " ") O else none) = _
  rw [if_pos ⟨rfl, by omega⟩]
  show newLO false _ O = _
  unfold newLO
  rw [show (" " : Str) = one 32 from rfl, if_pos (by rw [List.length_map]; omega)]
  rfl
theorem words_ok (hx : x.length ≤ 900000) : f_words [.str x] O = .ok (.lst ((Txt.split x (one 32)).map .str)) O := by
  have e := gs32 (O := O) hx
  simp [f_words, b_words, mBS, runF, sSeq, sIf, sNext, sDrop, sRet, sRetN, sAsg, ofRes, ofB, bName, bNil, bCons, bTup, bLst, bSubL, mTest, mOp, mVar, mC, mChain, mAnd, mOr, mNot, mIf, mAndV, mOrV, mNotV, mNeg, mCons, mNil, mTup, mLst, newL, mCall, mFn, arity, g1, g2, gLen, gInt, gAbs, gMax2, gMin2, seqOf, lsqOf, lstOf, Res.bind, ofO, gAdd_ok, gSub_ok, gEq_int, gNe_int, gLt_int, gLe_int, gGt_int, gGe_int, gEq_bl, gNe_bl, gEq_str, gNe_str, mIsi, mIsiT, tyD, kitL, kitTab, atI_c0, atI_c1, atI_c2, atI_c3, atI_c4, sForR1, int1, int2, mMeth, mMake, mFld, sFldM, gIs, gIsNot, isNon_t, sRaise, gList, newLO, e]
theorem atI_snoc {ys : List D} {x : D} : atI (ys ++ [x]) (-1) = some x := by
  unfold atI ixN
  simp
  rw [if_pos (by omega)]
  have e : (-1 + ((ys.length : Int) + 1)).toNat = ys.length := by omega
  show (ys ++ [x])[(-1 + ((ys.length : Int) + 1)).toNat]? = _
  rw [e, List.getElem?_append_right (Nat.le_refl _), Nat.sub_self]
  rfl
theorem ixl_snoc {ys : List D} {z : D} : gIx O (.lst (ys ++ [z])) (.int (-1)) = some (z, O) := by
  have h := atI_snoc (ys := ys) (x := z)
  show (match atI (ys ++ [z]) (-1) with | some d => some (d, O) | none => none) = _
  rw [h]
theorem cut_last {α : Type} {ys : List α} {z : α} : cutD (ys ++ [z]) none (some (-1)) = ys := by
  unfold cutD
  rw [show HT.sIx (ys ++ [z]).length 0 none = 0 from rfl]
  show ((ys ++ [z]).drop 0).take ((if (-1 : Int) < 0 then ((-1 : Int) + ((ys ++ [z]).length : Int)).toNat else min (-1 : Int).toNat (ys ++ [z]).length) - 0) = _
  rw [if_pos (by decide), List.drop_zero, Nat.sub_zero, List.length_append, List.length_singleton, show ((-1 : Int) + ((ys.length + 1 : Nat) : Int)).toNat = ys.length by omega]
  simp
theorem slice_last {ys : List D} {z : D} (hl : ys.length ≤ 900000) : gSl false (.lst (ys ++ [z])) none (some (-1)) O = .ok (.lst ys) O := by
  show newL false (cutD (ys ++ [z]) none (some (-1))) O = _
  rw [cut_last]
  unfold newL
  rw [if_pos (by omega)]
  rfl
theorem lines_of_nil : f_lines_of [.str ""] O = .ok (.lst []) O := by
  simp [f_lines_of, b_lines_of, runF, sSeq, sIf, sNext, sDrop, sRet, sRetN, sAsg, ofRes, ofB, bName, bNil, bCons, bTup, bLst, bSubL, mTest, mOp, mVar, mC, mChain, mAnd, mOr, mNot, mIf, mAndV, mOrV, mNotV, mNeg, mCons, mNil, mTup, mLst, newL, mCall, mFn, arity, g1, g2, gLen, gInt, gAbs, gMax2, gMin2, gIx, seqOf, lsqOf, lstOf, Res.bind, ofO, gAdd_ok, gSub_ok, gEq_int, gNe_int, gLt_int, gLe_int, gGt_int, gGe_int, gEq_bl, gNe_bl, gEq_str, gNe_str, mIsi, mIsiT, tyD, kitL, kitTab, atI_c0, atI_c1, atI_c2, atI_c3, atI_c4, sForR1, int1, int2, mMeth, mMake, mFld, sFldM, gIs, gIsNot, isNon_t, sRaise, gList, newLO]
theorem lines_ok (hf : free 10 A) (hA : A.length ≤ 500) (hp : ∀ p ∈ A, p.length ≤ 1000) : f_lines_of [.str (txt A)] O = .ok (.lst (A.map .str)) O := by
  by_cases h0 : A = []
  · subst h0
    exact lines_of_nil
  · have hn := txt_ne h0
    have hl := txt_len hp
    have hm : A.length * 1001 ≤ 500 * 1001 := Nat.mul_le_mul_right _ hA
    have g := gs10 (O := O) (by omega) (txt_split hf)
    have i := ixl_snoc (O := O) (ys := A.map .str) (z := .str Str.empty)
    have s := slice_last (O := O) (ys := A.map .str) (z := .str Str.empty) (by rw [List.length_map]; omega)
    have e0 : (Str.empty = ("" : Str)) = True := eq_true rfl
    generalize A.map D.str ++ [.str Str.empty] = zs at *
    generalize A.map D.str = za at *
    generalize txt A = x at *
    simp [f_lines_of, b_lines_of, mBS, mSl, oNone, oSome, runF, sSeq, sIf, sNext, sDrop, sRet, sRetN, sAsg, ofRes, ofB, bName, bNil, bCons, bTup, bLst, bSubL, mTest, mOp, mVar, mC, mChain, mAnd, mOr, mNot, mIf, mAndV, mOrV, mNotV, mNeg, mCons, mNil, mTup, mLst, newL, mCall, mFn, arity, g1, g2, gLen, gInt, gAbs, gMax2, gMin2, seqOf, lsqOf, lstOf, Res.bind, ofO, gAdd_ok, gSub_ok, gEq_int, gNe_int, gLt_int, gLe_int, gGt_int, gGe_int, gEq_bl, gNe_bl, gEq_str, gNe_str, mIsi, mIsiT, tyD, kitL, kitTab, atI_c0, atI_c1, atI_c2, atI_c3, atI_c4, sForR1, int1, int2, mMeth, mMake, mFld, sFldM, gIs, gIsNot, isNon_t, sRaise, gList, newLO, g, i, s, hn, e0]
theorem num_small {k : Nat} (hk : k < 1000) : (strN ((k : Nat) : Int)).length ≤ 10 ∧ ((k : Nat) : Int).natAbs.log2 < 1920 := by
  have key : ∀ j : Fin 1000, ((strN ((j.val : Nat) : Int)).length ≤ 10 ∧ ((j.val : Nat) : Int).natAbs.log2 < 1920) := by decide +kernel
  exact key ⟨k, hk⟩
theorem xline_ok {k : Nat} (hk : k < 1000) : x_InvalidLine [.int (k : Int)] O = some ([(("line" : Str), D.int (k : Int))], O) := by
  obtain ⟨h1, h2⟩ := num_small hk
  have l5 : ("line " : Str).length = 5 := by decide +kernel
  have g1' : gStr O (.int (k : Int)) = some (.str (strN ((k : Nat) : Int)), O) := by
    show (if ((k : Nat) : Int).natAbs.log2 < 1920 then _ else none) = _
    rw [if_pos h2]
  have g2' := gAdd_str (O := O) (h := false) (a := "line ") (b := strN ((k : Nat) : Int)) (by omega)
  generalize strN ((k : Nat) : Int) = ts at *
  have e : m_invalidline_init (iniL ["self", "line"] [.int (k : Int)]) O = .ok (.str ("line " ++ ts)) O := by
    show m_invalidline_init [none, some (.int (k : Int))] O = _
    simp [m_invalidline_init, mOp, mC, mCall, DK.g1, mCons, mNil, mVar, ofRes, Res.bind, ofO, g1', g2']
  unfold x_InvalidLine mkOne
  rw [e]
  rfl
theorem lines_open (hx : x.length ≤ 900000) (h0 : x ≠ "") (hl : l ≠ "") (e : Txt.split x (one 10) = A ++ [l]) (hA : A.length < 900) : f_lines_of [.str x] O = .exc ⟨"InvalidLine", some [("line", .int ((A.length + 1 : Nat) : Int))]⟩ O := by
  have g := gs10 (O := O) hx e
  have i := ixl_snoc (O := O) (ys := A.map .str) (z := .str l)
  have hz : (A.map D.str ++ [D.str l]).length = A.length + 1 := by simp
  have xl := xline_ok (O := O) (k := A.length + 1) (by omega)
  generalize A.map D.str ++ [D.str l] = zs at *
  generalize A.length + 1 = k at *
  simp [f_lines_of, b_lines_of, mBS, sRaiseX, runF, sSeq, sIf, sNext, sDrop, sRet, sRetN, sAsg, ofRes, ofB, bName, bNil, bCons, bTup, bLst, bSubL, mTest, mOp, mVar, mC, mChain, mAnd, mOr, mNot, mIf, mAndV, mOrV, mNotV, mNeg, mCons, mNil, mTup, mLst, newL, mCall, mFn, arity, g1, g2, gLen, gInt, gAbs, gMax2, gMin2, seqOf, lsqOf, lstOf, Res.bind, ofO, gAdd_ok, gSub_ok, gEq_int, gNe_int, gLt_int, gLe_int, gGt_int, gGe_int, gEq_bl, gNe_bl, gEq_str, gNe_str, mIsi, mIsiT, tyD, kitL, kitTab, atI_c0, atI_c1, atI_c2, atI_c3, atI_c4, sForR1, int1, int2, mMeth, mMake, mFld, sFldM, gIs, gIsNot, isNon_t, sRaise, gList, newLO, g, i, h0, hl, hz, xl]
end
end DK.Rd
end
section
set_option Elab.async false
set_option linter.all false
set_option autoImplicit false
set_option maxRecDepth 100000
set_option maxHeartbeats 4000000
/-! DKEq: == of values that stand as they are, in plain Lean. -/
namespace DK
open PySem L2
mutual
def pdD : D → PyData
  | .non => .none
  | .bl b => .bool b
  | .int i => .int i
  | .str s => .str s
  | .lst xs => .list (pdAll xs)
  | .rol xs => .list (pdAll xs)
  | .tup xs => .tuple (pdAll xs)
  | .hdl _ => .none
def pdAll : List D → List PyData
  | [] => []
  | x :: xs => pdD x :: pdAll xs
end
mutual
/-- no object of the store within, at most n deep -/
def okV : D → Nat → Bool
  | .non, _ => true
  | .bl _, _ => true
  | .int _, _ => true
  | .str s, _ => PySem.PyData.strOk s
  | .lst xs, n => okAll xs (n - 1) && decide (0 < n)
  | .rol xs, n => okAll xs (n - 1) && decide (0 < n)
  | .tup xs, n => okAll xs (n - 1) && decide (0 < n)
  | .hdl _, _ => false
def okAll : List D → Nat → Bool
  | [], _ => true
  | x :: xs, n => okV x n && okAll xs n
end
mutual
theorem deep_pd (O : Store) : ∀ (d : D) (n : Nat), okV d n = true → deep O (n + 1) d = some (pdD d)
  | .non, n, _ => rfl
  | .bl _, n, _ => rfl
  | .int _, n, _ => rfl
  | .str _, n, _ => rfl
  | .hdl _, n, h => by cases h
  | .lst xs, n, h => by
    obtain ⟨h1, h2⟩ := Bool.and_eq_true_iff.mp (show (okAll xs (n - 1) && decide (0 < n)) = true from h)
    have h2 := of_decide_eq_true h2
    show (xs.mapM (deep O n)).map PyData.list = _
    have := deep_pdAll O xs (n - 1) h1
    rw [show n - 1 + 1 = n by omega] at this
    rw [this]
    rfl
  | .rol xs, n, h => by
    obtain ⟨h1, h2⟩ := Bool.and_eq_true_iff.mp (show (okAll xs (n - 1) && decide (0 < n)) = true from h)
    have h2 := of_decide_eq_true h2
    show (xs.mapM (deep O n)).map PyData.list = _
    have := deep_pdAll O xs (n - 1) h1
    rw [show n - 1 + 1 = n by omega] at this
    rw [this]
    rfl
  | .tup xs, n, h => by
    obtain ⟨h1, h2⟩ := Bool.and_eq_true_iff.mp (show (okAll xs (n - 1) && decide (0 < n)) = true from h)
    have h2 := of_decide_eq_true h2
    show (xs.mapM (deep O n)).map PyData.tuple = _
    have := deep_pdAll O xs (n - 1) h1
    rw [show n - 1 + 1 = n by omega] at this
    rw [this]
    rfl
theorem deep_pdAll (O : Store) : ∀ (ds : List D) (n : Nat), okAll ds n = true → ds.mapM (deep O (n + 1)) = some (pdAll ds)
  | [], n, _ => by simp [pdAll]
  | d :: ds, n, h => by
    obtain ⟨h1, h2⟩ := Bool.and_eq_true_iff.mp (show (okV d n && okAll ds n) = true from h)
    rw [mapM_cons, deep_pd O d n h1]
    show (ds.mapM (deep O (n + 1))).bind _ = _
    rw [deep_pdAll O ds n h2]
    rfl
end
mutual
theorem shape_pd : ∀ (d : D) (n : Nat), okV d n = true → (pdD d).canLay0 = true ∧ (pdD d).depth ≤ n
  | .non, n, _ => ⟨rfl, Nat.zero_le _⟩
  | .bl _, n, _ => ⟨rfl, Nat.zero_le _⟩
  | .int _, n, _ => ⟨rfl, Nat.zero_le _⟩
  | .str s, n, h => ⟨by simpa [pdD, PyData.canLay0, okV] using h, Nat.zero_le _⟩
  | .hdl _, n, h => by cases h
  | .lst xs, n, h => by
    obtain ⟨h1, h2⟩ := Bool.and_eq_true_iff.mp (show (okAll xs (n - 1) && decide (0 < n)) = true from h)
    have h2 := of_decide_eq_true h2
    obtain ⟨q1, q2⟩ := shape_pdAll xs (n - 1) h1
    exact ⟨by simpa [pdD, PyData.canLay0] using q1, by simp only [pdD, PyData.depth]; omega⟩
  | .rol xs, n, h => by
    obtain ⟨h1, h2⟩ := Bool.and_eq_true_iff.mp (show (okAll xs (n - 1) && decide (0 < n)) = true from h)
    have h2 := of_decide_eq_true h2
    obtain ⟨q1, q2⟩ := shape_pdAll xs (n - 1) h1
    exact ⟨by simpa [pdD, PyData.canLay0] using q1, by simp only [pdD, PyData.depth]; omega⟩
  | .tup xs, n, h => by
    obtain ⟨h1, h2⟩ := Bool.and_eq_true_iff.mp (show (okAll xs (n - 1) && decide (0 < n)) = true from h)
    have h2 := of_decide_eq_true h2
    obtain ⟨q1, q2⟩ := shape_pdAll xs (n - 1) h1
    exact ⟨by simpa [pdD, PyData.canLay0] using q1, by simp only [pdD, PyData.depth]; omega⟩
theorem shape_pdAll : ∀ (ds : List D) (n : Nat), okAll ds n = true → PyData.canLayAll0 (pdAll ds) = true ∧ PyData.depthAll (pdAll ds) ≤ n
  | [], n, _ => ⟨by simp [pdAll, PyData.canLayAll0], by simp [pdAll, PyData.depthAll]⟩
  | d :: ds, n, h => by
    obtain ⟨h1, h2⟩ := Bool.and_eq_true_iff.mp (show (okV d n && okAll ds n) = true from h)
    obtain ⟨p1, p2⟩ := shape_pd d n h1
    obtain ⟨q1, q2⟩ := shape_pdAll ds n h2
    exact ⟨by simp [pdAll, PyData.canLayAll0, p1, q1], by simp only [pdAll, PyData.depthAll]; omega⟩
end
theorem shaped_pd {d : D} (h : okV d 29 = true) : SeqAt.shaped (pdD d) = true := by
  obtain ⟨h1, h2⟩ := shape_pd d 29 h
  unfold SeqAt.shaped
  rw [h1]
  simp
  all_goals omega
theorem eqD_pd {O : Store} {x y : D} (hx : okV x 29 = true) (hy : okV y 29 = true) (hf : flatOf x = none ∨ flatOf y = none) : eqD O x y = some (PyData.eqv (pdD x) (pdD y)) := by
  have e : eqD O x y = match deep O 30 x, deep O 30 y with
    | some p, some q => if SeqAt.shaped p = true ∧ SeqAt.shaped q = true then some (PyData.eqv p q) else none
    | _, _ => none := by
    unfold eqD
    rcases hf with hf | hf
    · rw [hf]
      all_goals (cases flatOf y <;> rfl)
    · rw [hf]
      all_goals (cases flatOf x <;> rfl)
  rw [e, deep_pd O x 29 hx, deep_pd O y 29 hy]
  show (if SeqAt.shaped (pdD x) = true ∧ SeqAt.shaped (pdD y) = true then some (PyData.eqv (pdD x) (pdD y)) else none) = _
  rw [if_pos ⟨shaped_pd hx, shaped_pd hy⟩]
theorem eqv_self {x : D} (hx : okV x 29 = true) : PyData.eqv (pdD x) (pdD x) = true := PySem.SeqAt.eqv_refl_plain _ (PyData.plain_of_canLay0 _ (shape_pd x 29 hx).1)
/-- an object of the store reads as its list -/
theorem eqD_hl {O : Store} {n : Nat} {xs : List D} {y : D} (h : O[n]? = some (.lst xs)) : eqD O (.hdl n) y = eqD O (.lst xs) y := by
  have e : deep O 30 (.hdl n) = deep O 30 (.lst xs) := by
    show (match O[n]? with | some (.lst xs) => (xs.mapM (deep O 29)).map PyData.list | _ => none) = _
    rw [h]
    rfl
  unfold eqD
  rw [e]
  rfl
theorem gEq_of {O : Store} {x y : D} {b : Bool} (h : eqD O x y = some b) : gEq O x y = some (.bl b, O) := by unfold gEq; rw [h]
theorem gNe_of {O : Store} {x y : D} {b : Bool} (h : eqD O x y = some b) : gNe O x y = some (.bl (!b), O) := by unfold gNe; rw [h]
theorem gEq_self {O : Store} {x : D} (hx : okV x 29 = true) (hf : flatOf x = none) : gEq O x x = some (.bl true, O) := by rw [gEq_of (eqD_pd hx hx (.inl hf)), eqv_self hx]
theorem gNe_self {O : Store} {x : D} (hx : okV x 29 = true) (hf : flatOf x = none) : gNe O x x = some (.bl false, O) := by rw [gNe_of (eqD_pd hx hx (.inl hf)), eqv_self hx]; rfl
theorem okAll_of {n : Nat} : ∀ {ds : List D}, (∀ d ∈ ds, okV d n = true) → okAll ds n = true
  | [], _ => rfl
  | d :: ds, h => by
    show (okV d n && okAll ds n) = true
    rw [h d (by simp), okAll_of fun x hx => h x (List.mem_cons_of_mem _ hx)]
    rfl
theorem okV_lst {n : Nat} {ds : List D} (h : ∀ d ∈ ds, okV d n = true) : okV (.lst ds) (n + 1) = true := by
  show (okAll ds (n + 1 - 1) && decide (0 < n + 1)) = true
  rw [Nat.add_sub_cancel, okAll_of h]
  simp
theorem okV_tup {n : Nat} {ds : List D} (h : ∀ d ∈ ds, okV d n = true) : okV (.tup ds) (n + 1) = true := by
  show (okAll ds (n + 1 - 1) && decide (0 < n + 1)) = true
  rw [Nat.add_sub_cancel, okAll_of h]
  simp
theorem okV_strs {n : Nat} {xs : List Str} (h : ∀ x ∈ xs, PyData.strOk x = true) : okV (.lst (xs.map .str)) (n + 1) = true := okV_lst fun d hd => by
  obtain ⟨x, hx, rfl⟩ := List.mem_map.mp hd
  exact h x hx
end DK
end
section
set_option Elab.async false
set_option linter.all false
set_option autoImplicit false
set_option maxRecDepth 100000
set_option maxHeartbeats 4000000
/-! DKLn: lines of a text, spoilt lines, in plain Lean. -/
namespace DK.Ln
open PySem L2 DK DK.Sp DK.Rd DK.Lc
theorem app_list (a b : Str) : (a ++ b).cps.toList = a.cps.toList ++ b.cps.toList := by rw [Str.cps_append, Array.toList_append]
theorem strN_len {v : Int} (h0 : 0 ≤ v) (h1 : v ≤ 1000000) : (strN v).length ≤ 7 := PyProof.Rows.toString_length_le h0 (k := 7) (by decide) (by omega)
/-- a line: short, of signs that can be seen, and blanks -/
structure LineOK (m : Nat) (q : Str) : Prop where
  len : q.length ≤ m
  sg : ∀ c ∈ q.cps.toList, 32 ≤ c ∧ c ≤ 126
theorem LineOK.mono {m m' : Nat} {q : Str} (h : LineOK m q) (hm : m ≤ m') : LineOK m' q := ⟨Nat.le_trans h.len hm, h.sg⟩
theorem LineOK.free {m : Nat} {q : Str} (h : LineOK m q) : 10 ∉ q.cps.toList := fun hc => by have := h.sg _ hc; omega
theorem LineOK.ok {m : Nat} {q : Str} (h : LineOK m q) : PyData.strOk q = true := strOk_iff.mpr fun c hc => by have := h.sg c hc; omega
theorem LineOK.app {m n : Nat} {p q : Str} (h : LineOK m p) (g : LineOK n q) : LineOK (m + n) (p ++ q) := ⟨by rw [Str.length_append]; have := h.len; have := g.len; omega, fun c hc => by
  rw [app_list] at hc
  rcases List.mem_append.mp hc with hc | hc
  · exact h.sg c hc
  · exact g.sg c hc⟩
def seen (q : Str) : Bool := q.cps.toList.all fun c => decide (32 ≤ c) && decide (c ≤ 126)
theorem lit_ok {q : Str} (h : seen q = true) : LineOK q.length q := ⟨Nat.le_refl _, fun c hc => by
  have := List.all_eq_true.mp h c hc
  simpa using this⟩
theorem name_sg {w : Str} (h : nameB w = true) : LineOK 12 w := ⟨(nameB_len h).2, fun c hc => by
  unfold nameB at h
  have h3 := (Bool.and_eq_true_iff.mp (Bool.and_eq_true_iff.mp h).2).2
  have := of_decide_eq_true (List.all_eq_true.mp h3 c hc)
  rw [show LET.cps.toList = [97, 98, 99, 100, 101, 102, 103, 104, 105, 106, 107, 108, 109, 110, 111, 112, 113, 114, 115, 116, 117, 118, 119, 120, 121, 122] from rfl] at this
  simp at this
  omega⟩
theorem num_sg {v : Int} (h0 : 0 ≤ v) (h1 : v ≤ 1000000) : LineOK 7 (strN v) := ⟨strN_len h0 h1, fun c hc => by
  have n := (num_fig h0 h1).1
  unfold numW figB at n
  simp only [Bool.and_eq_true, decide_eq_true_eq] at n
  have := all_digits n.1.2.2.1 c hc
  omega⟩
theorem join_mem {z : Str} {q : Nat} : ∀ {ps : List Str}, q ∈ (Str.join z ps).cps.toList → q ∈ z.cps.toList ∨ ∃ p ∈ ps, q ∈ p.cps.toList
  | [], h => by cases h
  | [x], h => .inr ⟨x, List.mem_cons_self, h⟩
  | x :: y :: r, h => by
    have h : q ∈ (x ++ z ++ Str.join z (y :: r)).cps.toList := h
    rw [app_list, app_list] at h
    rcases List.mem_append.mp h with h | h
    · rcases List.mem_append.mp h with h | h
      · exact .inr ⟨x, List.mem_cons_self, h⟩
      · exact .inl h
    · rcases join_mem (ps := y :: r) h with h | ⟨p, hp, h⟩
      · exact .inl h
      · exact .inr ⟨p, List.mem_cons_of_mem _ hp, h⟩
theorem repl_line {m : Nat} {q : Str} (h : LineOK m q) : LineOK (3 * m + 2) (Txt.replace q " " "  ") := by
  refine ⟨?_, fun c hc => ?_⟩
  · have := TK.replace_len q " " "  "
    rw [show (("  " : Str)).length = 2 from rfl] at this
    have := h.len
    omega
  · rw [show Txt.replace q " " "  " = Str.join "  " (Txt.split q (one 32)) from StrLaws.replace_one q "  " 32] at hc
    rcases join_mem hc with hc | ⟨p, hp, hc⟩
    · rw [show (("  " : Str)).cps.toList = [32, 32] from rfl] at hc
      simp at hc
      omega
    · refine h.sg c ?_
      have := part_in (c := 32) hp hc
      unfold jn at this
      rwa [show Str.join (one 32) (Txt.split q (one 32)) = q from StrLaws.join_split q (one 32)] at this
section
variable {O O0 : Store} {b n : Nat} {ls : List Str} {s x : Str} {d : D}
/-- lines, as a value or a list of the store -/
def IsL (O : Store) (d : D) (ls : List Str) : Prop := d = .lst (ls.map .str) ∨ ∃ n, 0 < n ∧ d = .hdl n ∧ O[n]? = some (.lst (ls.map .str))
theorem IsL.fr {O' : Store} (h : IsL O d ls) (f : Fr O O') : IsL O' d ls := by
  rcases h with h | ⟨n, hn, h, g⟩
  · exact .inl h
  · exact .inr ⟨n, hn, h, f.at hn g⟩
theorem IsL.fz {O' : Store} (h : IsL O d ls) (f : Fz O O') : IsL O' d ls := h.fr f.fr
theorem IsL.lsq (h : IsL O d ls) : lsqOf O d = some (ls.map .str) := by
  rcases h with rfl | ⟨n, _, rfl, g⟩
  · rfl
  · exact lsq_h g
theorem IsL.gl (h : IsL O d ls) : gLen O d = some (.int (ls.length : Int), O) := by
  have e := h.lsq
  rcases h with rfl | ⟨n, _, rfl, g⟩
  · simp [gLen, seqOf, e]
  · simp [gLen, g]
theorem IsL.ix {i : Nat} {ln : Str} (h : IsL O d ls) (hi : ls[i]? = some ln) : gIx O d (.int (i : Int)) = some (.str ln, O) := by
  have a : atI (ls.map D.str) (i : Int) = some (.str ln) := atI_nat (by omega) (by rw [Int.toNat_natCast, List.getElem?_map, hi]; rfl)
  rcases h with rfl | ⟨n, _, rfl, g⟩
  · show (match atI (ls.map D.str) (i : Int) with | some d => some (d, O) | none => none) = _
    rw [a]
  · show (match lsqOf O (.hdl n) with | some zs => (match atI zs (i : Int) with | some d => some (d, O) | none => none) | none => none) = _
    rw [lsq_h g]
    simp only [a]
theorem newF {zs : List D} (h : zs.length ≤ 1000) : newL false zs O = .ok (.lst zs) O := by
  unfold newL
  rw [if_pos (by omega)]
  rfl
theorem IsL.to {a : Nat} (h : IsL O d ls) (ha : a ≤ ls.length) (hl : ls.length ≤ 900) : gSl false d none (some (a : Int)) O = .ok (.lst ((ls.take a).map .str)) O := by
  have c : cutD (ls.map D.str) none (some (a : Int)) = (ls.take a).map .str := by
    unfold cutD
    rw [HT.sIx_none, HT.sIx_nat, List.length_map, List.drop_zero, Nat.sub_zero, List.map_take]
    congr 1
    omega
  have nl := newF (O := O) (zs := (ls.take a).map .str) (by rw [List.length_map, List.length_take]; omega)
  rcases h with rfl | ⟨n, _, rfl, g⟩
  · show newL false (cutD (ls.map D.str) none (some (a : Int))) O = _
    rw [c, nl]
  · show (match lsqOf O (.hdl n) with | some zs => newL false (cutD zs none (some (a : Int))) O | none => .bad) = _
    rw [lsq_h g]
    show newL false (cutD (ls.map D.str) none (some (a : Int))) O = _
    rw [c, nl]
theorem IsL.from {a : Nat} (h : IsL O d ls) (ha : a ≤ ls.length) (hl : ls.length ≤ 900) : gSl false d (some (a : Int)) none O = .ok (.lst ((ls.drop a).map .str)) O := by
  have c : cutD (ls.map D.str) (some (a : Int)) none = (ls.drop a).map .str := by
    unfold cutD
    rw [HT.sIx_none, HT.sIx_nat, List.length_map, Nat.min_eq_left ha, List.take_of_length_le (by rw [List.length_drop, List.length_map]; exact Nat.le_refl _), List.map_drop]
  have nl := newF (O := O) (zs := (ls.drop a).map .str) (by rw [List.length_map, List.length_drop]; omega)
  rcases h with rfl | ⟨n, _, rfl, g⟩
  · show newL false (cutD (ls.map D.str) (some (a : Int)) none) O = _
    rw [c, nl]
  · show (match lsqOf O (.hdl n) with | some zs => newL false (cutD zs (some (a : Int)) none) O | none => .bad) = _
    rw [lsq_h g]
    show newL false (cutD (ls.map D.str) (some (a : Int)) none) O = _
    rw [c, nl]
theorem addL {xs ys : List D} (h : xs.length + ys.length ≤ 1000) : gAdd false O (.lst xs) (.lst ys) = some (.lst (xs ++ ys), O) := by
  show newLO false (xs ++ ys) O = _
  unfold newLO
  rw [if_pos (by rw [List.length_append]; omega)]
  rfl
/-- a text of lines without its last newline -/
theorem cut_txt {A : List Str} {l : Str} : cutS (txt (A ++ [l])) none (some (-1)) = Str.join (one 10) (A ++ [l]) := by
  refine str_ext ?_
  show (((txt (A ++ [l])).cps.toList.drop 0).take _).toArray.toList = _
  rw [List.drop_zero]
  have hll := len_list (txt (A ++ [l]))
  have key : (txt (A ++ [l])).cps.toList = (Str.join (one 10) (A ++ [l])).cps.toList ++ [10] := by
    rw [txt_list]
    have := jn_flat (c := 10) (A := A ++ [l])
    rw [← this]
    show jn 10 (A ++ [l] ++ [Str.empty]) = jn 10 (A ++ [l]) ++ [10]
    rw [show A ++ [l] ++ [Str.empty] = A ++ [l, Str.empty] by simp, jn_new]
  have hi : HT.sIx (txt (A ++ [l])).length (txt (A ++ [l])).length (some (-1)) - HT.sIx (txt (A ++ [l])).length 0 none = (Str.join (one 10) (A ++ [l])).cps.toList.length := by
    rw [HT.sIx_none, Nat.sub_zero]
    show (if (-1 : Int) < 0 then ((-1 : Int) + ((txt (A ++ [l])).length : Int)).toNat else min (-1 : Int).toNat (txt (A ++ [l])).length) = _
    rw [if_pos (by decide), ← hll, key, List.length_append, List.length_singleton]
    omega
  rw [hi, key, List.take_left]
theorem IsL.neNil (h : IsL O d ls) (ok : ∀ p ∈ ls, PyData.strOk p = true) : gNe O d (.lst []) = some (.bl (!decide (ls = [])), O) := by
  have q : eqD O (.lst (ls.map .str)) (.lst []) = some (decide (ls = [])) := by
    rw [eqD_pd (okV_strs ok) (by rfl) (.inl rfl)]
    cases ls with
    | nil => rfl
    | cons x xs => rfl
  rcases h with rfl | ⟨n, _, rfl, g⟩
  · exact gNe_of q
  · exact gNe_of (by rw [eqD_hl g]; exact q)
theorem eqLI {v : Int} : gEq O (.lst [.int v]) (.lst [.int v]) = some (.bl true, O) := gEq_self rfl rfl
theorem neLI {v : Int} : gNe O (.lst [.int v]) (.lst [.int v]) = some (.bl false, O) := gNe_self rfl rfl
theorem set_last {y z : Ob} : (O0 ++ [y]).set O0.length z = O0 ++ [z] := by
  rw [List.set_append_right _ _ (Nat.le_refl _), Nat.sub_self]
  rfl
theorem lines_ln {m : Nat} (ok : ∀ p ∈ ls, LineOK m p) (hm : m ≤ 900) (hl : ls.length ≤ 400) : Rd.f_lines_of [.str (txt ls)] O = .ok (.lst (ls.map .str)) O :=
  Rd.lines_ok (fun p hp => (ok p hp).free) (by omega) fun p hp => by have := (ok p hp).len; omega
theorem txt_bnd {m : Nat} (ok : ∀ p ∈ ls, LineOK m p) (hm : m ≤ 900) (hl : ls.length ≤ 401) : (txt ls).length ≤ 900000 := by
  have h1 := txt_len (A := ls) (m := m) fun p hp => (ok p hp).len
  have : ls.length * (m + 1) ≤ 401 * 901 := Nat.mul_le_mul (by omega) (by omega)
  omega
/-- the text without its last newline is refused at its last line -/
theorem lines_cut {m : Nat} {A : List Str} {l : Str} (ok : ∀ p ∈ A ++ [l], LineOK m p) (hm : m ≤ 900) (hl : A.length ≤ 400) (h0 : l ≠ "") : Rd.f_lines_of [.str (cutS (txt (A ++ [l])) none (some (-1)))] O = .exc ⟨"InvalidLine", some [("line", .int ((A.length + 1 : Nat) : Int))]⟩ O := by
  have hf : free 10 (A ++ [l]) := fun p hp => (ok p hp).free
  have hs : Txt.split (cutS (txt (A ++ [l])) none (some (-1))) (one 10) = A ++ [l] := by
    rw [cut_txt]
    exact split_is (by simp) hf rfl
  have hlen : (cutS (txt (A ++ [l])) none (some (-1))).length ≤ 900000 := by
    have h1 := txt_bnd ok hm (by rw [List.length_append, List.length_singleton]; omega)
    have h2 : (cutS (txt (A ++ [l])) none (some (-1))).length ≤ (txt (A ++ [l])).length := by
      rw [← len_list, ← len_list]
      show (((txt (A ++ [l])).cps.toList.drop 0).take _).toArray.toList.length ≤ _
      rw [List.drop_zero]
      show (List.take _ _).length ≤ _
      rw [List.length_take]
      exact Nat.min_le_right _ _
    omega
  have hne : cutS (txt (A ++ [l])) none (some (-1)) ≠ "" := fun e => by
    rw [e] at hs
    have : Txt.split ("" : Str) (one 10) = [("" : Str)] := rfl
    rw [this] at hs
    cases A with
    | nil => exact h0 (List.cons.inj hs).1.symm
    | cons a A => have := congrArg List.length hs; simp at this
  exact Rd.lines_open hlen hne h0 hs (by omega)
theorem slice_cut {m : Nat} (ok : ∀ p ∈ ls, LineOK m p) (hm : m ≤ 900) (hl : ls.length ≤ 400) : gSl false (.str (txt ls)) none (some (-1)) O = .ok (.str (cutS (txt ls) none (some (-1)))) O := by
  have := txt_bnd ok hm (by omega)
  show (if (txt ls).length ≤ 1000000 then Res.ok (D.str (cutS (txt ls) none (some (-1)))) O else .bad) = _
  rw [if_pos (by omega)]
theorem nl_ok {m : Nat} {L : Loc} {src : EM} {i : Nat} (hs : src L O = .ok d O) (h : IsL O d ls) (hi : i < L.length) (hl : ls.length ≤ 400) (ok : ∀ p ∈ ls, LineOK m p) (hm : m ≤ 900) :
    mBS (gJoin) (mC (.str "")) (mCons (mLcL false src [i] (bName i) mYes (mOp (gAdd false) (mVar i) (mC (.str "\n")))) mNil) L O = .ok (.str (txt ls)) O := by
  have hp : ∀ p ∈ ls, p.length ≤ 1000 := fun p hp => by have := (ok p hp).len; omega
  have e := lcNl (src := src) (i := i) (L := L) (O := O) (O1 := O) (d := d) hs h.lsq hi (by omega) hp
  have j := join_txt (O := O) (A := ls) (by omega) hp
  generalize mLcL false src [i] (bName i) mYes (mOp (gAdd false) (mVar i) (mC (.str "\n"))) = lc at *
  generalize (ls.map fun (p : Str) => p ++ one 10).map D.str = zs at *
  generalize txt ls = tt at *
  simp [mBS, runF, sSeq, sIf, sNext, sDrop, sRet, sRetN, sAsg, ofRes, ofB, bName, bNil, bCons, bTup, bLst, bSubL, mTest, mOp, mVar, mC, mChain, mAnd, mOr, mNot, mIf, mAndV, mOrV, mNotV, mNeg, mCons, mNil, mTup, mLst, newL, mCall, mFn, arity, g1, g2, gLen, gInt, gAbs, gMax2, gMin2, seqOf, lsqOf, lstOf, Res.bind, ofO, gAdd_ok, gSub_ok, gEq_int, gNe_int, gLt_int, gLe_int, gGt_int, gGe_int, gEq_bl, gNe_bl, gEq_str, gNe_str, mIsi, mIsiT, tyD, kitL, kitTab, atI_c0, atI_c1, atI_c2, atI_c3, atI_c4, sForR1, int1, int2, mMeth, mMake, mFld, sFldM, gIs, gIsNot, isNon_t, sRaise, gList, newLO, e, j]
end
end DK.Ln
end
section
set_option Elab.async false
set_option linter.all false
set_option autoImplicit false
set_option maxRecDepth 100000
set_option maxHeartbeats 4000000
/-! K48A: a line of a notice, in plain Lean. -/
namespace DK.k48
open PySem L2 DK DK.Sp DK.Rd DK.Lc DK.Ln
theorem y_words : f_words = Rd.f_words := rfl
theorem y_lines : f_lines_of = Rd.f_lines_of := rfl
theorem y_cname : f_checked_name = Rd.f_checked_name := rfl
theorem y_read : f_read_number = Rd.f_read_number := rfl
theorem y_lname : f_law_is_name = Rd.f_law_is_name := rfl
theorem y_lnum : f_law_is_number = Rd.f_law_is_number := rfl
abbrev RN := Str × Option Int
def optN : Option Int → D
  | none => .non
  | some v => .int v
abbrev rnD (r : RN) : D := .tup [.str r.1, optN r.2]
abbrev parts (ln : Str) : List Str := Txt.split ln (one 32)
def headP (ps : List Str) : Option (Int × Int) := match ps with
  | [a, b, c, d] => if a = "notice" ∧ c = "at" ∧ numW b = true ∧ numW d = true then some (valW b, valW d) else none
  | _ => none
def rowP (ps : List Str) : Option RN := match ps with
  | [a, b] => if nameB a = true then (if b = "never" then some (a, none) else if numW b = true then some (a, some (valW b)) else none) else none
  | _ => none
def bad (q : Res D) (O : Store) : Prop := q = .ok .non O ∨ ∃ c : Str, (c = "InvalidName" ∨ c = "InvalidNumber") ∧ q = .exc ⟨c, none⟩ O
def outH (r : Option (Int × Int)) (q : Res D) (O : Store) : Prop := match r with
  | some r => q = .ok (.tup [.int r.1, .int r.2]) O
  | none => bad q O
def outR (r : Option RN) (q : Res D) (O : Store) : Prop := match r with
  | some r => q = .ok (rnD r) O
  | none => bad q O
section
variable {O : Store} {ln : Str}
theorem headX {ps : List Str} (h : ps.length ≠ 4) : headP ps = none ∧ f_read_head [.lst (ps.map .str)] O = .ok .non O := by
  refine ⟨?_, ?_⟩
  · unfold headP
    split
    · exact absurd rfl h
    · rfl
  · have hl : ((ps.map D.str).length : Int) = (ps.length : Int) := by rw [List.length_map]
    have h : ¬ (ps.length : Int) = 4 := by omega
    generalize ps.map D.str = zs at *
    simp [f_read_head, b_read_head, runF, sSeq, sIf, sNext, sDrop, sRet, sRetN, sAsg, ofRes, ofB, bName, bNil, bCons, bTup, bLst, bSubL, mTest, mOp, mVar, mC, mChain, mAnd, mOr, mNot, mIf, mAndV, mOrV, mNotV, mNeg, mCons, mNil, mTup, mLst, newL, mCall, mFn, arity, g1, g2, gLen, gInt, gAbs, gMax2, gMin2, gIx, seqOf, lsqOf, lstOf, Res.bind, ofO, gAdd_ok, gSub_ok, gEq_int, gNe_int, gLt_int, gLe_int, gGt_int, gGe_int, gEq_bl, gNe_bl, gEq_str, gNe_str, mIsi, mIsiT, tyD, kitL, kitTab, atI_c0, atI_c1, atI_c2, atI_c3, atI_c4, sForR1, int1, int2, mMeth, mMake, mFld, sFldM, gIs, gIsNot, isNon_t, sRaise, gList, newLO, hl, h]
theorem head4 {a b c d : Str} (hb : b.length ≤ 900) (hd : d.length ≤ 900) : outH (headP [a, b, c, d]) (f_read_head [.lst [.str a, .str b, .str c, .str d]] O) O := by
  have e1 := fun O => read_ok (O := O) hb
  have e2 := fun O => read_ok (O := O) hd
  rw [← y_read] at e1 e2
  unfold headP outH bad
  by_cases ha : a = "notice" <;> by_cases hc : c = "at"
  · cases h1 : numW b <;> cases h2 : numW d <;> simp [h1] at e1 <;> simp [h2] at e2 <;> simp [f_read_head, b_read_head, runF, sSeq, sIf, sNext, sDrop, sRet, sRetN, sAsg, ofRes, ofB, bName, bNil, bCons, bTup, bLst, bSubL, mTest, mOp, mVar, mC, mChain, mAnd, mOr, mNot, mIf, mAndV, mOrV, mNotV, mNeg, mCons, mNil, mTup, mLst, newL, mCall, mFn, arity, g1, g2, gLen, gInt, gAbs, gMax2, gMin2, gIx, seqOf, lsqOf, lstOf, Res.bind, ofO, gAdd_ok, gSub_ok, gEq_int, gNe_int, gLt_int, gLe_int, gGt_int, gGe_int, gEq_bl, gNe_bl, gEq_str, gNe_str, mIsi, mIsiT, tyD, kitL, kitTab, atI_c0, atI_c1, atI_c2, atI_c3, atI_c4, sForR1, int1, int2, mMeth, mMake, mFld, sFldM, gIs, gIsNot, isNon_t, sRaise, gList, newLO, ha, hc, e1, e2, h1, h2]
  all_goals simp [f_read_head, b_read_head, runF, sSeq, sIf, sNext, sDrop, sRet, sRetN, sAsg, ofRes, ofB, bName, bNil, bCons, bTup, bLst, bSubL, mTest, mOp, mVar, mC, mChain, mAnd, mOr, mNot, mIf, mAndV, mOrV, mNotV, mNeg, mCons, mNil, mTup, mLst, newL, mCall, mFn, arity, g1, g2, gLen, gInt, gAbs, gMax2, gMin2, gIx, seqOf, lsqOf, lstOf, Res.bind, ofO, gAdd_ok, gSub_ok, gEq_int, gNe_int, gLt_int, gLe_int, gGt_int, gGe_int, gEq_bl, gNe_bl, gEq_str, gNe_str, mIsi, mIsiT, tyD, kitL, kitTab, atI_c0, atI_c1, atI_c2, atI_c3, atI_c4, sForR1, int1, int2, mMeth, mMake, mFld, sFldM, gIs, gIsNot, isNon_t, sRaise, gList, newLO, ha, hc]
theorem read_head_ok {ps : List Str} (hp : ∀ p ∈ ps, p.length ≤ 900) : outH (headP ps) (f_read_head [.lst (ps.map .str)] O) O := by
  by_cases h : ps.length = 4
  · match ps, h, hp with
    | [a, b, c, d], _, hp => exact head4 (hp b (by simp)) (hp d (by simp))
  · obtain ⟨h1, h2⟩ := headX (O := O) h
    rw [h1]
    exact .inl h2
theorem rowX {ps : List Str} (h : ps.length ≠ 2) : rowP ps = none ∧ f_read_station [.lst (ps.map .str)] O = .ok .non O := by
  refine ⟨?_, ?_⟩
  · unfold rowP
    split
    · exact absurd rfl h
    · rfl
  · have hl : ((ps.map D.str).length : Int) = (ps.length : Int) := by rw [List.length_map]
    have h : ¬ (ps.length : Int) = 2 := by omega
    generalize ps.map D.str = zs at *
    simp [f_read_station, b_read_station, runF, sSeq, sIf, sNext, sDrop, sRet, sRetN, sAsg, ofRes, ofB, bName, bNil, bCons, bTup, bLst, bSubL, mTest, mOp, mVar, mC, mChain, mAnd, mOr, mNot, mIf, mAndV, mOrV, mNotV, mNeg, mCons, mNil, mTup, mLst, newL, mCall, mFn, arity, g1, g2, gLen, gInt, gAbs, gMax2, gMin2, gIx, seqOf, lsqOf, lstOf, Res.bind, ofO, gAdd_ok, gSub_ok, gEq_int, gNe_int, gLt_int, gLe_int, gGt_int, gGe_int, gEq_bl, gNe_bl, gEq_str, gNe_str, mIsi, mIsiT, tyD, kitL, kitTab, atI_c0, atI_c1, atI_c2, atI_c3, atI_c4, sForR1, int1, int2, mMeth, mMake, mFld, sFldM, gIs, gIsNot, isNon_t, sRaise, gList, newLO, hl, h]
theorem row2 {a b : Str} (ha : a.length ≤ 900) (hb : b.length ≤ 900) : outR (rowP [a, b]) (f_read_station [.lst [.str a, .str b]] O) O := by
  have e1 := fun O => checked_name_ok (O := O) ha
  have e2 := fun O => read_ok (O := O) hb
  rw [← y_cname] at e1
  rw [← y_read] at e2
  unfold rowP outR bad
  cases h1 : nameB a
  · simp [h1] at e1
    simp [f_read_station, b_read_station, runF, sSeq, sIf, sNext, sDrop, sRet, sRetN, sAsg, ofRes, ofB, bName, bNil, bCons, bTup, bLst, bSubL, mTest, mOp, mVar, mC, mChain, mAnd, mOr, mNot, mIf, mAndV, mOrV, mNotV, mNeg, mCons, mNil, mTup, mLst, newL, mCall, mFn, arity, g1, g2, gLen, gInt, gAbs, gMax2, gMin2, gIx, seqOf, lsqOf, lstOf, Res.bind, ofO, gAdd_ok, gSub_ok, gEq_int, gNe_int, gLt_int, gLe_int, gGt_int, gGe_int, gEq_bl, gNe_bl, gEq_str, gNe_str, mIsi, mIsiT, tyD, kitL, kitTab, atI_c0, atI_c1, atI_c2, atI_c3, atI_c4, sForR1, int1, int2, mMeth, mMake, mFld, sFldM, gIs, gIsNot, isNon_t, sRaise, gList, newLO, e1, h1]
  · simp [h1] at e1
    by_cases hv : b = "never"
    · simp [f_read_station, b_read_station, runF, sSeq, sIf, sNext, sDrop, sRet, sRetN, sAsg, ofRes, ofB, bName, bNil, bCons, bTup, bLst, bSubL, mTest, mOp, mVar, mC, mChain, mAnd, mOr, mNot, mIf, mAndV, mOrV, mNotV, mNeg, mCons, mNil, mTup, mLst, newL, mCall, mFn, arity, g1, g2, gLen, gInt, gAbs, gMax2, gMin2, gIx, seqOf, lsqOf, lstOf, Res.bind, ofO, gAdd_ok, gSub_ok, gEq_int, gNe_int, gLt_int, gLe_int, gGt_int, gGe_int, gEq_bl, gNe_bl, gEq_str, gNe_str, mIsi, mIsiT, tyD, kitL, kitTab, atI_c0, atI_c1, atI_c2, atI_c3, atI_c4, sForR1, int1, int2, mMeth, mMake, mFld, sFldM, gIs, gIsNot, isNon_t, sRaise, gList, newLO, e1, h1, hv, optN]
    · cases h2 : numW b <;> simp [h2] at e2 <;> simp [f_read_station, b_read_station, runF, sSeq, sIf, sNext, sDrop, sRet, sRetN, sAsg, ofRes, ofB, bName, bNil, bCons, bTup, bLst, bSubL, mTest, mOp, mVar, mC, mChain, mAnd, mOr, mNot, mIf, mAndV, mOrV, mNotV, mNeg, mCons, mNil, mTup, mLst, newL, mCall, mFn, arity, g1, g2, gLen, gInt, gAbs, gMax2, gMin2, gIx, seqOf, lsqOf, lstOf, Res.bind, ofO, gAdd_ok, gSub_ok, gEq_int, gNe_int, gLt_int, gLe_int, gGt_int, gGe_int, gEq_bl, gNe_bl, gEq_str, gNe_str, mIsi, mIsiT, tyD, kitL, kitTab, atI_c0, atI_c1, atI_c2, atI_c3, atI_c4, sForR1, int1, int2, mMeth, mMake, mFld, sFldM, gIs, gIsNot, isNon_t, sRaise, gList, newLO, e1, e2, h1, h2, hv, optN]
theorem read_station_ok {ps : List Str} (hp : ∀ p ∈ ps, p.length ≤ 900) : outR (rowP ps) (f_read_station [.lst (ps.map .str)] O) O := by
  by_cases h : ps.length = 2
  · match ps, h, hp with
    | [a, b], _, hp => exact row2 (hp a (by simp)) (hp b (by simp))
  · obtain ⟨h1, h2⟩ := rowX (O := O) h
    rw [h1]
    exact .inl h2
end
end DK.k48
end
section
set_option Elab.async false
set_option linter.all false
set_option autoImplicit false
set_option maxRecDepth 100000
set_option maxHeartbeats 4000000
/-! K48B: a notice is read, in plain Lean. -/
namespace DK.k48
open PySem L2 DK DK.Sp DK.Rd DK.Lc DK.Ln
def ltN (a b : RN) : Bool := PySem.W.dataLt (.str a.1) (.str b.1)
theorem geN {O : Store} (a b : RN) : gGeD O (.str a.1) (.str b.1) = some (.bl (!ltN a b), O) := rfl
def afterR (o : Option RN) (r : RN) : Bool := match o with
  | some a => ltN a r
  | none => true
def goodL (ls : List Str) (k : Nat) : Bool := match ls[k]? with
  | none => true
  | some ln => if k = 0 then (headP (parts ln)).isSome else match rowP (parts ln) with
    | none => false
    | some r => decide (k = 1) || afterR ((ls[k - 1]?).bind fun q => rowP (parts q)) r
def rowsTo (ls : List Str) (k : Nat) : List RN := ((ls.take k).drop 1).filterMap fun q => rowP (parts q)
theorem rowsTo_one (ls : List Str) : rowsTo ls 1 = [] := by
  unfold rowsTo
  cases ls <;> simp
theorem rowsTo_zero (ls : List Str) : rowsTo ls 0 = [] := by simp [rowsTo]
theorem rowsTo_succ {ls : List Str} {k : Nat} {ln : Str} {r : RN} (h1 : 1 ≤ k) (h : ls[k]? = some ln) (hr : rowP (parts ln) = some r) : rowsTo ls (k + 1) = rowsTo ls k ++ [r] := by
  unfold rowsTo
  have hk := (List.getElem?_eq_some_iff.mp h).1
  rw [List.take_succ, h]
  have hl : (ls.take k).length = k := by rw [List.length_take]; omega
  rw [List.drop_append_of_le_length (by omega), List.filterMap_append]
  simp [hr]
theorem goodL_row {ls : List Str} {k : Nat} {ln : Str} (h1 : 1 ≤ k) (h : ls[k]? = some ln) (hg : goodL ls k = true) : ∃ r, rowP (parts ln) = some r := by
  unfold goodL at hg
  rw [h] at hg
  simp only [if_neg (show ¬ k = 0 by omega)] at hg
  cases hr : rowP (parts ln) with
  | none => rw [hr] at hg; cases hg
  | some r => exact ⟨r, rfl⟩
section
variable {O O0 : Store} {n : Nat} {ls : List Str} {x : Str} {y4 y5 : Option D}
theorem last_row {i : Nat} (h2 : 2 ≤ i) (hi : i ≤ ls.length) (hg : ∀ j, j < i → goodL ls j = true) : ∃ a ln, ls[i - 1]? = some ln ∧ rowP (parts ln) = some a ∧ (rowsTo ls i).getLast? = some a := by
  have e : ls[i - 1]? = some (ls[i - 1]'(by omega)) := List.getElem?_eq_getElem _
  obtain ⟨a, ha⟩ := goodL_row (by omega) e (hg (i - 1) (by omega))
  refine ⟨a, _, e, ha, ?_⟩
  have := rowsTo_succ (k := i - 1) (by omega) e ha
  rw [show i - 1 + 1 = i by omega] at this
  rw [this]
  simp
theorem rowsTo_len (i : Nat) : (rowsTo ls i).length ≤ ls.length := by
  unfold rowsTo
  refine Nat.le_trans (List.length_filterMap_le _ _) ?_
  rw [List.length_drop, List.length_take]
  omega
abbrev qB : SM := (sAsg (mC .non) (bName 5))
abbrev qC : SM := (sTryEN sub_read_notice_139 (sAsg (mIf (mTest (mOp gEq (mVar 4) (mC (.int 0)))) (mFn (arity 1 f_read_head) [] (mCons (mFn (arity 1 f_words) [] (mCons (mOp gIx (mVar 1) (mC (.int 0))) mNil)) mNil)) (mFn (arity 1 f_read_station) [] (mCons (mFn (arity 1 f_words) [] (mCons (mOp gIx (mVar 1) (mVar 4)) mNil)) mNil))) (bName 5)) (fun y => if y.cls = "InvalidName" then (sRaiseX "InvalidLine" 1 x_InvalidLine (mCons (mOp (gAdd false) (mVar 4) (mC (.int 1))) mNil)) else if y.cls = "InvalidNumber" then (sRaiseX "InvalidLine" 1 x_InvalidLine (mCons (mOp (gAdd false) (mVar 4) (mC (.int 1))) mNil)) else if y.cls = "DuplicateName" then (sRaiseX "InvalidLine" 1 x_InvalidLine (mCons (mOp (gAdd false) (mVar 4) (mC (.int 1))) mNil)) else if y.cls = "UnknownName" then (sRaiseX "InvalidLine" 1 x_InvalidLine (mCons (mOp (gAdd false) (mVar 4) (mC (.int 1))) mNil)) else if y.cls = "TooMany" then (sRaiseX "InvalidLine" 1 x_InvalidLine (mCons (mOp (gAdd false) (mVar 4) (mC (.int 1))) mNil)) else if y.cls = "InvalidLine" then (sRaiseX "InvalidLine" 1 x_InvalidLine (mCons (mOp (gAdd false) (mVar 4) (mC (.int 1))) mNil)) else if y.cls = "InvalidPaper" then (sRaiseX "InvalidLine" 1 x_InvalidLine (mCons (mOp (gAdd false) (mVar 4) (mC (.int 1))) mNil)) else fun _ _ => .bad))
abbrev qD : SM := (sIf (mOr (mTest (mOp gIs (mVar 5) (mC .non))) (mAnd (mTru (mVar 3)) (mTest (mOp gGeD (mOp gIx (mOp gIx (mVar 3) (mNeg (mC (.int 1)))) (mC (.int 0))) (mOp gIx (mVar 5) (mC (.int 0))))))) (sRaiseX "InvalidLine" 1 x_InvalidLine (mCons (mOp (gAdd false) (mVar 4) (mC (.int 1))) mNil)) sNext)
abbrev qE : SM := (sIf (mTest (mOp gEq (mVar 4) (mC (.int 0)))) (sAsg (mVar 5) (bName 2)) (sDrop (mApp (mVar 3) (mVar 5))))
abbrev qT : SM := sSeq qB (sSeq qC (sSeq qD qE))
/-- the locals of read_notice -/
abbrev PL (x : Str) (zs : List D) (h : D) (n : Nat) (y4 y5 : Option D) : Loc := [some (.str x), some (.lst zs), some h, some (.hdl n), y4, y5]
def errL (k : Nat) : Exn := ⟨"InvalidLine", some [("line", .int ((k : Nat) : Int))]⟩
theorem sub1 : sub_read_notice_139 "InvalidName" = some true := rfl
theorem sub2 : sub_read_notice_139 "InvalidNumber" = some true := rfl
theorem xl_ok {k : Nat} (hk : k < 1000) : x_InvalidLine [.int (k : Int)] O = some ([(("line" : Str), D.int (k : Int))], O) := Rd.xline_ok hk
/-- the first line -/
theorem head0 {zl zp : List D} {ln : Str} {ps : List Str} (hp : ∀ p ∈ ps, p.length ≤ 900) (i0 : gIx O (.lst zl) (.int 0) = some (.str ln, O)) (hw : f_words [.str ln] O = .ok (.lst (ps.map .str)) O) :
    (∃ r, headP ps = some r ∧ qC (PL x zl .non n (some (.int 0)) (some .non)) O = .next (PL x zl .non n (some (.int 0)) (some (.tup [.int r.1, .int r.2]))) O) ∨
    (headP ps = none ∧ (qC (PL x zl .non n (some (.int 0)) (some .non)) O = .next (PL x zl .non n (some (.int 0)) (some .non)) O ∨ ∃ L', qC (PL x zl .non n (some (.int 0)) (some .non)) O = .exc (errL 1) L' O)) := by
  have xl : x_InvalidLine [.int 1] O = some ([(("line" : Str), D.int 1)], O) := xl_ok (k := 1) (by omega)
  have o := read_head_ok (O := O) hp
  unfold outH bad at o
  generalize ps.map D.str = zp at *
  cases hr : headP ps with
  | some r =>
    rw [hr] at o
    simp only at o
    left
    refine ⟨r, rfl, ?_⟩
    simp [sTryEN, runF, sSeq, sIf, sNext, sDrop, sRet, sRetN, sAsg, ofRes, ofB, bName, bNil, bCons, bTup, bLst, bSubL, mTest, mOp, mVar, mC, mChain, mAnd, mOr, mNot, mIf, mAndV, mOrV, mNotV, mNeg, mCons, mNil, mTup, mLst, newL, mCall, mFn, arity, g1, g2, gLen, gInt, gAbs, gMax2, gMin2, seqOf, lsqOf, lstOf, Res.bind, ofO, gAdd_ok, gSub_ok, gEq_int, gNe_int, gLt_int, gLe_int, gGt_int, gGe_int, gEq_bl, gNe_bl, gEq_str, gNe_str, mIsi, mIsiT, tyD, kitL, kitTab, atI_c0, atI_c1, atI_c2, atI_c3, atI_c4, sForR1, int1, int2, mMeth, mMake, mFld, sFldM, gIs, gIsNot, isNon_t, sRaise, gList, newLO, i0, hw, o]
  | none =>
    rw [hr] at o
    simp only at o
    right
    refine ⟨rfl, ?_⟩
    rcases o with o | ⟨c, hc, o⟩
    · left
      simp [sTryEN, runF, sSeq, sIf, sNext, sDrop, sRet, sRetN, sAsg, ofRes, ofB, bName, bNil, bCons, bTup, bLst, bSubL, mTest, mOp, mVar, mC, mChain, mAnd, mOr, mNot, mIf, mAndV, mOrV, mNotV, mNeg, mCons, mNil, mTup, mLst, newL, mCall, mFn, arity, g1, g2, gLen, gInt, gAbs, gMax2, gMin2, seqOf, lsqOf, lstOf, Res.bind, ofO, gAdd_ok, gSub_ok, gEq_int, gNe_int, gLt_int, gLe_int, gGt_int, gGe_int, gEq_bl, gNe_bl, gEq_str, gNe_str, mIsi, mIsiT, tyD, kitL, kitTab, atI_c0, atI_c1, atI_c2, atI_c3, atI_c4, sForR1, int1, int2, mMeth, mMake, mFld, sFldM, gIs, gIsNot, isNon_t, sRaise, gList, newLO, i0, hw, o]
    · right
      refine ⟨PL x zl .non n (some (.int 0)) (some .non), ?_⟩
      rcases hc with rfl | rfl
      · simp [sTryEN, okX, sRaiseX, errL, runF, sSeq, sIf, sNext, sDrop, sRet, sRetN, sAsg, ofRes, ofB, bName, bNil, bCons, bTup, bLst, bSubL, mTest, mOp, mVar, mC, mChain, mAnd, mOr, mNot, mIf, mAndV, mOrV, mNotV, mNeg, mCons, mNil, mTup, mLst, newL, mCall, mFn, arity, g1, g2, gLen, gInt, gAbs, gMax2, gMin2, seqOf, lsqOf, lstOf, Res.bind, ofO, gAdd_ok, gSub_ok, gEq_int, gNe_int, gLt_int, gLe_int, gGt_int, gGe_int, gEq_bl, gNe_bl, gEq_str, gNe_str, mIsi, mIsiT, tyD, kitL, kitTab, atI_c0, atI_c1, atI_c2, atI_c3, atI_c4, sForR1, int1, int2, mMeth, mMake, mFld, sFldM, gIs, gIsNot, isNon_t, sRaise, gList, newLO, i0, hw, o, sub1, xl]
      · simp [sTryEN, okX, sRaiseX, errL, runF, sSeq, sIf, sNext, sDrop, sRet, sRetN, sAsg, ofRes, ofB, bName, bNil, bCons, bTup, bLst, bSubL, mTest, mOp, mVar, mC, mChain, mAnd, mOr, mNot, mIf, mAndV, mOrV, mNotV, mNeg, mCons, mNil, mTup, mLst, newL, mCall, mFn, arity, g1, g2, gLen, gInt, gAbs, gMax2, gMin2, seqOf, lsqOf, lstOf, Res.bind, ofO, gAdd_ok, gSub_ok, gEq_int, gNe_int, gLt_int, gLe_int, gGt_int, gGe_int, gEq_bl, gNe_bl, gEq_str, gNe_str, mIsi, mIsiT, tyD, kitL, kitTab, atI_c0, atI_c1, atI_c2, atI_c3, atI_c4, sForR1, int1, int2, mMeth, mMake, mFld, sFldM, gIs, gIsNot, isNon_t, sRaise, gList, newLO, i0, hw, o, sub2, xl]
/-- another line -/
theorem row0 {zl : List D} {ln : Str} {h : D} {i : Nat} {ps : List Str} (hi : 0 < i) (hi2 : i < 900) (hp : ∀ p ∈ ps, p.length ≤ 900) (i0 : gIx O (.lst zl) (.int (i : Int)) = some (.str ln, O)) (hw : f_words [.str ln] O = .ok (.lst (ps.map .str)) O) :
    (∃ r, rowP ps = some r ∧ qC (PL x zl h n (some (.int (i : Int))) (some .non)) O = .next (PL x zl h n (some (.int (i : Int))) (some (rnD r))) O) ∨
    (rowP ps = none ∧ (qC (PL x zl h n (some (.int (i : Int))) (some .non)) O = .next (PL x zl h n (some (.int (i : Int))) (some .non)) O ∨ ∃ L', qC (PL x zl h n (some (.int (i : Int))) (some .non)) O = .exc (errL (i + 1)) L' O)) := by
  have xl := xl_ok (O := O) (k := i + 1) (by omega)
  rw [show (((i + 1 : Nat)) : Int) = (i : Int) + 1 by omega] at xl
  have n0 : ¬ i = 0 := by omega
  have o := read_station_ok (O := O) hp
  unfold outR bad at o
  generalize ps.map D.str = zp at *
  cases hr : rowP ps with
  | some r =>
    rw [hr] at o
    simp only at o
    left
    refine ⟨r, rfl, ?_⟩
    generalize rnD r = d at *
    simp [sTryEN, runF, sSeq, sIf, sNext, sDrop, sRet, sRetN, sAsg, ofRes, ofB, bName, bNil, bCons, bTup, bLst, bSubL, mTest, mOp, mVar, mC, mChain, mAnd, mOr, mNot, mIf, mAndV, mOrV, mNotV, mNeg, mCons, mNil, mTup, mLst, newL, mCall, mFn, arity, g1, g2, gLen, gInt, gAbs, gMax2, gMin2, seqOf, lsqOf, lstOf, Res.bind, ofO, gAdd_ok, gSub_ok, gEq_int, gNe_int, gLt_int, gLe_int, gGt_int, gGe_int, gEq_bl, gNe_bl, gEq_str, gNe_str, mIsi, mIsiT, tyD, kitL, kitTab, atI_c0, atI_c1, atI_c2, atI_c3, atI_c4, sForR1, int1, int2, mMeth, mMake, mFld, sFldM, gIs, gIsNot, isNon_t, sRaise, gList, newLO, n0, i0, hw, o]
  | none =>
    rw [hr] at o
    simp only at o
    right
    refine ⟨rfl, ?_⟩
    rcases o with o | ⟨c, hc, o⟩
    · left
      simp [sTryEN, runF, sSeq, sIf, sNext, sDrop, sRet, sRetN, sAsg, ofRes, ofB, bName, bNil, bCons, bTup, bLst, bSubL, mTest, mOp, mVar, mC, mChain, mAnd, mOr, mNot, mIf, mAndV, mOrV, mNotV, mNeg, mCons, mNil, mTup, mLst, newL, mCall, mFn, arity, g1, g2, gLen, gInt, gAbs, gMax2, gMin2, seqOf, lsqOf, lstOf, Res.bind, ofO, gAdd_ok, gSub_ok, gEq_int, gNe_int, gLt_int, gLe_int, gGt_int, gGe_int, gEq_bl, gNe_bl, gEq_str, gNe_str, mIsi, mIsiT, tyD, kitL, kitTab, atI_c0, atI_c1, atI_c2, atI_c3, atI_c4, sForR1, int1, int2, mMeth, mMake, mFld, sFldM, gIs, gIsNot, isNon_t, sRaise, gList, newLO, n0, i0, hw, o]
    · right
      refine ⟨PL x zl h n (some (.int (i : Int))) (some .non), ?_⟩
      rcases hc with rfl | rfl
      · simp [sTryEN, okX, sRaiseX, errL, runF, sSeq, sIf, sNext, sDrop, sRet, sRetN, sAsg, ofRes, ofB, bName, bNil, bCons, bTup, bLst, bSubL, mTest, mOp, mVar, mC, mChain, mAnd, mOr, mNot, mIf, mAndV, mOrV, mNotV, mNeg, mCons, mNil, mTup, mLst, newL, mCall, mFn, arity, g1, g2, gLen, gInt, gAbs, gMax2, gMin2, seqOf, lsqOf, lstOf, Res.bind, ofO, gAdd_ok, gSub_ok, gEq_int, gNe_int, gLt_int, gLe_int, gGt_int, gGe_int, gEq_bl, gNe_bl, gEq_str, gNe_str, mIsi, mIsiT, tyD, kitL, kitTab, atI_c0, atI_c1, atI_c2, atI_c3, atI_c4, sForR1, int1, int2, mMeth, mMake, mFld, sFldM, gIs, gIsNot, isNon_t, sRaise, gList, newLO, n0, i0, hw, o, sub1, xl]
      · simp [sTryEN, okX, sRaiseX, errL, runF, sSeq, sIf, sNext, sDrop, sRet, sRetN, sAsg, ofRes, ofB, bName, bNil, bCons, bTup, bLst, bSubL, mTest, mOp, mVar, mC, mChain, mAnd, mOr, mNot, mIf, mAndV, mOrV, mNotV, mNeg, mCons, mNil, mTup, mLst, newL, mCall, mFn, arity, g1, g2, gLen, gInt, gAbs, gMax2, gMin2, seqOf, lsqOf, lstOf, Res.bind, ofO, gAdd_ok, gSub_ok, gEq_int, gNe_int, gLt_int, gLe_int, gGt_int, gGe_int, gEq_bl, gNe_bl, gEq_str, gNe_str, mIsi, mIsiT, tyD, kitL, kitTab, atI_c0, atI_c1, atI_c2, atI_c3, atI_c4, sForR1, int1, int2, mMeth, mMake, mFld, sFldM, gIs, gIsNot, isNon_t, sRaise, gList, newLO, n0, i0, hw, o, sub2, xl]
theorem qD_none {zl : List D} {h : D} {i : Nat} (hi2 : i < 900) : ∃ L', qD (PL x zl h n (some (.int (i : Int))) (some .non)) O = .exc (errL (i + 1)) L' O := by
  have xl := xl_ok (O := O) (k := i + 1) (by omega)
  rw [show (((i + 1 : Nat)) : Int) = (i : Int) + 1 by omega] at xl
  refine ⟨PL x zl h n (some (.int (i : Int))) (some .non), ?_⟩
  simp [sRaiseX, errL, runF, sSeq, sIf, sNext, sDrop, sRet, sRetN, sAsg, ofRes, ofB, bName, bNil, bCons, bTup, bLst, bSubL, mTest, mOp, mVar, mC, mChain, mAnd, mOr, mNot, mIf, mAndV, mOrV, mNotV, mNeg, mCons, mNil, mTup, mLst, newL, mCall, mFn, arity, g1, g2, gLen, gInt, gAbs, gMax2, gMin2, gIx, seqOf, lsqOf, lstOf, Res.bind, ofO, gAdd_ok, gSub_ok, gEq_int, gNe_int, gLt_int, gLe_int, gGt_int, gGe_int, gEq_bl, gNe_bl, gEq_str, gNe_str, mIsi, mIsiT, tyD, kitL, kitTab, atI_c0, atI_c1, atI_c2, atI_c3, atI_c4, sForR1, int1, int2, mMeth, mMake, mFld, sFldM, gIs, gIsNot, isNon_t, sRaise, gList, newLO, xl]
theorem qDE_zero {zl : List D} {h : D} {a b : Int} (g : O[n]? = some (.lst [])) : sSeq qD qE (PL x zl h n (some (.int 0)) (some (.tup [.int a, .int b]))) O = .next (PL x zl (.tup [.int a, .int b]) n (some (.int 0)) (some (.tup [.int a, .int b]))) O := by
  simp [mTru, truD, runF, sSeq, sIf, sNext, sDrop, sRet, sRetN, sAsg, ofRes, ofB, bName, bNil, bCons, bTup, bLst, bSubL, mTest, mOp, mVar, mC, mChain, mAnd, mOr, mNot, mIf, mAndV, mOrV, mNotV, mNeg, mCons, mNil, mTup, mLst, newL, mCall, mFn, arity, g1, g2, gLen, gInt, gAbs, gMax2, gMin2, gIx, seqOf, lsqOf, lstOf, Res.bind, ofO, gAdd_ok, gSub_ok, gEq_int, gNe_int, gLt_int, gLe_int, gGt_int, gGe_int, gEq_bl, gNe_bl, gEq_str, gNe_str, mIsi, mIsiT, tyD, kitL, kitTab, atI_c0, atI_c1, atI_c2, atI_c3, atI_c4, sForR1, int1, int2, mMeth, mMake, mFld, sFldM, gIs, gIsNot, isNon_t, sRaise, gList, newLO, g]
theorem qDE_row {zl : List D} {hd : D} {i : Nat} {A : List RN} {r : RN} (hi : 0 < i) (hi2 : i < 900) (g : O[n]? = some (.lst (A.map rnD))) (hA : A.length ≤ 1000) :
    ((∀ a, A.getLast? = some a → ltN a r = true) → sSeq qD qE (PL x zl hd n (some (.int (i : Int))) (some (rnD r))) O = .next (PL x zl hd n (some (.int (i : Int))) (some (rnD r))) (O.set n (.lst ((A ++ [r]).map rnD)))) ∧
    (∀ a, A.getLast? = some a → ltN a r = false → ∃ L', sSeq qD qE (PL x zl hd n (some (.int (i : Int))) (some (rnD r))) O = .exc (errL (i + 1)) L' O) := by
  have xl := xl_ok (O := O) (k := i + 1) (by omega)
  rw [show (((i + 1 : Nat)) : Int) = (i : Int) + 1 by omega] at xl
  have hn : isNon (rnD r) = false := rfl
  have i0 : gIx O (rnD r) (.int 0) = some (.str r.1, O) := rfl
  have hl : (A.map rnD).length ≤ 1000000 := by rw [List.length_map]; omega
  have ea : (A ++ [r]).map rnD = A.map rnD ++ [rnD r] := by simp
  have n0 : ¬ i = 0 := by omega
  rcases List.eq_nil_or_concat A with rfl | ⟨B, a, rfl⟩
  · refine ⟨fun _ => ?_, fun a ha => by cases ha⟩
    have g : O[n]? = some (.lst []) := g
    rw [ea]
    show _ = SR.next _ (O.set n (.lst ([] ++ [rnD r])))
    generalize rnD r = d at *
    simp [mTru, truD, mApp, runF, sSeq, sIf, sNext, sDrop, sRet, sRetN, sAsg, ofRes, ofB, bName, bNil, bCons, bTup, bLst, bSubL, mTest, mOp, mVar, mC, mChain, mAnd, mOr, mNot, mIf, mAndV, mOrV, mNotV, mNeg, mCons, mNil, mTup, mLst, newL, mCall, mFn, arity, g1, g2, gLen, gInt, gAbs, gMax2, gMin2, gIx, seqOf, lsqOf, lstOf, Res.bind, ofO, gAdd_ok, gSub_ok, gEq_int, gNe_int, gLt_int, gLe_int, gGt_int, gGe_int, gEq_bl, gNe_bl, gEq_str, gNe_str, mIsi, mIsiT, tyD, kitL, kitTab, atI_c0, atI_c1, atI_c2, atI_c3, atI_c4, sForR1, int1, int2, mMeth, mMake, mFld, sFldM, gIs, gIsNot, isNon_t, sRaise, gList, newLO, n0, g, hn]
  · rw [List.concat_eq_append] at *
    rw [List.map_append] at g
    have g : O[n]? = some (.lst (B.map rnD ++ [rnD a])) := g
    have hne : (B.map rnD ++ [rnD a]).isEmpty = false := by simp
    have ix : gIx O (.hdl n) (.int (-1)) = some (rnD a, O) := by
      show (match lsqOf O (.hdl n) with | some zs => (match atI zs (-1) with | some d => some (d, O) | none => none) | none => none) = _
      rw [lsq_h g]
      simp only [Rd.atI_snoc]
    have i1 : gIx O (rnD a) (.int 0) = some (.str a.1, O) := rfl
    have ge := geN (O := O) a r
    have hlast : (B ++ [a]).getLast? = some a := by simp
    have ea2 : (B ++ [a]).map rnD = B.map rnD ++ [rnD a] := by simp
    rw [ea2] at hl
    rw [ea, ea2]
    generalize B.map rnD ++ [rnD a] = zs at *
    generalize rnD r = d at *
    generalize rnD a = da at *
    refine ⟨fun h => ?_, fun a' ha' h => ?_⟩
    · rw [h a hlast] at ge
      simp [mTru, truD, mApp, runF, sSeq, sIf, sNext, sDrop, sRet, sRetN, sAsg, ofRes, ofB, bName, bNil, bCons, bTup, bLst, bSubL, mTest, mOp, mVar, mC, mChain, mAnd, mOr, mNot, mIf, mAndV, mOrV, mNotV, mNeg, mCons, mNil, mTup, mLst, newL, mCall, mFn, arity, g1, g2, gLen, gInt, gAbs, gMax2, gMin2, seqOf, lsqOf, lstOf, Res.bind, ofO, gAdd_ok, gSub_ok, gEq_int, gNe_int, gLt_int, gLe_int, gGt_int, gGe_int, gEq_bl, gNe_bl, gEq_str, gNe_str, mIsi, mIsiT, tyD, kitL, kitTab, atI_c0, atI_c1, atI_c2, atI_c3, atI_c4, sForR1, int1, int2, mMeth, mMake, mFld, sFldM, gIs, gIsNot, isNon_t, sRaise, gList, newLO, n0, g, hn, hne, ix, i0, i1, ge, hl]
    · rw [hlast] at ha'
      cases ha'
      rw [h] at ge
      refine ⟨PL x zl hd n (some (.int (i : Int))) (some d), ?_⟩
      simp [mTru, truD, mApp, sRaiseX, errL, runF, sSeq, sIf, sNext, sDrop, sRet, sRetN, sAsg, ofRes, ofB, bName, bNil, bCons, bTup, bLst, bSubL, mTest, mOp, mVar, mC, mChain, mAnd, mOr, mNot, mIf, mAndV, mOrV, mNotV, mNeg, mCons, mNil, mTup, mLst, newL, mCall, mFn, arity, g1, g2, gLen, gInt, gAbs, gMax2, gMin2, seqOf, lsqOf, lstOf, Res.bind, ofO, gAdd_ok, gSub_ok, gEq_int, gNe_int, gLt_int, gLe_int, gGt_int, gGe_int, gEq_bl, gNe_bl, gEq_str, gNe_str, mIsi, mIsiT, tyD, kitL, kitTab, atI_c0, atI_c1, atI_c2, atI_c3, atI_c4, sForR1, int1, int2, mMeth, mMake, mFld, sFldM, gIs, gIsNot, isNon_t, sRaise, gList, newLO, n0, g, hn, hne, ix, i0, i1, ge, xl]
end
end DK.k48
end
section
set_option Elab.async false
set_option linter.all false
set_option autoImplicit false
set_option maxRecDepth 100000
set_option maxHeartbeats 4000000
/-! K48C: a whole notice is read, in plain Lean. -/
namespace DK.k48
open PySem L2 DK DK.Sp DK.Rd DK.Lc DK.Ln
section
variable {O O0 : Store} {n : Nat} {ls : List Str} {x : Str}
structure PI (O0 : Store) (x : Str) (ls : List Str) (i : Nat) (L : Loc) (O : Store) : Prop where
  ex : ∃ h y4 y5, L = PL x (ls.map .str) h O0.length y4 y5 ∧ O = O0 ++ [.lst ((rowsTo ls i).map rnD)] ∧ ((i = 0 ∧ h = .non) ∨ (0 < i ∧ ∃ a b, h = .tup [.int a, .int b] ∧ ∃ ln, ls[0]? = some ln ∧ headP (parts ln) = some (a, b)))
  gd : ∀ j, j < i → goodL ls j = true
def PR (O0 : Store) (i : Nat) (r : SR) : Prop := ∃ L' O', r = .exc (errL (i + 1)) L' O' ∧ Fz O0 O'
theorem ix_line {i : Nat} {ln : Str} (h : ls[i]? = some ln) : gIx O (.lst (ls.map .str)) (.int (i : Int)) = some (.str ln, O) := by
  have : atI (ls.map D.str) (i : Int) = some (.str ln) := atI_nat (by omega) (by rw [Int.toNat_natCast, List.getElem?_map, h]; rfl)
  show (match atI (ls.map D.str) (i : Int) with | some d => some (d, O) | none => none) = _
  rw [this]
theorem parse_turn {i : Nat} {L : Loc} (hn : ls.length ≤ 800) (hp : ∀ p ∈ ls, p.length ≤ 900) (hi : i < ls.length) (h : PI O0 x ls i L O) :
    (goodL ls i = true → ∃ L' O', turnOf (bName 4) qT (.int (i : Int)) L O = .next L' O' ∧ PI O0 x ls (i + 1) L' O') ∧ (goodL ls i = false → PR O0 i (turnOf (bName 4) qT (.int (i : Int)) L O)) := by
  obtain ⟨⟨h, y4, y5, rfl, rfl, hst⟩, gd⟩ := h
  obtain ⟨ln, hln⟩ : ∃ ln, ls[i]? = some ln := ⟨ls[i], List.getElem?_eq_getElem hi⟩
  have hl := hp ln (List.mem_of_getElem? hln)
  have hps : ∀ p ∈ parts ln, p.length ≤ 900 := fun p h => by have := split_part h; omega
  have ht : turnOf (bName 4) qT (.int (i : Int)) (PL x (ls.map .str) h O0.length y4 y5) (O0 ++ [.lst ((rowsTo ls i).map rnD)]) = qT (PL x (ls.map .str) h O0.length (some (.int (i : Int))) y5) (O0 ++ [.lst ((rowsTo ls i).map rnD)]) := rfl
  rw [ht]
  have i0 := ix_line (O := O0 ++ [.lst ((rowsTo ls i).map rnD)]) hln
  have hw := Rd.words_ok (O := O0 ++ [.lst ((rowsTo ls i).map rnD)]) (x := ln) (by omega)
  rw [← y_words] at hw
  have sB : ∀ O, qB (PL x (ls.map .str) h O0.length (some (.int (i : Int))) y5) O = .next (PL x (ls.map .str) h O0.length (some (.int (i : Int))) (some .non)) O := fun O => by
    simp [runF, sSeq, sIf, sNext, sDrop, sRet, sRetN, sAsg, ofRes, ofB, bName, bNil, bCons, bTup, bLst, bSubL, mTest, mOp, mVar, mC, mChain, mAnd, mOr, mNot, mIf, mAndV, mOrV, mNotV, mNeg, mCons, mNil, mTup, mLst, newL, mCall, mFn, arity, g1, g2, gLen, gInt, gAbs, gMax2, gMin2, gIx, seqOf, lsqOf, lstOf, Res.bind, ofO, gAdd_ok, gSub_ok, gEq_int, gNe_int, gLt_int, gLe_int, gGt_int, gGe_int, gEq_bl, gNe_bl, gEq_str, gNe_str, mIsi, mIsiT, tyD, kitL, kitTab, atI_c0, atI_c1, atI_c2, atI_c3, atI_c4, sForR1, int1, int2, mMeth, mMake, mFld, sFldM, gIs, gIsNot, isNon_t, sRaise, gList, newLO]
  have fz0 : Fz O0 (O0 ++ [.lst ((rowsTo ls i).map rnD)]) := fz_app
  show (goodL ls i = true → ∃ L' O', sSeq qB (sSeq qC (sSeq qD qE)) _ _ = .next L' O' ∧ _) ∧ (goodL ls i = false → PR O0 i (sSeq qB (sSeq qC (sSeq qD qE)) _ _))
  rw [seq_next (sB _)]
  rcases Nat.eq_zero_or_pos i with rfl | h0
  · obtain ⟨_, rfl⟩ : 0 = 0 ∧ h = .non := by
      rcases hst with h | ⟨h, _⟩
      · exact h
      · omega
    have gd0 : goodL ls 0 = (headP (parts ln)).isSome := by
      unfold goodL
      rw [hln]
      rfl
    rcases head0 (x := x) (zp := []) (zl := ls.map .str) (n := O0.length) (O := O0 ++ [.lst ((rowsTo ls 0).map rnD)]) hps i0 hw with ⟨⟨a, b⟩, hs, e⟩ | ⟨hs, e⟩
    · rw [gd0, hs]
      refine ⟨fun _ => ?_, fun z => by cases z⟩
      have e : qC (PL x (ls.map .str) .non O0.length (some (.int ((0 : Nat) : Int))) (some .non)) (O0 ++ [.lst ((rowsTo ls 0).map rnD)]) = _ := e
      rw [seq_next e, qDE_zero (by rw [rowsTo_zero]; simp)]
      refine ⟨_, _, rfl, ⟨_, _, _, rfl, ?_, .inr ⟨by omega, a, b, rfl, ln, hln, hs⟩⟩, fun j hj => ?_⟩
      · rw [rowsTo_zero, rowsTo_one]
      · obtain rfl : j = 0 := by omega
        rw [gd0, hs]
        rfl
    · rw [gd0, hs]
      refine ⟨fun z => (by cases z), fun _ => ?_⟩
      rcases e with e | ⟨L', e⟩
      · have e : qC (PL x (ls.map .str) .non O0.length (some (.int ((0 : Nat) : Int))) (some .non)) (O0 ++ [.lst ((rowsTo ls 0).map rnD)]) = _ := e
        rw [seq_next e]
        obtain ⟨L', e2⟩ := qD_none (x := x) (zl := ls.map .str) (n := O0.length) (h := .non) (i := 0) (O := O0 ++ [.lst ((rowsTo ls 0).map rnD)]) (by omega)
        have e2 : qD (PL x (ls.map .str) .non O0.length (some (.int 0)) (some .non)) (O0 ++ [.lst ((rowsTo ls 0).map rnD)]) = _ := e2
        rw [seq_exc e2]
        exact ⟨_, _, rfl, fz0⟩
      · have e : qC (PL x (ls.map .str) .non O0.length (some (.int ((0 : Nat) : Int))) (some .non)) (O0 ++ [.lst ((rowsTo ls 0).map rnD)]) = _ := e
        rw [seq_exc e]
        exact ⟨_, _, rfl, fz0⟩
  · obtain ⟨a0, b0, hs⟩ : ∃ a b, h = .tup [.int a, .int b] ∧ ∃ ln, ls[0]? = some ln ∧ headP (parts ln) = some (a, b) := by
      rcases hst with ⟨h, _⟩ | ⟨_, a, b, h⟩
      · omega
      · exact ⟨a, b, h⟩
    have i9 : i < 900 := by omega
    rcases row0 (x := x) (zl := ls.map .str) (n := O0.length) (h := h) (O := O0 ++ [.lst ((rowsTo ls i).map rnD)]) h0 i9 hps i0 hw with ⟨r, hr, e⟩ | ⟨hr, e⟩
    · rw [seq_next e]
      have g : (O0 ++ [.lst ((rowsTo ls i).map rnD)])[O0.length]? = some (.lst ((rowsTo ls i).map rnD)) := by simp
      obtain ⟨d1, d2⟩ := qDE_row (x := x) (zl := ls.map .str) (hd := h) (r := r) h0 i9 g (by have := rowsTo_len (ls := ls) i; omega)
      have gdi : goodL ls i = (decide (i = 1) || afterR ((ls[i - 1]?).bind fun q => rowP (parts q)) r) := by
        unfold goodL
        rw [hln]
        simp only [if_neg (show ¬ i = 0 by omega), hr]
      have rs := rowsTo_succ h0 hln hr
      by_cases h1 : i = 1
      · have hA : rowsTo ls i = [] := by rw [h1]; exact rowsTo_one ls
        have gt : goodL ls i = true := by rw [gdi, decide_eq_true h1]; rfl
        rw [gt]
        refine ⟨fun _ => ?_, fun z => by cases z⟩
        have e2 := d1 fun a ha => by rw [hA] at ha; cases ha
        rw [e2, set_last]
        refine ⟨_, _, rfl, ⟨_, _, _, rfl, by rw [rs], .inr ⟨by omega, a0, b0, hs⟩⟩, fun j hj => ?_⟩
        by_cases hj2 : j = i
        · rw [hj2]; exact gt
        · exact gd j (by omega)
      · obtain ⟨a, ln', hl', ha, hlast⟩ := last_row (i := i) (by omega) (by omega) gd
        have gdi : goodL ls i = ltN a r := by
          rw [gdi, decide_eq_false h1, hl']
          simp [ha, afterR]
        rw [gdi]
        refine ⟨fun hlt => ?_, fun hlt => ?_⟩
        · have e2 := d1 fun b hb => by rw [hlast] at hb; cases hb; exact hlt
          rw [e2, set_last]
          refine ⟨_, _, rfl, ⟨_, _, _, rfl, by rw [rs], .inr ⟨by omega, a0, b0, hs⟩⟩, fun j hj => ?_⟩
          by_cases hj2 : j = i
          · rw [hj2, gdi]; exact hlt
          · exact gd j (by omega)
        · obtain ⟨L', e2⟩ := d2 a hlast hlt
          rw [e2]
          exact ⟨_, _, rfl, fz0⟩
    · have gf : goodL ls i = false := by
        unfold goodL
        rw [hln]
        simp only [if_neg (show ¬ i = 0 by omega), hr]
      rw [gf]
      refine ⟨fun z => (by cases z), fun _ => ?_⟩
      rcases e with e | ⟨L', e⟩
      · rw [seq_next e]
        obtain ⟨L', e2⟩ := qD_none (x := x) (zl := ls.map .str) (n := O0.length) (h := h) (i := i) (O := O0 ++ [.lst ((rowsTo ls i).map rnD)]) i9
        rw [seq_exc e2]
        exact ⟨_, _, rfl, fz0⟩
      · rw [seq_exc e]
        exact ⟨_, _, rfl, fz0⟩
def Fine (ls : List Str) : Prop := ls ≠ [] ∧ ∀ k, k < ls.length → goodL ls k = true
def Bad (ls : List Str) (m : Nat) : Prop := (ls = [] ∧ m = 1) ∨ ∃ k, k < ls.length ∧ (∀ j, j < k → goodL ls j = true) ∧ goodL ls k = false ∧ m = k + 1
theorem bad_uniq {m m' : Nat} (h : Bad ls m) (h' : Bad ls m') : m = m' := by
  rcases h with ⟨e, rfl⟩ | ⟨k, hk, g1, g2, rfl⟩ <;> rcases h' with ⟨e', e0⟩ | ⟨k', hk', g1', g2', e0⟩
  · exact e0.symm
  · rw [e] at hk'; simp at hk'
  · rw [e'] at hk; simp at hk
  · subst e0
    rcases Nat.lt_trichotomy k k' with h | h | h
    · rw [g1' k h] at g2; cases g2
    · rw [h]
    · rw [g1 k' h] at g2'; cases g2'
theorem bad_fine {m : Nat} (h : Bad ls m) (h' : Fine ls) : False := by
  rcases h with ⟨e, rfl⟩ | ⟨k, hk, g1, g2, rfl⟩
  · exact h'.1 e
  · rw [h'.2 k hk] at g2; cases g2
theorem bad_pos {m : Nat} (h : Bad ls m) : 0 < m ∧ m ≤ ls.length + 1 := by
  rcases h with ⟨e, rfl⟩ | ⟨k, hk, g1, g2, rfl⟩
  · exact ⟨by omega, by omega⟩
  · exact ⟨by omega, by omega⟩
def headS (ls : List Str) : Int × Int := ((ls[0]?).bind fun q => headP (parts q)).getD (0, 0)
abbrev fE : SM := sForR1 (mCons (mCall (DK.g1 gLen) (mCons (mVar 1) mNil)) mNil) (bName 4) qT
abbrev rE : SM := (sRet (mTup (mCons (mOp gIx (mVar 2) (mC (.int 0))) (mCons (mOp gIx (mVar 2) (mC (.int 1))) (mCons (mVar 3) mNil)))))
theorem parse_is : b_read_notice = sSeq (sAsg (mFn (arity 1 f_lines_of) [] (mCons (mVar 0) mNil)) (bName 1)) (sSeq (sIf (mNot (mTru (mVar 1))) (sRaiseX "InvalidLine" 1 x_InvalidLine (mCons (mC (.int 1)) mNil)) sNext) (sSeq (sAsg (mC .non) (bName 2)) (sSeq (sAsg (mLst true mNil) (bName 3)) (sSeq fE rE)))) := rfl
theorem run_is {q : Res D} (e : (match b_read_notice [some (.str x), none, none, none, none, none] O0 with
      | .next _ O1 => Res.ok D.non O1
      | .ret d O1 => .ok d O1
      | .exc x _ O1 => .exc x O1
      | _ => .bad) = q) : f_read_notice [.str x] O0 = q := e
theorem parse_ok (hn : ls.length ≤ 800) (hp : ∀ p ∈ ls, p.length ≤ 900) (hl : f_lines_of [.str x] O0 = .ok (.lst (ls.map .str)) O0) :
    (Fine ls ∧ f_read_notice [.str x] O0 = .ok (.tup [.int (headS ls).1, .int (headS ls).2, .hdl O0.length]) (O0 ++ [.lst ((rowsTo ls ls.length).map rnD)])) ∨ ∃ m O', Bad ls m ∧ f_read_notice [.str x] O0 = .exc (errL m) O' ∧ Fz O0 O' := by
  have s0 : sAsg (mFn (arity 1 f_lines_of) [] (mCons (mVar 0) mNil)) (bName 1) [some (.str x), none, none, none, none, none] O0 = .next [some (.str x), some (.lst (ls.map .str)), none, none, none, none] O0 := by
    generalize ls.map D.str = zs at *
    simp [runF, sSeq, sIf, sNext, sDrop, sRet, sRetN, sAsg, ofRes, ofB, bName, bNil, bCons, bTup, bLst, bSubL, mTest, mOp, mVar, mC, mChain, mAnd, mOr, mNot, mIf, mAndV, mOrV, mNotV, mNeg, mCons, mNil, mTup, mLst, newL, mCall, mFn, arity, g1, g2, gLen, gInt, gAbs, gMax2, gMin2, gIx, seqOf, lsqOf, lstOf, Res.bind, ofO, gAdd_ok, gSub_ok, gEq_int, gNe_int, gLt_int, gLe_int, gGt_int, gGe_int, gEq_bl, gNe_bl, gEq_str, gNe_str, mIsi, mIsiT, tyD, kitL, kitTab, atI_c0, atI_c1, atI_c2, atI_c3, atI_c4, sForR1, int1, int2, mMeth, mMake, mFld, sFldM, gIs, gIsNot, isNon_t, sRaise, gList, newLO, hl]
  by_cases hz : ls = []
  · right
    subst hz
    have xl : x_InvalidLine [.int 1] O0 = some ([(("line" : Str), D.int 1)], O0) := xl_ok (k := 1) (by omega)
    refine ⟨1, O0, .inl ⟨rfl, rfl⟩, run_is ?_, Fz.refl O0⟩
    have s1 : sIf (mNot (mTru (mVar 1))) (sRaiseX "InvalidLine" 1 x_InvalidLine (mCons (mC (.int 1)) mNil)) sNext [some (.str x), some (.lst (([] : List Str).map .str)), none, none, none, none] O0 = .exc (errL 1) [some (.str x), some (.lst (([] : List Str).map .str)), none, none, none, none] O0 := by
      simp [mTru, truD, sRaiseX, errL, runF, sSeq, sIf, sNext, sDrop, sRet, sRetN, sAsg, ofRes, ofB, bName, bNil, bCons, bTup, bLst, bSubL, mTest, mOp, mVar, mC, mChain, mAnd, mOr, mNot, mIf, mAndV, mOrV, mNotV, mNeg, mCons, mNil, mTup, mLst, newL, mCall, mFn, arity, g1, g2, gLen, gInt, gAbs, gMax2, gMin2, gIx, seqOf, lsqOf, lstOf, Res.bind, ofO, gAdd_ok, gSub_ok, gEq_int, gNe_int, gLt_int, gLe_int, gGt_int, gGe_int, gEq_bl, gNe_bl, gEq_str, gNe_str, mIsi, mIsiT, tyD, kitL, kitTab, atI_c0, atI_c1, atI_c2, atI_c3, atI_c4, sForR1, int1, int2, mMeth, mMake, mFld, sFldM, gIs, gIsNot, isNon_t, sRaise, gList, newLO, xl]
    rw [parse_is, seq_next s0, seq_exc s1]
  · have s1 : sIf (mNot (mTru (mVar 1))) (sRaiseX "InvalidLine" 1 x_InvalidLine (mCons (mC (.int 1)) mNil)) sNext [some (.str x), some (.lst (ls.map .str)), none, none, none, none] O0 = .next [some (.str x), some (.lst (ls.map .str)), none, none, none, none] O0 := by
      have he : (ls.map D.str).isEmpty = false := by cases ls with | nil => exact absurd rfl hz | cons a t => rfl
      generalize ls.map D.str = zs at *
      simp [mTru, truD, runF, sSeq, sIf, sNext, sDrop, sRet, sRetN, sAsg, ofRes, ofB, bName, bNil, bCons, bTup, bLst, bSubL, mTest, mOp, mVar, mC, mChain, mAnd, mOr, mNot, mIf, mAndV, mOrV, mNotV, mNeg, mCons, mNil, mTup, mLst, newL, mCall, mFn, arity, g1, g2, gLen, gInt, gAbs, gMax2, gMin2, gIx, seqOf, lsqOf, lstOf, Res.bind, ofO, gAdd_ok, gSub_ok, gEq_int, gNe_int, gLt_int, gLe_int, gGt_int, gGe_int, gEq_bl, gNe_bl, gEq_str, gNe_str, mIsi, mIsiT, tyD, kitL, kitTab, atI_c0, atI_c1, atI_c2, atI_c3, atI_c4, sForR1, int1, int2, mMeth, mMake, mFld, sFldM, gIs, gIsNot, isNon_t, sRaise, gList, newLO, he]
    have s2 : sAsg (mC .non) (bName 2) [some (.str x), some (.lst (ls.map .str)), none, none, none, none] O0 = .next [some (.str x), some (.lst (ls.map .str)), some .non, none, none, none] O0 := by
      simp [runF, sSeq, sIf, sNext, sDrop, sRet, sRetN, sAsg, ofRes, ofB, bName, bNil, bCons, bTup, bLst, bSubL, mTest, mOp, mVar, mC, mChain, mAnd, mOr, mNot, mIf, mAndV, mOrV, mNotV, mNeg, mCons, mNil, mTup, mLst, newL, mCall, mFn, arity, g1, g2, gLen, gInt, gAbs, gMax2, gMin2, gIx, seqOf, lsqOf, lstOf, Res.bind, ofO, gAdd_ok, gSub_ok, gEq_int, gNe_int, gLt_int, gLe_int, gGt_int, gGe_int, gEq_bl, gNe_bl, gEq_str, gNe_str, mIsi, mIsiT, tyD, kitL, kitTab, atI_c0, atI_c1, atI_c2, atI_c3, atI_c4, sForR1, int1, int2, mMeth, mMake, mFld, sFldM, gIs, gIsNot, isNon_t, sRaise, gList, newLO]
    have s3 : sAsg (mLst true mNil) (bName 3) [some (.str x), some (.lst (ls.map .str)), some .non, none, none, none] O0 = .next (PL x (ls.map .str) .non O0.length none none) (O0 ++ [.lst []]) := by
      simp [runF, sSeq, sIf, sNext, sDrop, sRet, sRetN, sAsg, ofRes, ofB, bName, bNil, bCons, bTup, bLst, bSubL, mTest, mOp, mVar, mC, mChain, mAnd, mOr, mNot, mIf, mAndV, mOrV, mNotV, mNeg, mCons, mNil, mTup, mLst, newL, mCall, mFn, arity, g1, g2, gLen, gInt, gAbs, gMax2, gMin2, gIx, seqOf, lsqOf, lstOf, Res.bind, ofO, gAdd_ok, gSub_ok, gEq_int, gNe_int, gLt_int, gLe_int, gGt_int, gGe_int, gEq_bl, gNe_bl, gEq_str, gNe_str, mIsi, mIsiT, tyD, kitL, kitTab, atI_c0, atI_c1, atI_c2, atI_c3, atI_c4, sForR1, int1, int2, mMeth, mMake, mFld, sFldM, gIs, gIsNot, isNon_t, sRaise, gList, newLO]
    have lenE : ∀ O, gLen O (.lst (ls.map .str)) = some (.int (ls.length : Int), O) := fun O => by simp [gLen, seqOf, lsqOf, lstOf]
    have lp := forR1_first (t := mCons (mCall (DK.g1 gLen) (mCons (mVar 1) mNil)) mNil) (b := bName 4) (body := qT) (I := PI O0 x ls) (good := goodL ls) (R := PR O0) (L := PL x (ls.map .str) .non O0.length none none) (O := O0 ++ [.lst []]) (O1 := O0 ++ [.lst []]) (n := ls.length)
      (by
        have := lenE (O0 ++ [.lst []])
        generalize ls.map D.str = zs at *
        simp [mCons, mNil, mCall, DK.g1, mVar, Res.bind, ofO, this]) (by omega) ⟨⟨.non, none, none, rfl, by rw [rowsTo_zero]; rfl, .inl ⟨rfl, rfl⟩⟩, fun j hj => absurd hj (Nat.not_lt_zero _)⟩ (fun j r f ⟨L', O', e, _⟩ => by rw [e]; rfl) fun i L O hi h => parse_turn hn hp hi h
    rcases lp with ⟨g, L', O', e, ⟨⟨h, y4, y5, rfl, rfl, hst⟩, _⟩⟩ | ⟨i, hi, g1, g2, L', O', e, f⟩
    · left
      rcases hst with ⟨h0, rfl⟩ | ⟨h0, a, b, rfl, ln, h1, h2⟩
      · exact absurd (List.length_eq_zero_iff.mp h0) hz
      refine ⟨⟨hz, g⟩, run_is ?_⟩
      have hh : headS ls = (a, b) := by
        unfold headS
        rw [h1]
        simp [h2]
      rw [hh]
      have s5 : rE (PL x (ls.map .str) (.tup [.int a, .int b]) O0.length y4 y5) (O0 ++ [.lst ((rowsTo ls ls.length).map rnD)]) = .ret (.tup [.int a, .int b, .hdl O0.length]) (O0 ++ [.lst ((rowsTo ls ls.length).map rnD)]) := by
        generalize (rowsTo ls ls.length).map rnD = zr
        generalize ls.map D.str = zs
        simp [runF, sSeq, sIf, sNext, sDrop, sRet, sRetN, sAsg, ofRes, ofB, bName, bNil, bCons, bTup, bLst, bSubL, mTest, mOp, mVar, mC, mChain, mAnd, mOr, mNot, mIf, mAndV, mOrV, mNotV, mNeg, mCons, mNil, mTup, mLst, newL, mCall, mFn, arity, g1, g2, gLen, gInt, gAbs, gMax2, gMin2, gIx, seqOf, lsqOf, lstOf, Res.bind, ofO, gAdd_ok, gSub_ok, gEq_int, gNe_int, gLt_int, gLe_int, gGt_int, gGe_int, gEq_bl, gNe_bl, gEq_str, gNe_str, mIsi, mIsiT, tyD, kitL, kitTab, atI_c0, atI_c1, atI_c2, atI_c3, atI_c4, sForR1, int1, int2, mMeth, mMake, mFld, sFldM, gIs, gIsNot, isNon_t, sRaise, gList, newLO]
      rw [parse_is, seq_next s0, seq_next s1, seq_next s2, seq_next s3, seq_next e, s5]
    · right
      refine ⟨i + 1, O', .inr ⟨i, hi, g1, g2, rfl⟩, run_is ?_, f⟩
      rw [parse_is, seq_next s0, seq_next s1, seq_next s2, seq_next s3, seq_exc e]
theorem parse_exc {y : Exn} (h : f_lines_of [.str x] O0 = .exc y O0) : f_read_notice [.str x] O0 = .exc y O0 := by
  refine run_is ?_
  have s0 : sAsg (mFn (arity 1 f_lines_of) [] (mCons (mVar 0) mNil)) (bName 1) [some (.str x), none, none, none, none, none] O0 = .exc y [some (.str x), none, none, none, none, none] O0 := by
    simp [runF, sSeq, sIf, sNext, sDrop, sRet, sRetN, sAsg, ofRes, ofB, bName, bNil, bCons, bTup, bLst, bSubL, mTest, mOp, mVar, mC, mChain, mAnd, mOr, mNot, mIf, mAndV, mOrV, mNotV, mNeg, mCons, mNil, mTup, mLst, newL, mCall, mFn, arity, g1, g2, gLen, gInt, gAbs, gMax2, gMin2, gIx, seqOf, lsqOf, lstOf, Res.bind, ofO, gAdd_ok, gSub_ok, gEq_int, gNe_int, gLt_int, gLe_int, gGt_int, gGe_int, gEq_bl, gNe_bl, gEq_str, gNe_str, mIsi, mIsiT, tyD, kitL, kitTab, atI_c0, atI_c1, atI_c2, atI_c3, atI_c4, sForR1, int1, int2, mMeth, mMake, mFld, sFldM, gIs, gIsNot, isNon_t, sRaise, gList, newLO, h]
  rw [parse_is, seq_exc s0]
end
end DK.k48
end
section
set_option Elab.async false
set_option linter.all false
set_option autoImplicit false
set_option maxRecDepth 100000
set_option maxHeartbeats 4000000
/-! K48D: what is due of the lines of a notice, in plain Lean. -/
namespace DK.k48
open PySem L2 DK DK.Sp DK.Rd DK.Lc DK.Ln
theorem lt_empty {a : Str} (h : nameB a = true) : PySem.W.dataLt (.str ("" : Str)) (.str a) = true := by
  have hl := (nameB_len h).1
  have hll := len_list a
  show PyProof.Rows.lexLt PyProof.Rows.itemOrd [Sum.inr (("" : Str)).cps.toList] [Sum.inr a.cps.toList] = true
  obtain ⟨c, cs, e⟩ : ∃ c cs, a.cps.toList = c :: cs := by
    match h : a.cps.toList with
    | [] => rw [h] at hll; simp at hll; omega
    | c :: cs => exact ⟨c, cs, rfl⟩
  rw [PyProof.Rows.lex_diff (fun z => by have := Sum.inr.inj z; rw [e] at this; cases this)]
  rw [e]
  exact decide_eq_true (by show ([] : List Nat) < c :: cs; exact List.Lex.nil)
section
variable {O O0 : Store} {n : Nat} {ls : List Str} {x : Str}
abbrev eA : SM := (sAsg (mBS (gSplit false) (mOp gIx (mVar 0) (mVar 3)) (mCons (mC (.str " ")) mNil)) (bName 4))
abbrev eB : SM := (sIf (mOr (mTest (mOp gNe (mCall (g1 gLen) (mCons (mVar 4) mNil)) (mC (.int 2)))) (mOr (mNot (mTest (mFn (arity 1 f_law_is_name) [] (mCons (mOp gIx (mVar 4) (mC (.int 0))) mNil)))) (mOr (mAnd (mTest (mOp gNe (mOp gIx (mVar 4) (mC (.int 1))) (mC (.str "never")))) (mNot (mTest (mFn (arity 1 f_law_is_number) [] (mCons (mOp gIx (mVar 4) (mC (.int 1))) mNil))))) (mTest (mOp gLeD (mOp gIx (mVar 4) (mC (.int 0))) (mVar 2)))))) (sRet (mOp (gAdd false) (mVar 3) (mC (.int 1)))) sNext)
abbrev eC : SM := (sAsg (mOp gIx (mVar 4) (mC (.int 0))) (bName 2))
abbrev dT : SM := sSeq eA (sSeq eB eC)
abbrev u0 : SM := (sIf (mTest (mOp gEq (mVar 0) (mLst false mNil))) (sRet (mC (.int 1))) sNext)
abbrev u1 : SM := (sAsg (mBS (gSplit false) (mOp gIx (mVar 0) (mC (.int 0))) (mCons (mC (.str " ")) mNil)) (bName 1))
abbrev u2 : SM := (sIf (mOr (mTest (mOp gNe (mCall (g1 gLen) (mCons (mVar 1) mNil)) (mC (.int 4)))) (mOr (mTest (mOp gNe (mOp gIx (mVar 1) (mC (.int 0))) (mC (.str "notice")))) (mOr (mTest (mOp gNe (mOp gIx (mVar 1) (mC (.int 2))) (mC (.str "at")))) (mOr (mNot (mTest (mFn (arity 1 f_law_is_number) [] (mCons (mOp gIx (mVar 1) (mC (.int 1))) mNil)))) (mNot (mTest (mFn (arity 1 f_law_is_number) [] (mCons (mOp gIx (mVar 1) (mC (.int 3))) mNil)))))))) (sRet (mC (.int 1))) sNext)
abbrev u3 : SM := (sAsg (mC (.str "")) (bName 2))
theorem due_is : b_law_due = sSeq u0 (sSeq u1 (sSeq u2 (sSeq u3 (sSeq (sForR2 (mCons (mC (.int 1)) (mCons (mCall (DK.g1 gLen) (mCons (mVar 0) mNil)) mNil)) (bName 3) dT) (sRet (mC (.int 0))))))) := rfl
def lastN (ls : List Str) (i : Nat) : Str := if i ≤ 1 then "" else (((ls[i - 1]?).bind fun q => rowP (parts q)).map (·.1)).getD ""
structure DI (ls : List Str) (zp : D) (O0 : Store) (i : Nat) (L : Loc) (O : Store) : Prop where
  ex : ∃ y3 y4, L = [some (.lst (ls.map .str)), some zp, some (.str (lastN ls i)), y3, y4] ∧ O = O0
  gd : ∀ j, j < i → goodL ls j = true
def DR (O0 : Store) (i : Nat) (r : SR) : Prop := r = .ret (.int (((i + 1 : Nat)) : Int)) O0
theorem lastN_succ {i : Nat} {ln : Str} {r : RN} (h1 : 1 ≤ i) (h : ls[i]? = some ln) (hr : rowP (parts ln) = some r) : lastN ls (i + 1) = r.1 := by
  unfold lastN
  rw [if_neg (by omega), show i + 1 - 1 = i by omega, h]
  simp [hr]
theorem rowP_name {ps : List Str} {r : RN} (h : rowP ps = some r) : ∃ b, ps = [r.1, b] ∧ nameB r.1 = true := by
  unfold rowP at h
  split at h
  · rename_i a b
    split at h
    · rename_i hn
      refine ⟨b, ?_⟩
      split at h
      · cases h; exact ⟨rfl, hn⟩
      · split at h
        · cases h; exact ⟨rfl, hn⟩
        · cases h
    · cases h
  · cases h
theorem good_lt {i : Nat} {ln : Str} {r : RN} (h1 : 1 ≤ i) (hi : i < ls.length) (h : ls[i]? = some ln) (hr : rowP (parts ln) = some r) (gd : ∀ j, j < i → goodL ls j = true) : goodL ls i = PySem.W.dataLt (.str (lastN ls i)) (.str r.1) := by
  have gdi : goodL ls i = (decide (i = 1) || afterR ((ls[i - 1]?).bind fun q => rowP (parts q)) r) := by
    unfold goodL
    rw [h]
    simp only [if_neg (show ¬ i = 0 by omega), hr]
  rw [gdi]
  by_cases hi1 : i = 1
  · subst hi1
    have : lastN ls 1 = "" := by unfold lastN; rw [if_pos (by omega)]
    rw [this]
    obtain ⟨b, _, hn⟩ := rowP_name hr
    rw [lt_empty hn]
    rfl
  · obtain ⟨a, ln', hl', ha, _⟩ := last_row (i := i) (by omega) (by omega) gd
    have : lastN ls i = a.1 := by
      unfold lastN
      rw [if_neg (by omega), hl']
      simp [ha]
    rw [this, decide_eq_false hi1, hl']
    simp [ha, afterR, ltN]
theorem due_turn {i : Nat} {L : Loc} {zp : D} (hp : ∀ p ∈ ls, p.length ≤ 900) (h1 : 1 ≤ i) (hi : i < ls.length) (h : DI ls zp O0 i L O) :
    (goodL ls i = true → ∃ L' O', turnOf (bName 3) dT (.int (i : Int)) L O = .next L' O' ∧ DI ls zp O0 (i + 1) L' O') ∧ (goodL ls i = false → DR O0 i (turnOf (bName 3) dT (.int (i : Int)) L O)) := by
  obtain ⟨⟨y3, y4, rfl, rfl⟩, gd⟩ := h
  obtain ⟨ln, hln⟩ : ∃ ln, ls[i]? = some ln := ⟨ls[i], List.getElem?_eq_getElem hi⟩
  have hl := hp ln (List.mem_of_getElem? hln)
  have ht : turnOf (bName 3) dT (.int (i : Int)) [some (.lst (ls.map .str)), some zp, some (.str (lastN ls i)), y3, y4] O = sSeq eA (sSeq eB eC) [some (.lst (ls.map .str)), some zp, some (.str (lastN ls i)), some (.int (i : Int)), y4] O := rfl
  rw [ht]
  have e1 := ix_line (O := O) hln
  have g := Rd.gs32 (O := O) (x := ln) (by omega)
  have sA : eA [some (.lst (ls.map .str)), some zp, some (.str (lastN ls i)), some (.int (i : Int)), y4] O = .next [some (.lst (ls.map .str)), some zp, some (.str (lastN ls i)), some (.int (i : Int)), some (.lst ((parts ln).map .str))] O := by
    generalize ls.map D.str = zs at *
    generalize (parts ln).map D.str = zq at *
    simp [mBS, runF, sSeq, sIf, sNext, sDrop, sRet, sRetN, sAsg, ofRes, ofB, bName, bNil, bCons, bTup, bLst, bSubL, mTest, mOp, mVar, mC, mChain, mAnd, mOr, mNot, mIf, mAndV, mOrV, mNotV, mNeg, mCons, mNil, mTup, mLst, newL, mCall, mFn, arity, g1, g2, gLen, gInt, gAbs, gMax2, gMin2, seqOf, lsqOf, lstOf, Res.bind, ofO, gAdd_ok, gSub_ok, gEq_int, gNe_int, gLt_int, gLe_int, gGt_int, gGe_int, gEq_bl, gNe_bl, gEq_str, gNe_str, mIsi, mIsiT, tyD, kitL, kitTab, atI_c0, atI_c1, atI_c2, atI_c3, atI_c4, sForR1, int1, int2, mMeth, mMake, mFld, sFldM, gIs, gIsNot, isNon_t, sRaise, gList, newLO, e1, g]
  rw [seq_next sA]
  have c : ((i + 1 : Nat) : Int) = (i : Int) + 1 := by omega
  unfold DR
  rw [c]
  have none_bad : rowP (parts ln) = none → goodL ls i = false := fun hr => by
    unfold goodL
    rw [hln]
    simp only [if_neg (show ¬ i = 0 by omega), hr]
  have refuse : rowP (parts ln) = none → sSeq eB eC [some (.lst (ls.map .str)), some zp, some (.str (lastN ls i)), some (.int (i : Int)), some (.lst ((parts ln).map .str))] O = .ret (.int ((i : Int) + 1)) O → (goodL ls i = true → ∃ L' O', sSeq eB eC [some (.lst (ls.map .str)), some zp, some (.str (lastN ls i)), some (.int (i : Int)), some (.lst ((parts ln).map .str))] O = .next L' O' ∧ DI ls zp O (i + 1) L' O') ∧ (goodL ls i = false → sSeq eB eC [some (.lst (ls.map .str)), some zp, some (.str (lastN ls i)), some (.int (i : Int)), some (.lst ((parts ln).map .str))] O = .ret (.int ((i : Int) + 1)) O) := fun hr e => by
    rw [none_bad hr]
    exact ⟨fun z => (by cases z), fun _ => e⟩
  by_cases hl2 : (parts ln).length = 2
  · match hpp : parts ln, hl2 with
    | [a, b], _ =>
      have ha : a.length ≤ 900 := by have := split_part (c := 32) (x := ln) (p := a) (by rw [show Txt.split ln (one 32) = parts ln from rfl, hpp]; simp); omega
      have hb : b.length ≤ 900 := by have := split_part (c := 32) (x := ln) (p := b) (by rw [show Txt.split ln (one 32) = parts ln from rfl, hpp]; simp); omega
      have n1 := law_name_ok (O := O) ha
      have n2 := law_number_ok (O := O) hb
      rw [← y_lname] at n1
      rw [← y_lnum] at n2
      rw [hpp] at refuse
      cases h1n : nameB a
      · refine refuse (by simp [rowP, h1n]) ?_
        rw [h1n] at n1
        generalize lastN ls i = la at *
        generalize ls.map D.str = zs at *
        simp [runF, sSeq, sIf, sNext, sDrop, sRet, sRetN, sAsg, ofRes, ofB, bName, bNil, bCons, bTup, bLst, bSubL, mTest, mOp, mVar, mC, mChain, mAnd, mOr, mNot, mIf, mAndV, mOrV, mNotV, mNeg, mCons, mNil, mTup, mLst, newL, mCall, mFn, arity, g1, g2, gLen, gInt, gAbs, gMax2, gMin2, gIx, seqOf, lsqOf, lstOf, Res.bind, ofO, gAdd_ok, gSub_ok, gEq_int, gNe_int, gLt_int, gLe_int, gGt_int, gGe_int, gEq_bl, gNe_bl, gEq_str, gNe_str, mIsi, mIsiT, tyD, kitL, kitTab, atI_c0, atI_c1, atI_c2, atI_c3, atI_c4, sForR1, int1, int2, mMeth, mMake, mFld, sFldM, gIs, gIsNot, isNon_t, sRaise, gList, newLO, n1]
      · rw [h1n] at n1
        have some_case : ∀ r : RN, rowP (parts ln) = some r → r.1 = a → (b = "never" ∨ numW b = true) → (goodL ls i = true → ∃ L' O', sSeq eB eC [some (.lst (ls.map .str)), some zp, some (.str (lastN ls i)), some (.int (i : Int)), some (.lst ([a, b].map .str))] O = .next L' O' ∧ DI ls zp O (i + 1) L' O') ∧ (goodL ls i = false → sSeq eB eC [some (.lst (ls.map .str)), some zp, some (.str (lastN ls i)), some (.int (i : Int)), some (.lst ([a, b].map .str))] O = .ret (.int ((i : Int) + 1)) O) := fun r hr hra hbv => by
          have gl := good_lt h1 hi hln hr gd
          have ls1 := lastN_succ h1 hln hr
          have cmp : gLeD O (.str a) (.str (lastN ls i)) = some (.bl (!PySem.W.dataLt (.str (lastN ls i)) (.str a)), O) := rfl
          rw [← hra] at cmp
          rw [hra] at cmp ls1 gl
          have q : goodL ls i = true → DI ls zp O (i + 1) [some (.lst (ls.map .str)), some zp, some (.str a), some (.int (i : Int)), some (.lst ([a, b].map .str))] O := fun g => ⟨⟨_, _, by rw [ls1], rfl⟩, fun j hj => by
            by_cases hj2 : j = i
            · rw [hj2]; exact g
            · exact gd j (by omega)⟩
          rw [← gl] at cmp
          have bv : ¬ b = "never" → numW b = true := fun z => hbv.resolve_left z
          refine ⟨fun g => ⟨_, _, ?_, q g⟩, fun g => ?_⟩
          · rw [g] at cmp
            clear q refuse
            generalize lastN ls i = la at *
            generalize ls.map D.str = zs at *
            by_cases hv : b = "never"
            · simp [runF, sSeq, sIf, sNext, sDrop, sRet, sRetN, sAsg, ofRes, ofB, bName, bNil, bCons, bTup, bLst, bSubL, mTest, mOp, mVar, mC, mChain, mAnd, mOr, mNot, mIf, mAndV, mOrV, mNotV, mNeg, mCons, mNil, mTup, mLst, newL, mCall, mFn, arity, g1, g2, gLen, gInt, gAbs, gMax2, gMin2, gIx, seqOf, lsqOf, lstOf, Res.bind, ofO, gAdd_ok, gSub_ok, gEq_int, gNe_int, gLt_int, gLe_int, gGt_int, gGe_int, gEq_bl, gNe_bl, gEq_str, gNe_str, mIsi, mIsiT, tyD, kitL, kitTab, atI_c0, atI_c1, atI_c2, atI_c3, atI_c4, sForR1, int1, int2, mMeth, mMake, mFld, sFldM, gIs, gIsNot, isNon_t, sRaise, gList, newLO, n1, cmp, hv]
            · rw [bv hv] at n2
              simp [runF, sSeq, sIf, sNext, sDrop, sRet, sRetN, sAsg, ofRes, ofB, bName, bNil, bCons, bTup, bLst, bSubL, mTest, mOp, mVar, mC, mChain, mAnd, mOr, mNot, mIf, mAndV, mOrV, mNotV, mNeg, mCons, mNil, mTup, mLst, newL, mCall, mFn, arity, g1, g2, gLen, gInt, gAbs, gMax2, gMin2, gIx, seqOf, lsqOf, lstOf, Res.bind, ofO, gAdd_ok, gSub_ok, gEq_int, gNe_int, gLt_int, gLe_int, gGt_int, gGe_int, gEq_bl, gNe_bl, gEq_str, gNe_str, mIsi, mIsiT, tyD, kitL, kitTab, atI_c0, atI_c1, atI_c2, atI_c3, atI_c4, sForR1, int1, int2, mMeth, mMake, mFld, sFldM, gIs, gIsNot, isNon_t, sRaise, gList, newLO, n1, n2, cmp, hv]
          · rw [g] at cmp
            clear q refuse
            generalize lastN ls i = la at *
            generalize ls.map D.str = zs at *
            by_cases hv : b = "never"
            · simp [runF, sSeq, sIf, sNext, sDrop, sRet, sRetN, sAsg, ofRes, ofB, bName, bNil, bCons, bTup, bLst, bSubL, mTest, mOp, mVar, mC, mChain, mAnd, mOr, mNot, mIf, mAndV, mOrV, mNotV, mNeg, mCons, mNil, mTup, mLst, newL, mCall, mFn, arity, g1, g2, gLen, gInt, gAbs, gMax2, gMin2, gIx, seqOf, lsqOf, lstOf, Res.bind, ofO, gAdd_ok, gSub_ok, gEq_int, gNe_int, gLt_int, gLe_int, gGt_int, gGe_int, gEq_bl, gNe_bl, gEq_str, gNe_str, mIsi, mIsiT, tyD, kitL, kitTab, atI_c0, atI_c1, atI_c2, atI_c3, atI_c4, sForR1, int1, int2, mMeth, mMake, mFld, sFldM, gIs, gIsNot, isNon_t, sRaise, gList, newLO, n1, cmp, hv]
            · rw [bv hv] at n2
              simp [runF, sSeq, sIf, sNext, sDrop, sRet, sRetN, sAsg, ofRes, ofB, bName, bNil, bCons, bTup, bLst, bSubL, mTest, mOp, mVar, mC, mChain, mAnd, mOr, mNot, mIf, mAndV, mOrV, mNotV, mNeg, mCons, mNil, mTup, mLst, newL, mCall, mFn, arity, g1, g2, gLen, gInt, gAbs, gMax2, gMin2, gIx, seqOf, lsqOf, lstOf, Res.bind, ofO, gAdd_ok, gSub_ok, gEq_int, gNe_int, gLt_int, gLe_int, gGt_int, gGe_int, gEq_bl, gNe_bl, gEq_str, gNe_str, mIsi, mIsiT, tyD, kitL, kitTab, atI_c0, atI_c1, atI_c2, atI_c3, atI_c4, sForR1, int1, int2, mMeth, mMake, mFld, sFldM, gIs, gIsNot, isNon_t, sRaise, gList, newLO, n1, n2, cmp, hv]
        by_cases hv : b = "never"
        · exact some_case (a, none) (by rw [hpp]; simp [rowP, h1n, hv]) rfl (.inl hv)
        · cases h2n : numW b
          · refine refuse (by simp [rowP, h1n, hv, h2n]) ?_
            rw [h2n] at n2
            clear some_case
            generalize lastN ls i = la at *
            generalize ls.map D.str = zs at *
            simp [runF, sSeq, sIf, sNext, sDrop, sRet, sRetN, sAsg, ofRes, ofB, bName, bNil, bCons, bTup, bLst, bSubL, mTest, mOp, mVar, mC, mChain, mAnd, mOr, mNot, mIf, mAndV, mOrV, mNotV, mNeg, mCons, mNil, mTup, mLst, newL, mCall, mFn, arity, g1, g2, gLen, gInt, gAbs, gMax2, gMin2, gIx, seqOf, lsqOf, lstOf, Res.bind, ofO, gAdd_ok, gSub_ok, gEq_int, gNe_int, gLt_int, gLe_int, gGt_int, gGe_int, gEq_bl, gNe_bl, gEq_str, gNe_str, mIsi, mIsiT, tyD, kitL, kitTab, atI_c0, atI_c1, atI_c2, atI_c3, atI_c4, sForR1, int1, int2, mMeth, mMake, mFld, sFldM, gIs, gIsNot, isNon_t, sRaise, gList, newLO, n1, n2, hv]
          · exact some_case (a, some (valW b)) (by rw [hpp]; simp [rowP, h1n, hv, h2n]) rfl (.inr h2n)
  · refine refuse (rowX (O := O) hl2).1 ?_
    have hl3 : (((parts ln).map D.str).length : Int) = ((parts ln).length : Int) := by rw [List.length_map]
    have hl2 : ¬ ((parts ln).length : Int) = 2 := by omega
    generalize lastN ls i = la at *
    generalize (parts ln).map D.str = zq at *
    generalize ls.map D.str = zs at *
    simp [runF, sSeq, sIf, sNext, sDrop, sRet, sRetN, sAsg, ofRes, ofB, bName, bNil, bCons, bTup, bLst, bSubL, mTest, mOp, mVar, mC, mChain, mAnd, mOr, mNot, mIf, mAndV, mOrV, mNotV, mNeg, mCons, mNil, mTup, mLst, newL, mCall, mFn, arity, g1, g2, gLen, gInt, gAbs, gMax2, gMin2, gIx, seqOf, lsqOf, lstOf, Res.bind, ofO, gAdd_ok, gSub_ok, gEq_int, gNe_int, gLt_int, gLe_int, gGt_int, gGe_int, gEq_bl, gNe_bl, gEq_str, gNe_str, mIsi, mIsiT, tyD, kitL, kitTab, atI_c0, atI_c1, atI_c2, atI_c3, atI_c4, sForR1, int1, int2, mMeth, mMake, mFld, sFldM, gIs, gIsNot, isNon_t, sRaise, gList, newLO, hl3, hl2]
theorem eq_nil (ok : ∀ p ∈ ls, PyData.strOk p = true) : gEq O (.lst (ls.map .str)) (.lst []) = some (.bl (decide (ls = [])), O) := by
  refine gEq_of ?_
  rw [eqD_pd (okV_strs ok) (by rfl) (.inl rfl)]
  cases ls with
  | nil => rfl
  | cons x xs => rfl
theorem due_ok (hn : ls.length ≤ 800) (hp : ∀ p ∈ ls, p.length ≤ 900) (ok : ∀ p ∈ ls, PyData.strOk p = true) :
    (Fine ls ∧ f_law_due [.lst (ls.map .str)] O = .ok (.int 0) O) ∨ ∃ m : Nat, Bad ls m ∧ f_law_due [.lst (ls.map .str)] O = .ok (.int (m : Int)) O := by
  have run : ∀ q, (match b_law_due [some (.lst (ls.map .str)), none, none, none, none] O with
      | .next _ O1 => Res.ok D.non O1
      | .ret d O1 => .ok d O1
      | .exc x _ O1 => .exc x O1
      | _ => .bad) = q → f_law_due [.lst (ls.map .str)] O = q := fun q e => e
  have en := eq_nil (O := O) ok
  by_cases hz : ls = []
  · right
    refine ⟨1, .inl ⟨hz, rfl⟩, run _ ?_⟩
    rw [decide_eq_true hz] at en
    have s0 : u0 [some (.lst (ls.map .str)), none, none, none, none] O = .ret (.int 1) O := by
      generalize ls.map D.str = zs at *
      simp [runF, sSeq, sIf, sNext, sDrop, sRet, sRetN, sAsg, ofRes, ofB, bName, bNil, bCons, bTup, bLst, bSubL, mTest, mOp, mVar, mC, mChain, mAnd, mOr, mNot, mIf, mAndV, mOrV, mNotV, mNeg, mCons, mNil, mTup, mLst, newL, mCall, mFn, arity, g1, g2, gLen, gInt, gAbs, gMax2, gMin2, gIx, seqOf, lsqOf, lstOf, Res.bind, ofO, gAdd_ok, gSub_ok, gEq_int, gNe_int, gLt_int, gLe_int, gGt_int, gGe_int, gEq_bl, gNe_bl, gEq_str, gNe_str, mIsi, mIsiT, tyD, kitL, kitTab, atI_c0, atI_c1, atI_c2, atI_c3, atI_c4, sForR1, int1, int2, mMeth, mMake, mFld, sFldM, gIs, gIsNot, isNon_t, sRaise, gList, newLO, en]
    rw [due_is, seq_ret s0]
    rfl
  · rw [decide_eq_false hz] at en
    obtain ⟨ln, hln⟩ : ∃ ln, ls[0]? = some ln := ⟨ls[0]'(List.length_pos_iff.mpr hz), List.getElem?_eq_getElem _⟩
    have hpos := List.length_pos_iff.mpr hz
    have hl := hp ln (List.mem_of_getElem? hln)
    have e0 : gIx O (.lst (ls.map .str)) (.int 0) = some (.str ln, O) := ix_line (i := 0) hln
    have g := Rd.gs32 (O := O) (x := ln) (by omega)
    have gd0 : goodL ls 0 = (headP (parts ln)).isSome := by
      unfold goodL
      rw [hln]
      rfl
    have s0 : u0 [some (.lst (ls.map .str)), none, none, none, none] O = .next [some (.lst (ls.map .str)), none, none, none, none] O := by
      generalize ls.map D.str = zs at *
      simp [runF, sSeq, sIf, sNext, sDrop, sRet, sRetN, sAsg, ofRes, ofB, bName, bNil, bCons, bTup, bLst, bSubL, mTest, mOp, mVar, mC, mChain, mAnd, mOr, mNot, mIf, mAndV, mOrV, mNotV, mNeg, mCons, mNil, mTup, mLst, newL, mCall, mFn, arity, g1, g2, gLen, gInt, gAbs, gMax2, gMin2, gIx, seqOf, lsqOf, lstOf, Res.bind, ofO, gAdd_ok, gSub_ok, gEq_int, gNe_int, gLt_int, gLe_int, gGt_int, gGe_int, gEq_bl, gNe_bl, gEq_str, gNe_str, mIsi, mIsiT, tyD, kitL, kitTab, atI_c0, atI_c1, atI_c2, atI_c3, atI_c4, sForR1, int1, int2, mMeth, mMake, mFld, sFldM, gIs, gIsNot, isNon_t, sRaise, gList, newLO, en]
    have s1 : u1 [some (.lst (ls.map .str)), none, none, none, none] O = .next [some (.lst (ls.map .str)), some (.lst ((parts ln).map .str)), none, none, none] O := by
      generalize ls.map D.str = zs at *
      generalize (parts ln).map D.str = zq at *
      simp [mBS, runF, sSeq, sIf, sNext, sDrop, sRet, sRetN, sAsg, ofRes, ofB, bName, bNil, bCons, bTup, bLst, bSubL, mTest, mOp, mVar, mC, mChain, mAnd, mOr, mNot, mIf, mAndV, mOrV, mNotV, mNeg, mCons, mNil, mTup, mLst, newL, mCall, mFn, arity, g1, g2, gLen, gInt, gAbs, gMax2, gMin2, seqOf, lsqOf, lstOf, Res.bind, ofO, gAdd_ok, gSub_ok, gEq_int, gNe_int, gLt_int, gLe_int, gGt_int, gGe_int, gEq_bl, gNe_bl, gEq_str, gNe_str, mIsi, mIsiT, tyD, kitL, kitTab, atI_c0, atI_c1, atI_c2, atI_c3, atI_c4, sForR1, int1, int2, mMeth, mMake, mFld, sFldM, gIs, gIsNot, isNon_t, sRaise, gList, newLO, e0, g]
    have badE : headP (parts ln) = none → u2 [some (.lst (ls.map .str)), some (.lst ((parts ln).map .str)), none, none, none] O = .ret (.int 1) O → ∃ m : Nat, Bad ls m ∧ f_law_due [.lst (ls.map .str)] O = .ok (.int (m : Int)) O := fun h e => ⟨1, .inr ⟨0, hpos, fun j hj => absurd hj (Nat.not_lt_zero _), by rw [gd0, h]; rfl, rfl⟩, run _ (by rw [due_is, seq_next s0, seq_next s1, seq_ret e]; rfl)⟩
    by_cases hl4 : (parts ln).length = 4
    · match hpp : parts ln, hl4 with
      | [a, b, c, d], _ =>
        have hb : b.length ≤ 900 := by have := split_part (c := 32) (x := ln) (p := b) (by rw [show Txt.split ln (one 32) = parts ln from rfl, hpp]; simp); omega
        have hd : d.length ≤ 900 := by have := split_part (c := 32) (x := ln) (p := d) (by rw [show Txt.split ln (one 32) = parts ln from rfl, hpp]; simp); omega
        have n1 := law_number_ok (O := O) hb
        have n2 := law_number_ok (O := O) hd
        rw [← y_lnum] at n1 n2
        rw [hpp] at badE s1
        by_cases ha : a = "notice" ∧ c = "at" ∧ numW b = true ∧ numW d = true
        · obtain ⟨ha, hc, h1, h2⟩ := ha
          have g0 : goodL ls 0 = true := by rw [gd0, hpp]; simp [headP, ha, hc, h1, h2]
          rw [h1] at n1
          rw [h2] at n2
          have s2 : u2 [some (.lst (ls.map .str)), some (.lst ([a, b, c, d].map .str)), none, none, none] O = .next [some (.lst (ls.map .str)), some (.lst ([a, b, c, d].map .str)), none, none, none] O := by
            generalize ls.map D.str = zs at *
            simp [runF, sSeq, sIf, sNext, sDrop, sRet, sRetN, sAsg, ofRes, ofB, bName, bNil, bCons, bTup, bLst, bSubL, mTest, mOp, mVar, mC, mChain, mAnd, mOr, mNot, mIf, mAndV, mOrV, mNotV, mNeg, mCons, mNil, mTup, mLst, newL, mCall, mFn, arity, g1, g2, gLen, gInt, gAbs, gMax2, gMin2, gIx, seqOf, lsqOf, lstOf, Res.bind, ofO, gAdd_ok, gSub_ok, gEq_int, gNe_int, gLt_int, gLe_int, gGt_int, gGe_int, gEq_bl, gNe_bl, gEq_str, gNe_str, mIsi, mIsiT, tyD, kitL, kitTab, atI_c0, atI_c1, atI_c2, atI_c3, atI_c4, sForR1, int1, int2, mMeth, mMake, mFld, sFldM, gIs, gIsNot, isNon_t, sRaise, gList, newLO, ha, hc, n1, n2]
          have s3 : u3 [some (.lst (ls.map .str)), some (.lst ([a, b, c, d].map .str)), none, none, none] O = .next [some (.lst (ls.map .str)), some (.lst ([a, b, c, d].map .str)), some (.str ""), none, none] O := by
            simp [runF, sSeq, sIf, sNext, sDrop, sRet, sRetN, sAsg, ofRes, ofB, bName, bNil, bCons, bTup, bLst, bSubL, mTest, mOp, mVar, mC, mChain, mAnd, mOr, mNot, mIf, mAndV, mOrV, mNotV, mNeg, mCons, mNil, mTup, mLst, newL, mCall, mFn, arity, g1, g2, gLen, gInt, gAbs, gMax2, gMin2, gIx, seqOf, lsqOf, lstOf, Res.bind, ofO, gAdd_ok, gSub_ok, gEq_int, gNe_int, gLt_int, gLe_int, gGt_int, gGe_int, gEq_bl, gNe_bl, gEq_str, gNe_str, mIsi, mIsiT, tyD, kitL, kitTab, atI_c0, atI_c1, atI_c2, atI_c3, atI_c4, sForR1, int1, int2, mMeth, mMake, mFld, sFldM, gIs, gIsNot, isNon_t, sRaise, gList, newLO]
          have lenE : gLen O (.lst (ls.map .str)) = some (.int (ls.length : Int), O) := by simp [gLen, seqOf, lsqOf, lstOf]
          have lp := forR2_first (t := mCons (mC (.int 1)) (mCons (mCall (DK.g1 gLen) (mCons (mVar 0) mNil)) mNil)) (b := bName 3) (body := dT) (I := DI ls (.lst ([a, b, c, d].map .str)) O) (good := goodL ls) (R := DR O) (L := [some (.lst (ls.map .str)), some (.lst ([a, b, c, d].map .str)), some (.str ""), none, none]) (O := O) (O1 := O) (a := 1) (n := ls.length)
            (by
              generalize ls.map D.str = zs at *
              simp [mCons, mNil, mCall, DK.g1, mVar, mC, Res.bind, ofO, lenE]) hpos (by omega) ⟨⟨none, none, rfl, rfl⟩, fun j hj => by obtain rfl : j = 0 := (by omega); exact g0⟩ (fun j r f e => by rw [show r = _ from e]; rfl) fun i L O h1 hi h => due_turn hp h1 hi h
          rcases lp with ⟨g1, L', O', e, ⟨⟨y3, y4, rfl, rfl⟩, gd⟩⟩ | ⟨i, h1, hi, g1, g2, r⟩
          · left
            refine ⟨⟨hz, fun k hk => gd k hk⟩, run _ ?_⟩
            rw [due_is, seq_next s0, seq_next s1, seq_next s2, seq_next s3, seq_next e]
            rfl
          · right
            refine ⟨i + 1, .inr ⟨i, hi, fun j hj => ?_, g2, rfl⟩, run _ ?_⟩
            · by_cases h0 : j = 0
              · rw [h0]; exact g0
              · exact g1 j (by omega) hj
            · rw [due_is, seq_next s0, seq_next s1, seq_next s2, seq_next s3, seq_ret (show sForR2 _ _ _ _ _ = _ from r)]
        · right
          refine badE (by show (if a = "notice" ∧ c = "at" ∧ numW b = true ∧ numW d = true then some (valW b, valW d) else none) = none; rw [if_neg ha]) ?_
          have hcs : ¬ a = "notice" ∨ ¬ c = "at" ∨ numW b = false ∨ numW d = false := by
            rcases Decidable.em (a = "notice") with h | h
            · rcases Decidable.em (c = "at") with h' | h'
              · cases hb' : numW b
                · exact .inr (.inr (.inl rfl))
                · cases hd' : numW d
                  · exact .inr (.inr (.inr rfl))
                  · exact absurd ⟨h, h', hb', hd'⟩ ha
              · exact .inr (.inl h')
            · exact .inl h
          clear ha badE s1
          generalize ls.map D.str = zs at *
          by_cases ha : a = "notice"
          · by_cases hc : c = "at"
            · cases h1 : numW b
              · rw [h1] at n1
                simp [runF, sSeq, sIf, sNext, sDrop, sRet, sRetN, sAsg, ofRes, ofB, bName, bNil, bCons, bTup, bLst, bSubL, mTest, mOp, mVar, mC, mChain, mAnd, mOr, mNot, mIf, mAndV, mOrV, mNotV, mNeg, mCons, mNil, mTup, mLst, newL, mCall, mFn, arity, g1, g2, gLen, gInt, gAbs, gMax2, gMin2, gIx, seqOf, lsqOf, lstOf, Res.bind, ofO, gAdd_ok, gSub_ok, gEq_int, gNe_int, gLt_int, gLe_int, gGt_int, gGe_int, gEq_bl, gNe_bl, gEq_str, gNe_str, mIsi, mIsiT, tyD, kitL, kitTab, atI_c0, atI_c1, atI_c2, atI_c3, atI_c4, sForR1, int1, int2, mMeth, mMake, mFld, sFldM, gIs, gIsNot, isNon_t, sRaise, gList, newLO, ha, hc, n1]
              · cases h2 : numW d
                · rw [h1] at n1
                  rw [h2] at n2
                  simp [runF, sSeq, sIf, sNext, sDrop, sRet, sRetN, sAsg, ofRes, ofB, bName, bNil, bCons, bTup, bLst, bSubL, mTest, mOp, mVar, mC, mChain, mAnd, mOr, mNot, mIf, mAndV, mOrV, mNotV, mNeg, mCons, mNil, mTup, mLst, newL, mCall, mFn, arity, g1, g2, gLen, gInt, gAbs, gMax2, gMin2, gIx, seqOf, lsqOf, lstOf, Res.bind, ofO, gAdd_ok, gSub_ok, gEq_int, gNe_int, gLt_int, gLe_int, gGt_int, gGe_int, gEq_bl, gNe_bl, gEq_str, gNe_str, mIsi, mIsiT, tyD, kitL, kitTab, atI_c0, atI_c1, atI_c2, atI_c3, atI_c4, sForR1, int1, int2, mMeth, mMake, mFld, sFldM, gIs, gIsNot, isNon_t, sRaise, gList, newLO, ha, hc, n1, n2]
                · rw [h1, h2] at hcs
                  rcases hcs with h | h | h | h
                  · exact absurd ha h
                  · exact absurd hc h
                  · cases h
                  · cases h
            · simp [runF, sSeq, sIf, sNext, sDrop, sRet, sRetN, sAsg, ofRes, ofB, bName, bNil, bCons, bTup, bLst, bSubL, mTest, mOp, mVar, mC, mChain, mAnd, mOr, mNot, mIf, mAndV, mOrV, mNotV, mNeg, mCons, mNil, mTup, mLst, newL, mCall, mFn, arity, g1, g2, gLen, gInt, gAbs, gMax2, gMin2, gIx, seqOf, lsqOf, lstOf, Res.bind, ofO, gAdd_ok, gSub_ok, gEq_int, gNe_int, gLt_int, gLe_int, gGt_int, gGe_int, gEq_bl, gNe_bl, gEq_str, gNe_str, mIsi, mIsiT, tyD, kitL, kitTab, atI_c0, atI_c1, atI_c2, atI_c3, atI_c4, sForR1, int1, int2, mMeth, mMake, mFld, sFldM, gIs, gIsNot, isNon_t, sRaise, gList, newLO, ha, hc]
          · simp [runF, sSeq, sIf, sNext, sDrop, sRet, sRetN, sAsg, ofRes, ofB, bName, bNil, bCons, bTup, bLst, bSubL, mTest, mOp, mVar, mC, mChain, mAnd, mOr, mNot, mIf, mAndV, mOrV, mNotV, mNeg, mCons, mNil, mTup, mLst, newL, mCall, mFn, arity, g1, g2, gLen, gInt, gAbs, gMax2, gMin2, gIx, seqOf, lsqOf, lstOf, Res.bind, ofO, gAdd_ok, gSub_ok, gEq_int, gNe_int, gLt_int, gLe_int, gGt_int, gGe_int, gEq_bl, gNe_bl, gEq_str, gNe_str, mIsi, mIsiT, tyD, kitL, kitTab, atI_c0, atI_c1, atI_c2, atI_c3, atI_c4, sForR1, int1, int2, mMeth, mMake, mFld, sFldM, gIs, gIsNot, isNon_t, sRaise, gList, newLO, ha]
    · right
      refine badE (headX (O := O) hl4).1 ?_
      have hl3 : (((parts ln).map D.str).length : Int) = ((parts ln).length : Int) := by rw [List.length_map]
      have hl2 : ¬ ((parts ln).length : Int) = 4 := by omega
      clear s1 badE
      generalize (parts ln).map D.str = zq at *
      generalize ls.map D.str = zs at *
      simp [runF, sSeq, sIf, sNext, sDrop, sRet, sRetN, sAsg, ofRes, ofB, bName, bNil, bCons, bTup, bLst, bSubL, mTest, mOp, mVar, mC, mChain, mAnd, mOr, mNot, mIf, mAndV, mOrV, mNotV, mNeg, mCons, mNil, mTup, mLst, newL, mCall, mFn, arity, g1, g2, gLen, gInt, gAbs, gMax2, gMin2, gIx, seqOf, lsqOf, lstOf, Res.bind, ofO, gAdd_ok, gSub_ok, gEq_int, gNe_int, gLt_int, gLe_int, gGt_int, gGe_int, gEq_bl, gNe_bl, gEq_str, gNe_str, mIsi, mIsiT, tyD, kitL, kitTab, atI_c0, atI_c1, atI_c2, atI_c3, atI_c4, sForR1, int1, int2, mMeth, mMake, mFld, sFldM, gIs, gIsNot, isNon_t, sRaise, gList, newLO, hl3, hl2]
end
end DK.k48
end
section
set_option Elab.async false
set_option linter.all false
set_option autoImplicit false
set_option maxRecDepth 100000
set_option maxHeartbeats 4000000
/-! K48E: the lines of a notice told; lines spoilt, in plain Lean. -/
namespace DK.k48
open PySem L2 DK DK.Sp DK.Rd DK.Lc DK.Ln
theorem y_take : f_law_take = fTake := rfl
def tvS : Option Int → Str
  | none => "never"
  | some v => strN v
def lnR (r : RN) : Str := r.1 ++ " " ++ tvS r.2
def headLn (a b : Int) : Str := ("notice " : Str) ++ strN a ++ " at " ++ strN b
structure RowOK (r : RN) : Prop where
  nm : nameB r.1 = true
  v : ∀ v, r.2 = some v → 0 ≤ v ∧ v ≤ 1000000
theorem tv_line {o : Option Int} (h : ∀ v, o = some v → 0 ≤ v ∧ v ≤ 1000000) : LineOK 7 (tvS o) := by
  cases o with
  | none => exact (lit_ok (q := "never") (by decide +kernel)).mono (by decide +kernel)
  | some v => exact num_sg (h v rfl).1 (h v rfl).2
theorem row_line {r : RN} (h : RowOK r) : LineOK 20 (lnR r) := (((name_sg h.nm).app (lit_ok (q := " ") (by decide +kernel))).app (tv_line h.v)).mono (by decide +kernel)
theorem head_ln {a b : Int} (ha : 0 ≤ a) (ha1 : a ≤ 1000000) (hb : 0 ≤ b) (hb1 : b ≤ 1000000) : LineOK 30 (headLn a b) := ((((lit_ok (q := "notice ") (by decide +kernel)).app (num_sg ha ha1)).app (lit_ok (q := " at ") (by decide +kernel))).app (num_sg hb hb1)).mono (by decide +kernel)
theorem lits : (" " : Str).cps.toList = [32] ∧ (" at " : Str).cps.toList = [32, 97, 116, 32] ∧ ("at" : Str).cps.toList = [97, 116] ∧ ("notice " : Str).cps.toList = [110, 111, 116, 105, 99, 101, 32] ∧ ("notice" : Str).cps.toList = [110, 111, 116, 105, 99, 101] := ⟨rfl, rfl, rfl, rfl, rfl⟩
theorem kfree : (32 : Nat) ∉ ("never" : Str).cps.toList ∧ 32 ∉ ("at" : Str).cps.toList ∧ 32 ∉ ("notice" : Str).cps.toList := by decide +kernel
theorem jn4 {a b c d : Str} : jn 32 [a, b, c, d] = a.cps.toList ++ 32 :: (b.cps.toList ++ 32 :: (c.cps.toList ++ 32 :: d.cps.toList)) := by
  rw [jn_cons, jn_cons, jn_cons, jn_one]
theorem jn2 {a b : Str} : jn 32 [a, b] = a.cps.toList ++ 32 :: b.cps.toList := by
  rw [jn_cons, jn_one]
theorem never_num : numW "never" = false := by decide +kernel
theorem rowP_line {r : RN} (h : RowOK r) : rowP (parts (lnR r)) = some r := by
  obtain ⟨nm, o⟩ := r
  obtain ⟨hn, hv⟩ := h
  simp only at hn hv
  have f1 := nameB_free hn (c := 32) (by omega)
  have f2 : 32 ∉ (tvS o).cps.toList := by
    cases o with
    | none => exact kfree.1
    | some v => exact numW_free (num_fig (hv v rfl).1 (hv v rfl).2).1 (by omega)
  obtain ⟨t1, _⟩ := lits
  have e : parts (lnR (nm, o)) = [nm, tvS o] := split_is (by simp) (fun p hp => by
    simp only [List.mem_cons, List.not_mem_nil, or_false] at hp
    rcases hp with rfl | rfl
    · exact f1
    · exact f2) (by
    rw [jn2]
    show _ = (nm ++ " " ++ tvS o).cps.toList
    simp only [app_list, t1, List.append_assoc, List.cons_append, List.nil_append])
  rw [e]
  cases o with
  | none => simp [rowP, hn, tvS]
  | some v =>
    obtain ⟨n1, n2⟩ := num_fig (hv v rfl).1 (hv v rfl).2
    have ne : ¬ strN v = "never" := fun z => by rw [z, never_num] at n1; cases n1
    simp [rowP, hn, tvS, ne, n1, n2]
theorem headP_line {a b : Int} (ha : 0 ≤ a) (ha1 : a ≤ 1000000) (hb : 0 ≤ b) (hb1 : b ≤ 1000000) : headP (parts (headLn a b)) = some (a, b) := by
  obtain ⟨n1, n2⟩ := num_fig ha ha1
  obtain ⟨m1, m2⟩ := num_fig hb hb1
  have f1 := numW_free n1 (c := 32) (by omega)
  have f2 := numW_free m1 (c := 32) (by omega)
  obtain ⟨_, t2, t3, t4, t5⟩ := lits
  have e : parts (headLn a b) = (["notice", strN a, "at", strN b] : List Str) := split_is (by simp) (fun p hp => by
    simp only [List.mem_cons, List.not_mem_nil, or_false] at hp
    rcases hp with rfl | rfl | rfl | rfl
    · exact kfree.2.2
    · exact f1
    · exact kfree.2.1
    · exact f2) (by
    rw [jn4]
    show _ = (("notice " : Str) ++ strN a ++ " at " ++ strN b).cps.toList
    simp only [app_list, t2, t3, t4, t5, List.append_assoc, List.cons_append, List.nil_append])
  rw [e]
  simp [headP, n1, n2, m1, m2]
structure RowsN (rows : List RN) : Prop where
  all : ∀ r ∈ rows, RowOK r
  asc : rows.Pairwise fun a b => ltN a b = true
theorem fine_rows {a b : Int} {rows : List RN} (ha : 0 ≤ a) (ha1 : a ≤ 1000000) (hb : 0 ≤ b) (hb1 : b ≤ 1000000) (h : RowsN rows) : Fine (headLn a b :: rows.map lnR) ∧ headS (headLn a b :: rows.map lnR) = (a, b) ∧ rowsTo (headLn a b :: rows.map lnR) (headLn a b :: rows.map lnR).length = rows := by
  have hh := headP_line ha ha1 hb hb1
  refine ⟨⟨by simp, fun k hk => ?_⟩, ?_, ?_⟩
  · unfold goodL
    cases k with
    | zero =>
      simp only [List.getElem?_cons_zero, if_true]
      rw [hh]
      rfl
    | succ k =>
      have hk2 : k < rows.length := by rw [List.length_cons, List.length_map] at hk; omega
      have e : (headLn a b :: rows.map lnR)[k + 1]? = some (lnR rows[k]) := by
        rw [List.getElem?_cons_succ, List.getElem?_map, List.getElem?_eq_getElem hk2]
        rfl
      have r1 := rowP_line (h.all _ (List.getElem_mem hk2))
      rw [e]
      simp only [if_neg (show ¬ k + 1 = 0 by omega), r1]
      cases k with
      | zero => rfl
      | succ j =>
        have e2 : (headLn a b :: rows.map lnR)[j + 1 + 1 - 1]? = some (lnR (rows[j]'(by omega))) := by
          rw [show j + 1 + 1 - 1 = j + 1 by omega, List.getElem?_cons_succ, List.getElem?_map, List.getElem?_eq_getElem (show j < rows.length by omega)]
          rfl
        have r2 := rowP_line (h.all _ (List.getElem_mem (show j < rows.length by omega)))
        rw [e2]
        have lt := List.pairwise_iff_getElem.mp h.asc j (j + 1) (by omega) hk2 (by omega)
        simp [r2, afterR, lt]
  · unfold headS
    simp [hh]
  · unfold rowsTo
    rw [List.take_length, List.drop_one, List.tail_cons]
    have key : ∀ rows : List RN, (∀ r ∈ rows, RowOK r) → (rows.map lnR).filterMap (fun q => rowP (parts q)) = rows := fun rows h => by
      induction rows with
      | nil => rfl
      | cons r rows ih =>
        rw [List.map_cons, List.filterMap_cons, rowP_line (h r List.mem_cons_self)]
        simp only
        rw [ih fun x hx => h x (List.mem_cons_of_mem _ hx)]
    exact key rows h.all
theorem fine_len {ls : List Str} (h : Fine ls) : (rowsTo ls ls.length).length + 1 = ls.length := by
  obtain ⟨hne, hg⟩ := h
  cases ls with
  | nil => exact absurd rfl hne
  | cons q t =>
    unfold rowsTo
    rw [List.take_length, List.drop_one, List.tail_cons, List.length_cons]
    have key : ∀ t : List Str, (∀ q ∈ t, ∃ r, rowP (parts q) = some r) → (t.filterMap fun q => rowP (parts q)).length = t.length := fun t ht => by
      induction t with
      | nil => rfl
      | cons q t ih =>
        obtain ⟨r, hr⟩ := ht q List.mem_cons_self
        rw [List.filterMap_cons, hr]
        simp only [List.length_cons]
        rw [ih fun p hp => ht p (List.mem_cons_of_mem _ hp)]
    rw [key t fun p hp => ?_]
    obtain ⟨j, hj, e⟩ := List.getElem_of_mem hp
    have e2 : (q :: t)[j + 1]? = some p := by rw [List.getElem?_cons_succ, List.getElem?_eq_getElem hj, e]
    exact goodL_row (by omega) e2 (hg (j + 1) (by rw [List.length_cons]; omega))
section
variable {O O0 : Store} {b n : Nat} {ls : List Str} {s : Str} {d : D}
abbrev sp0 : SM := (sAsg (mFn (arity 2 f_law_take) [] (mCons (mVar 0) (mCons (mCall (g1 gLen) (mCons (mVar 1) mNil)) mNil))) (bName 2))
abbrev sp1 : SM := (sAsg (mOp gIx (mVar 1) (mVar 2)) (bName 3))
abbrev sp2 : SM := (sAsg (mLst false (mCons (mC (.str "")) (mCons (mC (.str "ash Never")) (mCons (mC (.str "ash")) (mCons (mC (.str "Ash 5")) (mCons (mC (.str "ash 05")) (mCons (mC (.str "zed never")) (mCons (mC (.str "ash 1000001")) (mCons (mC (.str "notice 0 at")) (mCons (mC (.str "notice 0 on 5")) (mCons (mC (.str "abcdefghijklm 5")) mNil))))))))))) (bName 4))
abbrev sp3 : SM := (sAsg (mFn (arity 2 f_law_take) [] (mCons (mVar 0) (mCons (mC (.int 14)) mNil))) (bName 5))
abbrev sp4 : SM := (sIf (mTest (mOp gLt (mVar 5) (mC (.int 10)))) (sAsg (mOp gIx (mVar 4) (mVar 5)) (bName 3)) (sIf (mTest (mOp gEq (mVar 5) (mC (.int 10)))) (sAsg (mOp (gAdd false) (mVar 3) (mC (.str " 5"))) (bName 3)) (sIf (mTest (mOp gEq (mVar 5) (mC (.int 11)))) (sAsg (mRepl " " "  " (mVar 3)) (bName 3)) (sIf (mTest (mOp gEq (mVar 5) (mC (.int 12)))) (sRet (mOp (gAdd false) (mOp (gAdd false) (mSl false (mVar 1) oNone (oSome (mVar 2))) (mLst false (mCons (mVar 3) mNil))) (mSl false (mVar 1) (oSome (mVar 2)) oNone))) (sRet (mOp (gAdd false) (mSl false (mVar 1) oNone (oSome (mVar 2))) (mSl false (mVar 1) (oSome (mOp (gAdd false) (mVar 2) (mC (.int 1)))) oNone)))))))
abbrev sp5 : SM := (sRet (mOp (gAdd false) (mOp (gAdd false) (mSl false (mVar 1) oNone (oSome (mVar 2))) (mLst false (mCons (mVar 3) mNil))) (mSl false (mVar 1) (oSome (mOp (gAdd false) (mVar 2) (mC (.int 1)))) oNone)))
theorem sp_is : b_law_spoilt = sSeq sp0 (sSeq sp1 (sSeq sp2 (sSeq sp3 (sSeq sp4 sp5)))) := rfl
abbrev fixD : D := .lst [.str "", .str "ash Never", .str "ash", .str "Ash 5", .str "ash 05", .str "zed never", .str "ash 1000001", .str "notice 0 at", .str "notice 0 on 5", .str "abcdefghijklm 5"]
theorem fix_at {v : Int} (h0 : 0 ≤ v) (h1 : v < 10) : ∃ x : Str, (∀ O : Store, gIx O fixD (.int v) = some (.str x, O)) ∧ LineOK 20 x := by
  rcases (by omega : v = 0 ∨ v = 1 ∨ v = 2 ∨ v = 3 ∨ v = 4 ∨ v = 5 ∨ v = 6 ∨ v = 7 ∨ v = 8 ∨ v = 9) with rfl | rfl | rfl | rfl | rfl | rfl | rfl | rfl | rfl | rfl
  · exact ⟨"", fun _ => rfl, (lit_ok (by decide +kernel)).mono (by decide +kernel)⟩
  · exact ⟨"ash Never", fun _ => rfl, (lit_ok (by decide +kernel)).mono (by decide +kernel)⟩
  · exact ⟨"ash", fun _ => rfl, (lit_ok (by decide +kernel)).mono (by decide +kernel)⟩
  · exact ⟨"Ash 5", fun _ => rfl, (lit_ok (by decide +kernel)).mono (by decide +kernel)⟩
  · exact ⟨"ash 05", fun _ => rfl, (lit_ok (by decide +kernel)).mono (by decide +kernel)⟩
  · exact ⟨"zed never", fun _ => rfl, (lit_ok (by decide +kernel)).mono (by decide +kernel)⟩
  · exact ⟨"ash 1000001", fun _ => rfl, (lit_ok (by decide +kernel)).mono (by decide +kernel)⟩
  · exact ⟨"notice 0 at", fun _ => rfl, (lit_ok (by decide +kernel)).mono (by decide +kernel)⟩
  · exact ⟨"notice 0 on 5", fun _ => rfl, (lit_ok (by decide +kernel)).mono (by decide +kernel)⟩
  · exact ⟨"abcdefghijklm 5", fun _ => rfl, (lit_ok (by decide +kernel)).mono (by decide +kernel)⟩
/-- the locals of _law_spoilt -/
abbrev SL (d : D) (a : Nat) (ln : Str) (f : D) (p : Int) : Loc := [some (.hdl 0), some d, some (.int (a : Int)), some (.str ln), some f, some (.int p)]
theorem sp5_ok {a : Nat} {ln : Str} {f : D} {p : Int} (h : IsL O d ls) (ha : a < ls.length) (hl : ls.length ≤ 900) : sp5 (SL d a ln f p) O = .ret (.lst ((ls.take a ++ ln :: ls.drop (a + 1)).map .str)) O := by
  have e1 := h.to (a := a) (by omega) hl
  have e2 := h.from (a := a + 1) (by omega) hl
  rw [show ((a + 1 : Nat) : Int) = (a : Int) + 1 by omega] at e2
  have e3 := addL (O := O) (xs := (ls.take a).map .str) (ys := [.str ln]) (by rw [List.length_map, List.length_take]; simp; omega)
  have e4 := addL (O := O) (xs := (ls.take a).map .str ++ [.str ln]) (ys := (ls.drop (a + 1)).map .str) (by rw [List.length_append, List.length_map, List.length_map, List.length_take, List.length_drop]; simp; omega)
  have e5 : (ls.take a ++ ln :: ls.drop (a + 1)).map D.str = (ls.take a).map .str ++ [.str ln] ++ (ls.drop (a + 1)).map .str := by simp
  rw [e5]
  generalize (ls.take a).map D.str = z1 at *
  generalize (ls.drop (a + 1)).map D.str = z2 at *
  simp [mSl, oNone, oSome, runF, sSeq, sIf, sNext, sDrop, sRet, sRetN, sAsg, ofRes, ofB, bName, bNil, bCons, bTup, bLst, bSubL, mTest, mOp, mVar, mC, mChain, mAnd, mOr, mNot, mIf, mAndV, mOrV, mNotV, mNeg, mCons, mNil, mTup, mLst, newL, mCall, mFn, arity, g1, g2, gLen, gInt, gAbs, gMax2, gMin2, seqOf, lsqOf, lstOf, Res.bind, ofO, gAdd_ok, gSub_ok, gEq_int, gNe_int, gLt_int, gLe_int, gGt_int, gGe_int, gEq_bl, gNe_bl, gEq_str, gNe_str, mIsi, mIsiT, tyD, kitL, kitTab, atI_c0, atI_c1, atI_c2, atI_c3, atI_c4, sForR1, int1, int2, mMeth, mMake, mFld, sFldM, gIs, gIsNot, isNon_t, sRaise, gList, newLO, e1, e2, e3, e4]
theorem sp4_12 {a : Nat} {ln : Str} {f : D} (h : IsL O d ls) (ha : a < ls.length) (hl : ls.length ≤ 900) : sp4 (SL d a ln f 12) O = .ret (.lst ((ls.take a ++ ln :: ls.drop a).map .str)) O := by
  have e1 := h.to (a := a) (by omega) hl
  have e2 := h.from (a := a) (by omega) hl
  have e3 := addL (O := O) (xs := (ls.take a).map .str) (ys := [.str ln]) (by rw [List.length_map, List.length_take]; simp; omega)
  have e4 := addL (O := O) (xs := (ls.take a).map .str ++ [.str ln]) (ys := (ls.drop a).map .str) (by rw [List.length_append, List.length_map, List.length_map, List.length_take, List.length_drop]; simp; omega)
  have e5 : (ls.take a ++ ln :: ls.drop a).map D.str = (ls.take a).map .str ++ [.str ln] ++ (ls.drop a).map .str := by simp
  rw [e5]
  generalize (ls.take a).map D.str = z1 at *
  generalize (ls.drop a).map D.str = z2 at *
  simp [mSl, oNone, oSome, runF, sSeq, sIf, sNext, sDrop, sRet, sRetN, sAsg, ofRes, ofB, bName, bNil, bCons, bTup, bLst, bSubL, mTest, mOp, mVar, mC, mChain, mAnd, mOr, mNot, mIf, mAndV, mOrV, mNotV, mNeg, mCons, mNil, mTup, mLst, newL, mCall, mFn, arity, g1, g2, gLen, gInt, gAbs, gMax2, gMin2, seqOf, lsqOf, lstOf, Res.bind, ofO, gAdd_ok, gSub_ok, gEq_int, gNe_int, gLt_int, gLe_int, gGt_int, gGe_int, gEq_bl, gNe_bl, gEq_str, gNe_str, mIsi, mIsiT, tyD, kitL, kitTab, atI_c0, atI_c1, atI_c2, atI_c3, atI_c4, sForR1, int1, int2, mMeth, mMake, mFld, sFldM, gIs, gIsNot, isNon_t, sRaise, gList, newLO, e1, e2, e3, e4]
theorem sp4_13 {a : Nat} {ln : Str} {f : D} (h : IsL O d ls) (ha : a < ls.length) (hl : ls.length ≤ 900) : sp4 (SL d a ln f 13) O = .ret (.lst ((ls.take a ++ ls.drop (a + 1)).map .str)) O := by
  have e1 := h.to (a := a) (by omega) hl
  have e2 := h.from (a := a + 1) (by omega) hl
  rw [show ((a + 1 : Nat) : Int) = (a : Int) + 1 by omega] at e2
  have e4 := addL (O := O) (xs := (ls.take a).map .str) (ys := (ls.drop (a + 1)).map .str) (by rw [List.length_map, List.length_map, List.length_take, List.length_drop]; omega)
  have e5 : (ls.take a ++ ls.drop (a + 1)).map D.str = (ls.take a).map .str ++ (ls.drop (a + 1)).map .str := by simp
  rw [e5]
  generalize (ls.take a).map D.str = z1 at *
  generalize (ls.drop (a + 1)).map D.str = z2 at *
  simp [mSl, oNone, oSome, runF, sSeq, sIf, sNext, sDrop, sRet, sRetN, sAsg, ofRes, ofB, bName, bNil, bCons, bTup, bLst, bSubL, mTest, mOp, mVar, mC, mChain, mAnd, mOr, mNot, mIf, mAndV, mOrV, mNotV, mNeg, mCons, mNil, mTup, mLst, newL, mCall, mFn, arity, g1, g2, gLen, gInt, gAbs, gMax2, gMin2, seqOf, lsqOf, lstOf, Res.bind, ofO, gAdd_ok, gSub_ok, gEq_int, gNe_int, gLt_int, gLe_int, gGt_int, gGe_int, gEq_bl, gNe_bl, gEq_str, gNe_str, mIsi, mIsiT, tyD, kitL, kitTab, atI_c0, atI_c1, atI_c2, atI_c3, atI_c4, sForR1, int1, int2, mMeth, mMake, mFld, sFldM, gIs, gIsNot, isNon_t, sRaise, gList, newLO, e1, e2, e4]
/-- the line itself is changed -/
theorem sp4_ln {m a : Nat} {ln : Str} {p : Int} (h0 : 0 ≤ p) (h1 : p < 14) (h11 : p ≠ 12) (h12 : p ≠ 13) (hm : 20 ≤ m) (hm2 : m ≤ 1000) (q : LineOK m ln) : ∃ ln', sp4 (SL d a ln fixD p) O = .next (SL d a ln' fixD p) O ∧ LineOK (3 * m + 2) ln' := by
  by_cases c : p < 10
  · obtain ⟨x, hx, ok⟩ := fix_at h0 c
    have hx := hx O
    refine ⟨x, ?_, ok.mono (by omega)⟩
    generalize fixD = f at *
    simp [runF, sSeq, sIf, sNext, sDrop, sRet, sRetN, sAsg, ofRes, ofB, bName, bNil, bCons, bTup, bLst, bSubL, mTest, mOp, mVar, mC, mChain, mAnd, mOr, mNot, mIf, mAndV, mOrV, mNotV, mNeg, mCons, mNil, mTup, mLst, newL, mCall, mFn, arity, g1, g2, gLen, gInt, gAbs, gMax2, gMin2, seqOf, lsqOf, lstOf, Res.bind, ofO, gAdd_ok, gSub_ok, gEq_int, gNe_int, gLt_int, gLe_int, gGt_int, gGe_int, gEq_bl, gNe_bl, gEq_str, gNe_str, mIsi, mIsiT, tyD, kitL, kitTab, atI_c0, atI_c1, atI_c2, atI_c3, atI_c4, sForR1, int1, int2, mMeth, mMake, mFld, sFldM, gIs, gIsNot, isNon_t, sRaise, gList, newLO, c, hx]
  · rcases (by omega : p = 10 ∨ p = 11) with rfl | rfl
    · have e := gAdd_str (O := O) (h := false) (a := ln) (b := " 5") (by have := q.len; show _ + 2 ≤ _; omega)
      refine ⟨ln ++ " 5", ?_, (q.app (lit_ok (q := " 5") (by decide +kernel))).mono (by show m + 2 ≤ _; omega)⟩
      generalize fixD = f at *
      simp [runF, sSeq, sIf, sNext, sDrop, sRet, sRetN, sAsg, ofRes, ofB, bName, bNil, bCons, bTup, bLst, bSubL, mTest, mOp, mVar, mC, mChain, mAnd, mOr, mNot, mIf, mAndV, mOrV, mNotV, mNeg, mCons, mNil, mTup, mLst, newL, mCall, mFn, arity, g1, g2, gLen, gInt, gAbs, gMax2, gMin2, seqOf, lsqOf, lstOf, Res.bind, ofO, gAdd_ok, gSub_ok, gEq_int, gNe_int, gLt_int, gLe_int, gGt_int, gGe_int, gEq_bl, gNe_bl, gEq_str, gNe_str, mIsi, mIsiT, tyD, kitL, kitTab, atI_c0, atI_c1, atI_c2, atI_c3, atI_c4, sForR1, int1, int2, mMeth, mMake, mFld, sFldM, gIs, gIsNot, isNon_t, sRaise, gList, newLO, e]
    · refine ⟨Txt.replace ln " " "  ", ?_, repl_line q⟩
      have rp : ∀ f, mRepl " " "  " (mVar 3) (SL d a ln f 11) O = .ok (.str (Txt.replace ln " " "  ")) O := fun f => by
        show (if ln.length + (ln.length + 1) * ("  " : Str).length ≤ 16777216 then Res.ok (D.str (Txt.replace ln " " "  ")) O else .bad) = _
        rw [if_pos (by have := q.len; show ln.length + (ln.length + 1) * 2 ≤ _; omega)]
      generalize fixD = f at *
      have rp := rp f
      show sIf (mTest (mOp gLt (mVar 5) (mC (.int 10)))) (sAsg (mOp gIx (mVar 4) (mVar 5)) (bName 3)) (sIf (mTest (mOp gEq (mVar 5) (mC (.int 10)))) (sAsg (mOp (gAdd false) (mVar 3) (mC (.str " 5"))) (bName 3)) (sIf (mTest (mOp gEq (mVar 5) (mC (.int 11)))) (sAsg (mRepl " " "  " (mVar 3)) (bName 3)) _)) _ _ = _
      generalize mRepl " " "  " (mVar 3) = mr at *
      simp [runF, sSeq, sIf, sNext, sDrop, sRet, sRetN, sAsg, ofRes, ofB, bName, bNil, bCons, bTup, bLst, bSubL, mTest, mOp, mVar, mC, mChain, mAnd, mOr, mNot, mIf, mAndV, mOrV, mNotV, mNeg, mCons, mNil, mTup, mLst, newL, mCall, mFn, arity, g1, g2, gLen, gInt, gAbs, gMax2, gMin2, seqOf, lsqOf, lstOf, Res.bind, ofO, gAdd_ok, gSub_ok, gEq_int, gNe_int, gLt_int, gLe_int, gGt_int, gGe_int, gEq_bl, gNe_bl, gEq_str, gNe_str, mIsi, mIsiT, tyD, kitL, kitTab, atI_c0, atI_c1, atI_c2, atI_c3, atI_c4, sForR1, int1, int2, mMeth, mMake, mFld, sFldM, gIs, gIsNot, isNon_t, sRaise, gList, newLO, rp]
theorem spoilt_ok {m : Nat} (tk : Take b 0 O) (hb : b ≤ 1000) (h : IsL O d ls) (h0 : ls ≠ []) (hl : ls.length ≤ 800) (hm : 20 ≤ m) (hm2 : m ≤ 1000) (ok : ∀ p ∈ ls, LineOK m p) :
    ∃ (ls' : List Str) (O' : Store), f_law_spoilt [.hdl 0, d] O = .ok (.lst (ls'.map .str)) O' ∧ ls'.length ≤ ls.length + 1 ∧ (∀ p ∈ ls', LineOK (3 * m + 2) p) ∧ Take (b + 2) 0 O' ∧ Fr O O' := by
  have hpos := List.length_pos_iff.mpr h0
  obtain ⟨v, O1, e1, v0, v1, t1, f1, _⟩ := tk1 (m := (ls.length : Int)) tk (by omega) (by omega) (by omega)
  obtain ⟨p, O2, e2, p0, p1, t2, f2, _⟩ := tk1 (m := 14) t1 (by omega) (by omega) (by omega)
  rw [← y_take] at e1 e2
  obtain ⟨a, rfl⟩ := Int.eq_ofNat_of_zero_le v0
  have ha : a < ls.length := by omega
  obtain ⟨ln, hln⟩ : ∃ ln, ls[a]? = some ln := ⟨ls[a], List.getElem?_eq_getElem ha⟩
  have h1 := h.fr f1
  have h2 := h1.fr f2
  have gl := h.gl
  have ix := h1.ix hln
  have s0 : sp0 [some (.hdl 0), some d, none, none, none, none] O = .next [some (.hdl 0), some d, some (.int (a : Int)), none, none, none] O1 := by
    simp [sAsg, mFn, arity, mCons, mNil, mCall, DK.g1, mVar, mC, ofRes, ofB, ofO, Res.bind, bName, gl, e1]
  have s1 : sp1 [some (.hdl 0), some d, some (.int (a : Int)), none, none, none] O1 = .next [some (.hdl 0), some d, some (.int (a : Int)), some (.str ln), none, none] O1 := by
    simp [runF, sSeq, sIf, sNext, sDrop, sRet, sRetN, sAsg, ofRes, ofB, bName, bNil, bCons, bTup, bLst, bSubL, mTest, mOp, mVar, mC, mChain, mAnd, mOr, mNot, mIf, mAndV, mOrV, mNotV, mNeg, mCons, mNil, mTup, mLst, newL, mCall, mFn, arity, g1, g2, gLen, gInt, gAbs, gMax2, gMin2, seqOf, lsqOf, lstOf, Res.bind, ofO, gAdd_ok, gSub_ok, gEq_int, gNe_int, gLt_int, gLe_int, gGt_int, gGe_int, gEq_bl, gNe_bl, gEq_str, gNe_str, mIsi, mIsiT, tyD, kitL, kitTab, atI_c0, atI_c1, atI_c2, atI_c3, atI_c4, sForR1, int1, int2, mMeth, mMake, mFld, sFldM, gIs, gIsNot, isNon_t, sRaise, gList, newLO, ix]
  have s2 : sp2 [some (.hdl 0), some d, some (.int (a : Int)), some (.str ln), none, none] O1 = .next [some (.hdl 0), some d, some (.int (a : Int)), some (.str ln), some fixD, none] O1 := by
    simp [runF, sSeq, sIf, sNext, sDrop, sRet, sRetN, sAsg, ofRes, ofB, bName, bNil, bCons, bTup, bLst, bSubL, mTest, mOp, mVar, mC, mChain, mAnd, mOr, mNot, mIf, mAndV, mOrV, mNotV, mNeg, mCons, mNil, mTup, mLst, newL, mCall, mFn, arity, g1, g2, gLen, gInt, gAbs, gMax2, gMin2, seqOf, lsqOf, lstOf, Res.bind, ofO, gAdd_ok, gSub_ok, gEq_int, gNe_int, gLt_int, gLe_int, gGt_int, gGe_int, gEq_bl, gNe_bl, gEq_str, gNe_str, mIsi, mIsiT, tyD, kitL, kitTab, atI_c0, atI_c1, atI_c2, atI_c3, atI_c4, sForR1, int1, int2, mMeth, mMake, mFld, sFldM, gIs, gIsNot, isNon_t, sRaise, gList, newLO]
  have s3 : sp3 [some (.hdl 0), some d, some (.int (a : Int)), some (.str ln), some fixD, none] O1 = .next (SL d a ln fixD p) O2 := by
    generalize fixD = f
    simp [runF, sSeq, sIf, sNext, sDrop, sRet, sRetN, sAsg, ofRes, ofB, bName, bNil, bCons, bTup, bLst, bSubL, mTest, mOp, mVar, mC, mChain, mAnd, mOr, mNot, mIf, mAndV, mOrV, mNotV, mNeg, mCons, mNil, mTup, mLst, newL, mCall, mFn, arity, g1, g2, gLen, gInt, gAbs, gMax2, gMin2, seqOf, lsqOf, lstOf, Res.bind, ofO, gAdd_ok, gSub_ok, gEq_int, gNe_int, gLt_int, gLe_int, gGt_int, gGe_int, gEq_bl, gNe_bl, gEq_str, gNe_str, mIsi, mIsiT, tyD, kitL, kitTab, atI_c0, atI_c1, atI_c2, atI_c3, atI_c4, sForR1, int1, int2, mMeth, mMake, mFld, sFldM, gIs, gIsNot, isNon_t, sRaise, gList, newLO, e2]
  have run : ∀ r O', sSeq sp4 sp5 (SL d a ln fixD p) O2 = .ret r O' → f_law_spoilt [.hdl 0, d] O = .ok r O' := fun r O' e => by
    show (match b_law_spoilt [some (.hdl 0), some d, none, none, none, none] O with
      | .next _ O1 => Res.ok D.non O1
      | .ret d O1 => .ok d O1
      | .exc x _ O1 => .exc x O1
      | _ => .bad) = _
    rw [sp_is, seq_next s0, seq_next s1, seq_next s2, seq_next s3, e]
  have okl := ok ln (List.mem_of_getElem? hln)
  have fr := f1.trans f2
  have t3 := tmono (show b + 1 + 1 ≤ b + 2 by omega) t2
  have tk' : ∀ i, ∀ q ∈ ls.take i, LineOK (3 * m + 2) q := fun i q hq => (ok q (List.mem_of_mem_take hq)).mono (by omega)
  have dr' : ∀ i, ∀ q ∈ ls.drop i, LineOK (3 * m + 2) q := fun i q hq => (ok q (List.mem_of_mem_drop hq)).mono (by omega)
  have mid : ∀ (ln' : Str) (j : Nat), LineOK (3 * m + 2) ln' → ∀ q ∈ ls.take a ++ ln' :: ls.drop j, LineOK (3 * m + 2) q := fun ln' j hq q hm => by
    rcases List.mem_append.mp hm with hm | hm
    · exact tk' _ q hm
    · rcases List.mem_cons.mp hm with rfl | hm
      · exact hq
      · exact dr' _ q hm
  by_cases c11 : p = 12
  · subst c11
    exact ⟨_, O2, run _ _ (by rw [seq_ret (sp4_12 h2 ha (by omega))]), by rw [List.length_append, List.length_cons, List.length_take, List.length_drop]; omega, mid ln a (okl.mono (by omega)), t3, fr⟩
  · by_cases c12 : p = 13
    · subst c12
      refine ⟨_, O2, run _ _ (by rw [seq_ret (sp4_13 h2 ha (by omega))]), by rw [List.length_append, List.length_take, List.length_drop]; omega, fun q hq => ?_, t3, fr⟩
      rcases List.mem_append.mp hq with hq | hq
      · exact tk' _ q hq
      · exact dr' _ q hq
    · obtain ⟨ln', e, okn⟩ := sp4_ln (d := d) (a := a) (O := O2) p0 p1 c11 c12 hm hm2 okl
      exact ⟨_, O2, run _ _ (by rw [seq_next e, sp5_ok h2 ha (by omega)]), by rw [List.length_append, List.length_cons, List.length_take, List.length_drop]; omega, mid ln' (a + 1) okn, t3, fr⟩
end
end DK.k48
end
section
set_option Elab.async false
set_option linter.all false
set_option autoImplicit false
set_option maxRecDepth 100000
set_option maxHeartbeats 4000000
/-! mirrors that many laws share: printed by mirrors.py. -/
namespace DK.W
open PySem L2 DK
def b_law_cell : SM := (sSeq (sIf (mTest (mOp gLt (mVar 1) (mCall (g1 gLen) (mCons (mVar 0) mNil)))) (sRet (mCall (g1 gAbs) (mCons (mCall (g1 gInt) (mCons (mOp gIx (mVar 0) (mVar 1)) mNil)) mNil))) sNext)
    (sRet (mOp (gAdd false) (mOp gMul (mC (.int 37)) (mVar 1)) (mC (.int 11)))))
def f_law_cell : FM := runF 2 b_law_cell
def b_law_take : SM := (sSeq (sIf (mTest (mOp gGt (mOp gIx (mVar 0) (mC (.int 2))) (mC (.int 0)))) (sSeq (sAsg (mOp gMod (mCall (g1 gInt) (mCons (mOp gIx (mVar 0) (mC (.int 2))) mNil)) (mVar 1)) (bName 2))
    (sSeq (sAsg (mOp gFdiv (mCall (g1 gInt) (mCons (mOp gIx (mVar 0) (mC (.int 2))) mNil)) (mVar 1)) (bSubL (mVar 0) (mC (.int 2))))
    (sRet (mVar 2)))) sNext)
    (sSeq (sAsg (mFn (arity 2 f_law_cell) [] (mCons (mOp gIx (mVar 0) (mC (.int 0))) (mCons (mOp gIx (mVar 0) (mC (.int 1))) mNil))) (bName 3))
    (sSeq (sAsg (mOp (gAdd false) (mOp gIx (mVar 0) (mC (.int 1))) (mC (.int 1))) (bSubL (mVar 0) (mC (.int 1))))
    (sSeq (sIf (mTest (mOp gGe (mVar 3) (mOp gPow (mC (.int 10)) (mC (.int 9))))) (sAsg (mOp gFdiv (mCall (g1 gInt) (mCons (mVar 3) mNil)) (mVar 1)) (bSubL (mVar 0) (mC (.int 2)))) sNext)
    (sRet (mOp gMod (mCall (g1 gInt) (mCons (mVar 3) mNil)) (mVar 1)))))))
def f_law_take : FM := runF 4 b_law_take
def b_land_init : SM := (sSeq (sFldM "Land" "_stations" (mVar 0) (mLst true mNil))
    (sSeq (sFldM "Land" "_lines" (mVar 0) mDNew)
    (sSeq (sFldM "Land" "_plants" (mVar 0) mDNew)
    (sFldM "Land" "_selves" (mVar 0) (mLst true mNil)))))
def f_land_init : FM := runF 1 b_land_init
def b_is_name : SM := (sSeq (sIf (mOr (mNot (mTest (mIsi "str" (mVar 0)))) (mNot (mTest (mChain gLe gLe (mC (.int 1)) (mCall (g1 gLen) (mCons (mVar 0) mNil)) (mC (.int 12)))))) (sRet (mC (.bl false))) sNext)
    (sSeq (sForS (mVar 0) (bName 1) (sIf (mTest (mOp gNotIn (mVar 1) (mC (.str "abcdefghijklmnopqrstuvwxyz")))) (sRet (mC (.bl false))) sNext))
    (sRet (mC (.bl true)))))
def f_is_name : FM := runF 2 b_is_name
def b_checked_name : SM := (sSeq (sIf (mNot (mTest (mFn (arity 1 f_is_name) [] (mCons (mVar 0) mNil)))) (sRaise "InvalidName" (mCons (mC (.str "no name")) mNil)) sNext)
    (sRet (mVar 0)))
def f_checked_name : FM := runF 1 b_checked_name
def b_land_kind : SM := (sSeq (sIf (mTest (mOp gIn (mVar 1) (mFld "Land" "_stations" (mVar 0)))) (sRet (mC (.str "station"))) sNext)
    (sSeq (sIf (mTest (mDIn true (mVar 1) (mFld "Land" "_lines" (mVar 0)))) (sRet (mC (.str "line"))) sNext)
    (sSeq (sIf (mTest (mDIn true (mVar 1) (mFld "Land" "_plants" (mVar 0)))) (sRet (mC (.str "plant"))) sNext)
    (sRet (mC .non)))))
def f_land_kind : FM := runF 2 b_land_kind
def b_land_free : SM := (sSeq (sDrop (mFn (arity 1 f_checked_name) [] (mCons (mVar 1) mNil)))
    (sIf (mTest (mOp gIsNot (mMeth "Land" "kind" (arity 2 f_land_kind) [] (mVar 0) (mCons (mVar 1) mNil)) (mC .non))) (sRaise "DuplicateName" (mCons (mVar 1) mNil)) sNext))
def f_land_free : FM := runF 2 b_land_free
def b_land_room : SM := (sIf (mTest (mOp gGe (mCall (g1 gLen) (mCons (mVar 1) mNil)) (mC (.int 60)))) (sRaise "TooMany" (mCons (mOp (gAdd false) (mC (.str "more than ")) (mCall (g1 gStr) (mCons (mC (.int 60)) mNil))) mNil)) sNext)
def f_land_room : FM := runF 2 b_land_room
def b_land_add_station : SM := (sSeq (sDrop (mMeth "Land" "_free" (arity 2 f_land_free) [] (mVar 0) (mCons (mVar 1) mNil)))
    (sSeq (sDrop (mMeth "Land" "_room" (arity 2 f_land_room) [] (mVar 0) (mCons (mFld "Land" "_stations" (mVar 0)) mNil)))
    (sFldM "Land" "_stations" (mVar 0) (mCall (g1 (gSorted true)) (mCons (mOp (gAdd false) (mFld "Land" "_stations" (mVar 0)) (mLst false (mCons (mVar 1) mNil))) mNil)))))
def f_land_add_station : FM := runF 2 b_land_add_station
def b_is_number : SM := (sSeq (sIf (mOr (mTest (mIsi "bool" (mVar 0))) (mNot (mTest (mIsi "int" (mVar 0))))) (sRet (mC (.bl false))) sNext)
    (sRet (mChain gLe gLe (mVar 1) (mVar 0) (mVar 2))))
def f_is_number : FM := runF 3 b_is_number
def b_checked_number : SM := (sSeq (sIf (mNot (mTest (mFn (arity 3 f_is_number) [] (mCons (mVar 0) (mCons (mVar 1) (mCons (mVar 2) mNil)))))) (sRaise "InvalidNumber" (mCons (mOp (gAdd false) (mOp (gAdd false) (mOp (gAdd false) (mC (.str "no number from ")) (mCall (g1 gStr) (mCons (mVar 1) mNil))) (mC (.str " to "))) (mCall (g1 gStr) (mCons (mVar 2) mNil))) mNil)) sNext)
    (sRet (mVar 0)))
def f_checked_number : FM := runF 3 b_checked_number
def b_land_stations : SM := (sRet (mCall (g1 (gList false)) (mCons (mFld "Land" "_stations" (mVar 0)) mNil)))
def f_land_stations : FM := runF 1 b_land_stations
def b_land_lines : SM := (sRet (mCall (g1 (gSorted false)) (mCons (mFld "Land" "_lines" (mVar 0)) mNil)))
def f_land_lines : FM := runF 1 b_land_lines
def b_land_plants : SM := (sRet (mCall (g1 (gSorted false)) (mCons (mFld "Land" "_plants" (mVar 0)) mNil)))
def f_land_plants : FM := runF 1 b_land_plants
end DK.W
end
section
set_option Elab.async false
set_option linter.all false
set_option autoImplicit false
set_option maxRecDepth 100000
set_option maxHeartbeats 4000000
/-! DKWorld: the drawn lands of the laws, in plain Lean. -/
namespace DK.W
open PySem L2 DK
abbrev STN : List Str := ["ash", "bay", "elm", "fir", "gum", "ivy"]
abbrev LNN : List Str := ["la", "lb", "lc", "ld", "le", "lf", "lg", "lh", "ma", "mb", "mc", "md"]
abbrev PLN : List Str := ["pa", "pb", "pc", "pd", "pe", "qa", "qb", "qc", "qd"]
structure Ln where
  n : Str
  a : Str
  b : Str
  need : Int
  min : Int
structure Pl where
  n : Str
  s : Str
  need : Int
  gives : Int
  quick : Int
  hot : Int
  cool : Int
  slow : Int
  alone : Bool
structure LnOK (st : List Str) (l : Ln) : Prop where
  a : l.a ∈ st
  b : l.b ∈ st
  ab : ltSV l.a l.b = true
  need : 0 ≤ l.need ∧ l.need ≤ 31
  min : 1 ≤ l.min ∧ l.min ≤ 9
structure PlOK (st : List Str) (p : Pl) : Prop where
  s : p.s ∈ st
  need : 0 ≤ p.need ∧ p.need ≤ 25
  gives : 0 ≤ p.gives ∧ p.gives ≤ 100
  quick : 1 ≤ p.quick ∧ p.quick ≤ 9
  slow : p.quick ≤ p.slow ∧ p.slow ≤ 20
  hot : 0 ≤ p.hot ∧ p.hot ≤ 1000000
  cool : p.hot ≤ p.cool ∧ p.cool ≤ 1000000
  alone : p.alone = true → p.need = 0 ∧ p.slow = p.quick ∧ p.hot = 1000000 ∧ p.cool = 1000000
structure Wd where
  st : List Str
  ls : List Ln
  ps : List Pl
structure WOK (w : Wd) : Prop where
  st : w.st.Sublist STN
  ll : w.ls.length ≤ 12
  ln : (w.ls.map (·.n)).Sublist LNN
  pl : w.ps.length ≤ 9
  pn : (w.ps.map (·.n)).Sublist PLN
  lok : ∀ l ∈ w.ls, LnOK w.st l
  pok : ∀ p ∈ w.ps, PlOK w.st p
  tot : w.ls.length + w.ps.length ≤ 17
theorem take_snoc {xs : List Str} {j : Nat} {y : Str} (h : xs[j]? = some y) : xs.take (j + 1) = xs.take j ++ [y] := by
  rw [List.take_succ, h]
  rfl
end DK.W
end
section
set_option Elab.async false
set_option linter.all false
set_option autoImplicit false
set_option maxRecDepth 100000
set_option maxHeartbeats 4000000
/-! DKLand: the program's land, in plain Lean. -/
namespace DK.W
open PySem L2 DK
/-! ### membership, dicts -/
theorem inV_strs {nm : Str} : ∀ {xs : List Str}, inV (.str nm) (xs.map V.str) = decide (nm ∈ xs)
  | [] => by simp [inV]
  | x :: xs => by
    have ih := inV_strs (nm := nm) (xs := xs)
    unfold inV at ih ⊢
    rw [List.map_cons, List.any_cons, ih]
    have : eqV (.str x) (.str nm) = decide (nm = x) := by
      show (x == nm) = _
      by_cases e : nm = x
      · subst e; simp
      · have e2 : ¬ x = nm := fun z => e z.symm
        simp [e, e2]
    rw [this]
    by_cases h : nm = x <;> simp [h]
theorem flats_strs : ∀ {xs : List Str}, (xs.map D.str).mapM flatOf = some (xs.map V.str)
  | [] => by simp
  | x :: xs => by
    rw [List.map_cons, mapM_cons, flats_strs]
    rfl
theorem in_strs {O : Store} {d : D} {xs : List Str} {nm : Str} (h : seqOf O d = some (xs.map D.str)) : gIn O (.str nm) d = some (.bl (decide (nm ∈ xs)), O) := by
  have e : inD O (.str nm) d = some (decide (nm ∈ xs)) := by
    cases d with
    | str z => cases h
    | _ => simp only [inD, h, flatOf, flats_strs, inV_strs]
  unfold gIn
  rw [e]
/-- a dict by names -/
abbrev dicS {α : Type} (n : α → Str) (g : α → D) (xs : List α) : List (Key × D) := xs.map fun x => (Sum.inr (n x), g x)
theorem val_dicS {α : Type} {n : α → Str} {g : α → D} {nm : Str} : ∀ {xs : List α}, valD (dicS n g xs) (.inr nm) = (xs.find? fun x => decide (n x = nm)).map g
  | [] => rfl
  | x :: xs => by
    have ih := val_dicS (n := n) (g := g) (nm := nm) (xs := xs)
    unfold valD at ih ⊢
    rw [show dicS n g (x :: xs) = (Sum.inr (n x), g x) :: dicS n g xs from rfl, List.find?_cons, List.find?_cons]
    by_cases h : n x = nm
    · simp [h]
    · simp [h]
      simpa using ih
theorem has_dicS {α : Type} {n : α → Str} {g : α → D} {nm : Str} {xs : List α} : (valD (dicS n g xs) (.inr nm)).isSome = decide (nm ∈ xs.map n) := by
  rw [val_dicS]
  rw [Option.isSome_map, Bool.eq_iff_iff, List.find?_isSome]
  simp
theorem put_dicS {α : Type} {n : α → Str} {g : α → D} {x : α} {xs : List α} (h : n x ∉ xs.map n) : putKD (dicS n g xs) (.inr (n x)) (g x) = dicS n g (xs ++ [x]) := by
  unfold putKD
  rw [if_neg]
  · show _ = (xs ++ [x]).map _
    rw [List.map_append]
    rfl
  · intro z
    rw [List.any_eq_true] at z
    obtain ⟨p, hp, hq⟩ := z
    obtain ⟨y, hy, rfl⟩ := List.mem_map.mp hp
    simp at hq
    exact h (List.mem_map.mpr ⟨y, hy, hq⟩)
/-! ### names -/
abbrev NAMES : List Str := STN ++ LNN ++ PLN
theorem name_ok {nm : Str} {O : Store} (h : nm ∈ NAMES) : f_is_name [.str nm] O = .ok (.bl true) O := by
  simp at h
  rcases h with rfl | rfl | rfl | rfl | rfl | rfl | rfl | rfl | rfl | rfl | rfl | rfl | rfl | rfl | rfl | rfl | rfl | rfl | rfl | rfl | rfl | rfl | rfl | rfl | rfl | rfl | rfl <;> rfl
/-! ### the land -/
abbrev lineD (l : Ln) : D := .tup [.str l.a, .str l.b, .int l.need, .int l.min]
abbrev plantD (p : Pl) : D := .tup [.str p.s, .int p.need, .int p.gives, .int p.quick, .int p.hot, .int p.cool, .int p.slow]
abbrev landO (s l p v : Nat) : Ob := .ins "Land" [("_stations", .hdl s), ("_lines", .hdl l), ("_plants", .hdl p), ("_selves", .hdl v)]
/-- the land at h, its lists and dicts at s, l, p, v -/
structure LandAt (h s l p v : Nat) (w : Wd) (O : Store) : Prop where
  eo : O[h]? = some (landO s l p v)
  es : O[s]? = some (.lst (w.st.map .str))
  el : O[l]? = some (.dct (dicS (·.n) lineD w.ls))
  ep : O[p]? = some (.dct (dicS (·.n) plantD w.ps))
  ev : O[v]? = some (.lst ((w.ps.filter (·.alone)).map fun p => .str p.n))
  lp : l ≠ p
  sv : s ≠ v
  pos : 0 < h ∧ 0 < s ∧ 0 < l ∧ 0 < p ∧ 0 < v
theorem LandAt.fr {h s l p v : Nat} {w : Wd} {O O' : Store} (a : LandAt h s l p v w O) (f : Fr O O') : LandAt h s l p v w O' :=
  ⟨f.at a.pos.1 a.eo, f.at a.pos.2.1 a.es, f.at a.pos.2.2.1 a.el, f.at a.pos.2.2.2.1 a.ep, f.at a.pos.2.2.2.2 a.ev, a.lp, a.sv, a.pos⟩
theorem lks {s l p v : D} : List.lookup ("_stations" : Str) [(("_stations" : Str), s), (("_lines" : Str), l), (("_plants" : Str), p), (("_selves" : Str), v)] = some s := rfl
theorem lkl {s l p v : D} : List.lookup ("_lines" : Str) [(("_stations" : Str), s), (("_lines" : Str), l), (("_plants" : Str), p), (("_selves" : Str), v)] = some l := rfl
theorem lkp {s l p v : D} : List.lookup ("_plants" : Str) [(("_stations" : Str), s), (("_lines" : Str), l), (("_plants" : Str), p), (("_selves" : Str), v)] = some p := rfl
/-- the methods are no fields -/
theorem lkm {m : Str} {s l p v : D} (h : m ∉ ([("_stations" : Str), "_lines", "_plants", "_selves"])) : List.lookup m [(("_stations" : Str), s), (("_lines" : Str), l), (("_plants" : Str), p), (("_selves" : Str), v)] = none := by
  simp at h
  rw [List.lookup_cons, beq_false_of_ne h.1, List.lookup_cons, beq_false_of_ne h.2.1, List.lookup_cons, beq_false_of_ne h.2.2.1, List.lookup_cons, beq_false_of_ne h.2.2.2]
  rfl
def kindD (w : Wd) (nm : Str) : D := if nm ∈ w.st then .str "station" else if nm ∈ w.ls.map (·.n) then .str "line" else if nm ∈ w.ps.map (·.n) then .str "plant" else .non
section
variable {h s l p v : Nat} {w : Wd} {O : Store} {nm : Str}
theorem kind_ok (a : LandAt h s l p v w O) : f_land_kind [.hdl h, .str nm] O = .ok (kindD w nm) O := by
  have i1 : gIn O (.str nm) (.hdl s) = some (.bl (decide (nm ∈ w.st)), O) := in_strs (by simp [seqOf, a.es])
  have i2 := has_dicS (n := Ln.n) (g := lineD) (nm := nm) (xs := w.ls)
  have i3 := has_dicS (n := Pl.n) (g := plantD) (nm := nm) (xs := w.ps)
  have al := a.el
  have ap := a.ep
  generalize dicS Ln.n lineD w.ls = dl at *
  generalize dicS Pl.n plantD w.ps = dp at *
  unfold kindD
  by_cases c1 : nm ∈ w.st <;> by_cases c2 : nm ∈ w.ls.map (·.n) <;> by_cases c3 : nm ∈ w.ps.map (·.n) <;> simp only [c1, c2, c3, decide_true, decide_false] at i1 i2 i3 <;> simp [f_land_kind, b_land_kind, mDIn, dctOf, keyD, runF, sSeq, sIf, sNext, sDrop, sRet, sRetN, sAsg, ofRes, ofB, bName, bNil, bCons, bTup, bLst, bSubL, mTest, mOp, mVar, mC, mChain, mAnd, mOr, mNot, mIf, mAndV, mOrV, mNotV, mNeg, mCons, mNil, mTup, mLst, newL, mCall, mFn, arity, g1, g2, gLen, gInt, gAbs, gMax2, gMin2, gIx, seqOf, lsqOf, lstOf, Res.bind, ofO, gAdd_ok, gSub_ok, gEq_int, gNe_int, gLt_int, gLe_int, gGt_int, gGe_int, gEq_bl, gNe_bl, gEq_str, gNe_str, mIsi, mIsiT, tyD, kitL, kitTab, atI_c0, atI_c1, atI_c2, atI_c3, atI_c4, sForR1, int1, int2, mMeth, mMake, mFld, sFldM, gIs, gIsNot, isNon_t, sRaise, gList, newLO, a.eo, al, ap, lks, lkl, lkp, i1, i2, i3, c1, c2, c3]
theorem free_ok (a : LandAt h s l p v w O) (hn : nm ∈ NAMES) (k : kindD w nm = .non) : f_land_free [.hdl h, .str nm] O = .ok .non O := by
  have e := kind_ok (nm := nm) a
  rw [k] at e
  have n := name_ok (O := O) hn
  have lk : List.lookup ("kind" : Str) [(("_stations" : Str), D.hdl s), (("_lines" : Str), .hdl l), (("_plants" : Str), .hdl p), (("_selves" : Str), .hdl v)] = none := rfl
  simp [f_land_free, b_land_free, f_checked_name, b_checked_name, runF, sSeq, sIf, sNext, sDrop, sRet, sRetN, sAsg, ofRes, ofB, bName, bNil, bCons, bTup, bLst, bSubL, mTest, mOp, mVar, mC, mChain, mAnd, mOr, mNot, mIf, mAndV, mOrV, mNotV, mNeg, mCons, mNil, mTup, mLst, newL, mCall, mFn, arity, g1, g2, gLen, gInt, gAbs, gMax2, gMin2, gIx, seqOf, lsqOf, lstOf, Res.bind, ofO, gAdd_ok, gSub_ok, gEq_int, gNe_int, gLt_int, gLe_int, gGt_int, gGe_int, gEq_bl, gNe_bl, gEq_str, gNe_str, mIsi, mIsiT, tyD, kitL, kitTab, atI_c0, atI_c1, atI_c2, atI_c3, atI_c4, sForR1, int1, int2, mMeth, mMake, mFld, sFldM, gIs, gIsNot, isNon_t, sRaise, gList, newLO, a.eo, e, n, lk]
theorem room_ok {d : D} {n : Nat} (e : gLen O d = some (.int (n : Int), O)) (hn : n < 60) (a : LandAt h s l p v w O) : f_land_room [.hdl h, d] O = .ok .non O := by
  have : ¬ (60 : Int) ≤ (n : Int) := by omega
  simp [f_land_room, b_land_room, sSeq, sIf, sNext, ofRes, mTest, mOp, mVar, mC, mCall, mCons, mNil, g1, Res.bind, ofO, runF, gGe_int, e, this]
theorem strsD_map : ∀ {xs : List Str}, strsD (xs.map D.str) = some xs
  | [] => rfl
  | x :: xs => by
    show (strsD (xs.map D.str)).map (x :: ·) = _
    rw [strsD_map]
    rfl
theorem intsOf_strs {x : Str} {xs : List Str} : intsOf ((x :: xs).map D.str) = none := rfl
theorem sorted_strs {O : Store} {d : D} {xs : List Str} {hm : Bool} (hd : lsqOf O d = some (xs.map D.str)) (hx : dctOf O d = none) (h0 : 0 < xs.length) (h1 : xs.length < 64) : gSorted hm O d = newLO hm ((sortS xs).map .str) O := by
  unfold gSorted
  rw [hx]
  simp only [hd]
  cases xs with
  | nil => simp at h0
  | cons x xs =>
    rw [intsOf_strs]
    simp only [strsD_map, if_pos h1]
theorem add_station_ok {st' : List Str} (a : LandAt h s l p v w O) (hn : nm ∈ NAMES) (k : kindD w nm = .non) (hl : w.st.length < 60) (hs : sortS (w.st ++ [nm]) = st') (hs1 : st'.length ≤ 1000) :
    f_land_add_station [.hdl h, .str nm] O = .ok .non ((O ++ [Ob.lst (st'.map .str)]).set h (landO O.length l p v)) ∧ LandAt h O.length l p v ⟨st', w.ls, w.ps⟩ ((O ++ [Ob.lst (st'.map .str)]).set h (landO O.length l p v)) := by
  have lh := (List.getElem?_eq_some_iff.mp a.eo).1
  have ll := (List.getElem?_eq_some_iff.mp a.el).1
  have lp := (List.getElem?_eq_some_iff.mp a.ep).1
  have lv := (List.getElem?_eq_some_iff.mp a.ev).1
  constructor
  · have e1 := free_ok a hn k
    have e2 := room_ok (d := .hdl s) (n := w.st.length) (by simp [gLen, a.es]) hl a
    have lk1 : List.lookup ("_free" : Str) [(("_stations" : Str), D.hdl s), (("_lines" : Str), .hdl l), (("_plants" : Str), .hdl p), (("_selves" : Str), .hdl v)] = none := rfl
    have lk2 : List.lookup ("_room" : Str) [(("_stations" : Str), D.hdl s), (("_lines" : Str), .hdl l), (("_plants" : Str), .hdl p), (("_selves" : Str), .hdl v)] = none := rfl
    have e3 : gAdd false O (.hdl s) (.lst [.str nm]) = some (.lst ((w.st ++ [nm]).map D.str), O) := by
      simp [gAdd, lsqOf, lstOf, a.es, newLO]
      omega
    have e4 : gSorted true O (.lst ((w.st ++ [nm]).map D.str)) = some (.hdl O.length, O ++ [.lst (st'.map .str)]) := by
      rw [sorted_strs (xs := w.st ++ [nm]) rfl rfl (by simp) (by simp; omega), hs]
      simp [newLO]
      omega
    have e5 : (O ++ [Ob.lst (st'.map .str)])[h]? = some (landO s l p v) := by rw [List.getElem?_append_left lh]; exact a.eo
    have pt : putD "_stations" (.hdl O.length) [(("_stations" : Str), D.hdl s), (("_lines" : Str), .hdl l), (("_plants" : Str), .hdl p), (("_selves" : Str), .hdl v)] = [(("_stations" : Str), D.hdl O.length), (("_lines" : Str), .hdl l), (("_plants" : Str), .hdl p), (("_selves" : Str), .hdl v)] := rfl
    generalize List.map D.str (w.st ++ [nm]) = z at e3 e4
    simp [f_land_add_station, b_land_add_station, runF, sSeq, sIf, sNext, sDrop, sRet, sRetN, sAsg, ofRes, ofB, bName, bNil, bCons, bTup, bLst, bSubL, mTest, mOp, mVar, mC, mChain, mAnd, mOr, mNot, mIf, mAndV, mOrV, mNotV, mNeg, mCons, mNil, mTup, mLst, newL, mCall, mFn, arity, g1, g2, gLen, gInt, gAbs, gMax2, gMin2, gIx, seqOf, lsqOf, lstOf, Res.bind, ofO, gAdd_ok, gSub_ok, gEq_int, gNe_int, gLt_int, gLe_int, gGt_int, gGe_int, gEq_bl, gNe_bl, gEq_str, gNe_str, mIsi, mIsiT, tyD, kitL, kitTab, atI_c0, atI_c1, atI_c2, atI_c3, atI_c4, sForR1, int1, int2, mMeth, mMake, mFld, sFldM, gIs, gIsNot, isNon_t, sRaise, gList, newLO, a.eo, e1, e2, e3, e4, e5, lk1, lk2, lks, pt]
  · have ne : h ≠ l ∧ h ≠ p ∧ h ≠ v := ⟨(fun z => by have := a.eo; rw [z, a.el] at this; cases this), (fun z => by have := a.eo; rw [z, a.ep] at this; cases this), fun z => by have := a.eo; rw [z, a.ev] at this; cases this⟩
    refine ⟨List.getElem?_set_self (by rw [List.length_append]; omega), ?_, ?_, ?_, ?_, a.lp, by omega, a.pos.1, by omega, a.pos.2.2.1, a.pos.2.2.2.1, a.pos.2.2.2.2⟩
    · rw [List.getElem?_set_ne (by omega), List.getElem?_append_right (Nat.le_refl _)]
      simp
    · rw [List.getElem?_set_ne ne.1, List.getElem?_append_left ll]; exact a.el
    · rw [List.getElem?_set_ne ne.2.1, List.getElem?_append_left lp]; exact a.ep
    · rw [List.getElem?_set_ne ne.2.2, List.getElem?_append_left lv]; exact a.ev
end
/-! ### a land is built -/
theorem nodup_mid {A B : List Str} {x : Str} (h : (A ++ x :: B).Nodup) : x ∉ A := fun z => by
  rw [List.nodup_append] at h
  exact h.2.2 x z x (by simp) rfl
theorem WOK.st6 {w : Wd} (k : WOK w) : w.st.length ≤ 6 := k.st.length_le
theorem WOK.stp {w : Wd} (k : WOK w) : w.st.Pairwise fun a b => leS a b = true := List.Pairwise.sublist k.st (by decide +kernel)
theorem pw_sortS {X : List Str} (h : X.Pairwise fun a b => leS a b = true) : sortS X = X := perm_sorted (le := fun a b => leS a b = true) leS_anti _ _ (List.mergeSort_perm _ _) (List.pairwise_mergeSort leS_trans leS_total _) h
theorem WOK.nd {w : Wd} (k : WOK w) : (w.st ++ (w.ls.map (·.n) ++ w.ps.map (·.n))).Nodup := by
  exact (by decide : (STN ++ (LNN ++ PLN)).Nodup).sublist (k.st.append (k.ln.append k.pn))
theorem WOK.snm {w : Wd} (k : WOK w) {x : Str} (h : x ∈ w.st) : x ∈ NAMES := by
  exact List.mem_append_left _ (List.mem_append_left _ (k.st.subset h))
theorem WOK.lnm {w : Wd} (k : WOK w) {x : Ln} (h : x ∈ w.ls) : x.n ∈ NAMES := by
  have : x.n ∈ w.ls.map (·.n) := List.mem_map.mpr ⟨x, h, rfl⟩
  exact List.mem_append_left _ (List.mem_append_right _ (k.ln.subset this))
theorem WOK.pnm {w : Wd} (k : WOK w) {x : Pl} (h : x ∈ w.ps) : x.n ∈ NAMES := by
  have : x.n ∈ w.ps.map (·.n) := List.mem_map.mpr ⟨x, h, rfl⟩
  exact List.mem_append_right _ (k.pn.subset this)
theorem kind_non {w : Wd} {nm : Str} (h1 : nm ∉ w.st) (h2 : nm ∉ w.ls.map (·.n)) (h3 : nm ∉ w.ps.map (·.n)) : kindD w nm = .non := by
  unfold kindD
  rw [if_neg h1, if_neg h2, if_neg h3]
theorem drop_get {α : Type} {xs : List α} {i : Nat} {x : α} (h : xs[i]? = some x) : xs.drop i = x :: xs.drop (i + 1) := by
  obtain ⟨hi, rfl⟩ := List.getElem?_eq_some_iff.mp h
  exact List.drop_eq_getElem_cons hi
theorem take_get {α : Type} {xs : List α} {i : Nat} {x : α} (h : xs[i]? = some x) : xs.take (i + 1) = xs.take i ++ [x] := by
  rw [List.take_succ, h]
  rfl
theorem sort_stn {X : List Str} {i : Nat} {x : Str} (hp : X.Pairwise fun a b => leS a b = true) (h : X[i]? = some x) : sortS (X.take i ++ [x]) = X.take (i + 1) := by
  rw [take_get h]
  exact pw_sortS (by rw [← take_get h]; exact hp.sublist (List.take_sublist _ _))
theorem init_ok {O : Store} : f_land_init [.hdl O.length] (O ++ [.ins "Land" []]) = .ok .non (O ++ [landO (O.length + 1) (O.length + 2) (O.length + 3) (O.length + 4), .lst [], .dct [], .dct [], .lst []]) := by
  have p1 : ∀ d : D, putD "_stations" d [] = [(("_stations" : Str), d)] := fun _ => rfl
  have p2 : ∀ d a : D, putD "_lines" d [(("_stations" : Str), a)] = [(("_stations" : Str), a), (("_lines" : Str), d)] := fun _ _ => rfl
  have p3 : ∀ d a b : D, putD "_plants" d [(("_stations" : Str), a), (("_lines" : Str), b)] = [(("_stations" : Str), a), (("_lines" : Str), b), (("_plants" : Str), d)] := fun _ _ _ => rfl
  have p4 : ∀ d a b c : D, putD "_selves" d [(("_stations" : Str), a), (("_lines" : Str), b), (("_plants" : Str), c)] = [(("_stations" : Str), a), (("_lines" : Str), b), (("_plants" : Str), c), (("_selves" : Str), d)] := fun _ _ _ _ => rfl
  simp [f_land_init, b_land_init, mDNew, p1, p2, p3, p4, runF, sSeq, sIf, sNext, sDrop, sRet, sRetN, sAsg, ofRes, ofB, bName, bNil, bCons, bTup, bLst, bSubL, mTest, mOp, mVar, mC, mChain, mAnd, mOr, mNot, mIf, mAndV, mOrV, mNotV, mNeg, mCons, mNil, mTup, mLst, newL, mCall, mFn, arity, g1, g2, gLen, gInt, gAbs, gMax2, gMin2, gIx, seqOf, lsqOf, lstOf, Res.bind, ofO, gAdd_ok, gSub_ok, gEq_int, gNe_int, gLt_int, gLe_int, gGt_int, gGe_int, gEq_bl, gNe_bl, gEq_str, gNe_str, mIsi, mIsiT, tyD, kitL, kitTab, atI_c0, atI_c1, atI_c2, atI_c3, atI_c4, sForR1, int1, int2, mMeth, mMake, mFld, sFldM, gIs, gIsNot, isNon_t, sRaise, gList, newLO]
end DK.W
end
section
set_option Elab.async false
set_option linter.all false
set_option autoImplicit false
set_option maxRecDepth 100000
set_option maxHeartbeats 4000000
/-! DKConn: what hangs together, in plain Lean. -/
namespace DK.W
open PySem L2 DK
/-- a hangs together with b by the edges -/
inductive Conn (E : List (Str × Str)) : Str → Str → Prop where
  | refl (a : Str) : Conn E a a
  | fw {a b c : Str} : (a, b) ∈ E → Conn E b c → Conn E a c
  | bw {a b c : Str} : (b, a) ∈ E → Conn E b c → Conn E a c
theorem Conn.trans {E : List (Str × Str)} {a b c : Str} (h : Conn E a b) (k : Conn E b c) : Conn E a c := by
  induction h with
  | refl a => exact k
  | fw e _ ih => exact .fw e (ih k)
  | bw e _ ih => exact .bw e (ih k)
theorem Conn.symm {E : List (Str × Str)} {a b : Str} (h : Conn E a b) : Conn E b a := by
  induction h with
  | refl a => exact .refl a
  | fw e _ ih => exact ih.trans (.bw e (.refl _))
  | bw e _ ih => exact ih.trans (.fw e (.refl _))
theorem Conn.mono {E E' : List (Str × Str)} (hs : ∀ e ∈ E, e ∈ E') {a b : Str} (h : Conn E a b) : Conn E' a b := by
  induction h with
  | refl a => exact .refl a
  | fw e _ ih => exact .fw (hs _ e) ih
  | bw e _ ih => exact .bw (hs _ e) ih
/-- what is equal at both ends of every edge is equal where it hangs together -/
theorem Conn.keeps {E : List (Str × Str)} {α : Type} {f : Str → α} (h : ∀ a b, (a, b) ∈ E → f a = f b) {a b : Str} (c : Conn E a b) : f a = f b := by
  induction c with
  | refl a => rfl
  | fw e _ ih => exact (h _ _ e).trans ih
  | bw e _ ih => exact (h _ _ e).symm.trans ih
theorem Conn.nil {a b : Str} (h : Conn [] a b) : a = b := by
  cases h with
  | refl a => rfl
  | fw e _ => cases e
  | bw e _ => cases e
/-- the marks of the walk: R is what is marked, and with what; closed but for what waits -/
structure Marks (E : List (Str × Str)) (lit : List Str) (i : Nat) (wait : List Str) (R : Str → Option Str) : Prop where
  dom : ∀ x f, R x = some f → x ∈ lit
  conn : ∀ x f, R x = some f → Conn E x f
  closed : ∀ x f, R x = some f → x ∉ wait → ∀ y, ((x, y) ∈ E ∨ (y, x) ∈ E) → R y = some f
  past : ∀ j x, j < i → lit[j]? = some x → ∃ j' x', j' ≤ j ∧ lit[j']? = some x' ∧ R x = some x'
theorem Marks.start {E : List (Str × Str)} {lit : List Str} : Marks E lit 0 [] fun _ => none := ⟨fun _ _ h => by (cases h), fun _ _ h => by (cases h), fun _ _ h => by (cases h), fun j x h => by omega⟩
/-- the roots are among those that were gone through -/
def Roots (lit : List Str) (i : Nat) (R : Str → Option Str) : Prop := ∀ x f, R x = some f → ∃ j, j < i ∧ lit[j]? = some f
/-- at the end -/
theorem Marks.all {E : List (Str × Str)} {lit : List Str} {R : Str → Option Str} (m : Marks E lit lit.length [] R) : (∀ x, x ∈ lit → ∃ f, R x = some f) ∧ (∀ x y, x ∈ lit → y ∈ lit → (R x = R y ↔ Conn E x y)) := by
  have h1 : ∀ x, x ∈ lit → ∃ f, R x = some f := fun x hx => by
    obtain ⟨j, hj, e⟩ := List.getElem_of_mem hx
    obtain ⟨_, f, _, _, h⟩ := m.past j x hj (by rw [List.getElem?_eq_getElem hj, e])
    exact ⟨f, h⟩
  refine ⟨h1, fun x y hx hy => ⟨fun e => ?_, fun c => ?_⟩⟩
  · obtain ⟨f, hf⟩ := h1 x hx
    exact (m.conn x f hf).trans (m.conn y f (e ▸ hf)).symm
  · obtain ⟨f, hf⟩ := h1 x hx
    have key : ∀ {a b}, Conn E a b → R a = some f → R b = some f := fun {a b} c => by
      induction c with
      | refl a => exact id
      | fw e _ ih => exact fun h => ih (m.closed _ f h (by simp) _ (.inl e))
      | bw e _ ih => exact fun h => ih (m.closed _ f h (by simp) _ (.inr e))
    rw [hf, key c hf]
end DK.W
end
section
set_option Elab.async false
set_option linter.all false
set_option autoImplicit false
set_option maxRecDepth 100000
set_option maxHeartbeats 4000000
/-! DKMoment: what a land tells; moments, in plain Lean. -/
namespace DK.W
open PySem L2 DK
/-! ### dicts -/
theorem any_val {kvs : List (Key × D)} {k : Key} : (kvs.any fun kv => decide (kv.1 = k)) = (valD kvs k).isSome := by
  unfold valD
  rw [Option.isSome_map, Bool.eq_iff_iff, List.find?_isSome, List.any_eq_true]
theorem find_map_ne {k k' : Key} {d : D} (h : k' ≠ k) : ∀ (kvs : List (Key × D)), (kvs.map fun kv => if kv.1 = k then (kv.1, d) else kv).find? (fun kv => decide (kv.1 = k')) = kvs.find? (fun kv => decide (kv.1 = k'))
  | [] => rfl
  | kv :: kvs => by
    rw [List.map_cons, List.find?_cons, List.find?_cons, find_map_ne h kvs]
    by_cases c : kv.1 = k
    · have c2 : ¬ kv.1 = k' := fun z => h (z.symm.trans c)
      simp [c, Ne.symm h]
    · simp [c]
theorem find_map_eq {k : Key} {d : D} : ∀ (kvs : List (Key × D)), (kvs.any fun kv => decide (kv.1 = k)) = true → ((kvs.map fun kv => if kv.1 = k then (kv.1, d) else kv).find? (fun kv => decide (kv.1 = k))).map (·.2) = some d
  | [], h => by simp at h
  | kv :: kvs, h => by
    rw [List.map_cons, List.find?_cons]
    by_cases c : kv.1 = k
    · simp [c]
    · simp [c]
      have := find_map_eq (d := d) kvs (by simpa [c] using h)
      simpa using this
theorem val_put {kvs : List (Key × D)} {k k' : Key} {d : D} : valD (putKD kvs k d) k' = if k' = k then some d else valD kvs k' := by
  unfold putKD
  split
  · rename_i h
    by_cases c : k' = k
    · subst c
      rw [if_pos rfl]
      exact find_map_eq kvs h
    · rw [if_neg c]
      unfold valD
      rw [find_map_ne c]
  · rename_i h
    have hn : valD kvs k = none := by
      rw [any_val] at h
      cases e : valD kvs k with
      | none => rfl
      | some x => rw [e] at h; simp at h
    unfold valD at hn ⊢
    rw [List.find?_append]
    by_cases c : k' = k
    · subst c
      rw [if_pos rfl]
      have : kvs.find? (fun kv => decide (kv.1 = k')) = none := Option.map_eq_none_iff.mp hn
      rw [this]
      simp
    · rw [if_neg c]
      have : ¬ k = k' := fun z => c z.symm
      simp [this]
theorem put_len {kvs : List (Key × D)} {k : Key} {d : D} : (putKD kvs k d).length ≤ kvs.length + 1 := by
  unfold putKD
  split
  · rw [List.length_map]; omega
  · rw [List.length_append, List.length_singleton]; omega
/-! ### the land tells -/
structure Srt (w : Wd) : Prop where
  ln : sortS (w.ls.map (·.n)) = w.ls.map (·.n)
  pn : sortS (w.ps.map (·.n)) = w.ps.map (·.n)
  lnd : (w.ls.map (·.n)).Nodup
  pnd : (w.ps.map (·.n)).Nodup
  snd : w.st.Nodup
  l8 : w.ls.length < 60
  p8 : w.ps.length < 60
  s8 : w.st.length < 60
  ls : ∀ l ∈ w.ls, l.n ∉ w.st
  ps : ∀ p ∈ w.ps, p.n ∉ w.st
  lp : ∀ l ∈ w.ls, l.n ∉ w.ps.map (·.n)
  lok : ∀ l ∈ w.ls, LnOK w.st l
  pok : ∀ p ∈ w.ps, PlOK w.st p
theorem WOK.srt {w : Wd} (k : WOK w) : Srt w := by
  have nd := k.nd
  rw [List.nodup_append, List.nodup_append] at nd
  have hst6 := k.st6
  have hl := k.ll
  have hp := k.pl
  refine ⟨?_, ?_, nd.2.1.1, nd.2.1.2.1, nd.1, by omega, by omega, by omega, fun l hl z => ?_, fun p hp z => ?_, fun l hl z => ?_, k.lok, k.pok⟩
  · exact pw_sortS (List.Pairwise.sublist k.ln (by decide +kernel))
  · exact pw_sortS (List.Pairwise.sublist k.pn (by decide +kernel))
  · exact nd.2.2 _ z _ (List.mem_append_left _ (List.mem_map.mpr ⟨l, hl, rfl⟩)) rfl
  · exact nd.2.2 _ z _ (List.mem_append_right _ (List.mem_map.mpr ⟨p, hp, rfl⟩)) rfl
  · exact nd.2.1.2.2 _ (List.mem_map.mpr ⟨l, hl, rfl⟩) _ z rfl
theorem find_nm {α : Type} {n : α → Str} {x : α} : ∀ {xs : List α}, (xs.map n).Nodup → x ∈ xs → xs.find? (fun y => decide (n y = n x)) = some x
  | [], _, h => by cases h
  | y :: ys, nd, h => by
    rw [List.map_cons, List.nodup_cons] at nd
    rw [List.find?_cons]
    rcases List.mem_cons.mp h with h | h
    · subst h; simp
    · have : ¬ n y = n x := fun z => nd.1 (by rw [z]; exact List.mem_map.mpr ⟨x, h, rfl⟩)
      simp only [this, decide_false]
      exact find_nm nd.2 h
theorem val_nm {α : Type} {n : α → Str} {g : α → D} {x : α} {xs : List α} (nd : (xs.map n).Nodup) (h : x ∈ xs) : valD (dicS n g xs) (.inr (n x)) = some (g x) := by
  rw [val_dicS, find_nm nd h]
  rfl
section
variable {h s l p v : Nat} {w : Wd} {O : Store} {nm : Str}
theorem stations_ok (a : LandAt h s l p v w O) (k : Srt w) : f_land_stations [.hdl h] O = .ok (.lst (w.st.map .str)) O := by
  have : w.st.length ≤ 1000000 := by have := k.s8; omega
  simp [f_land_stations, b_land_stations, runF, sSeq, sIf, sNext, sDrop, sRet, sRetN, sAsg, ofRes, ofB, bName, bNil, bCons, bTup, bLst, bSubL, mTest, mOp, mVar, mC, mChain, mAnd, mOr, mNot, mIf, mAndV, mOrV, mNotV, mNeg, mCons, mNil, mTup, mLst, newL, mCall, mFn, arity, g1, g2, gLen, gInt, gAbs, gMax2, gMin2, gIx, seqOf, lsqOf, lstOf, Res.bind, ofO, gAdd_ok, gSub_ok, gEq_int, gNe_int, gLt_int, gLe_int, gGt_int, gGe_int, gEq_bl, gNe_bl, gEq_str, gNe_str, mIsi, mIsiT, tyD, kitL, kitTab, atI_c0, atI_c1, atI_c2, atI_c3, atI_c4, sForR1, int1, int2, mMeth, mMake, mFld, sFldM, gIs, gIsNot, isNon_t, sRaise, gList, newLO, a.eo, a.es, lks, this]
theorem inrs_dic {α : Type} {n : α → Str} {g : α → D} : ∀ {xs : List α}, inrs ((dicS n g xs).map (·.1)) = some (xs.map n)
  | [] => rfl
  | x :: xs => by
    show (inrs ((dicS n g xs).map (·.1))).map (n x :: ·) = _
    rw [inrs_dic]
    rfl
theorem lines_ok (a : LandAt h s l p v w O) (k : Srt w) : f_land_lines [.hdl h] O = .ok (.lst ((w.ls.map (·.n)).map .str)) O := by
  have e : gSorted false O (.hdl l) = some (.lst ((w.ls.map (·.n)).map .str), O) := by
    unfold gSorted
    simp only [dctOf, a.el, inrs_dic]
    rw [if_pos (by rw [List.length_map]; have := k.l8; omega), k.ln]
    simp [newLO]
    have := k.l8; omega
  generalize (w.ls.map (·.n)).map D.str = z at *
  simp [f_land_lines, b_land_lines, runF, sSeq, sIf, sNext, sDrop, sRet, sRetN, sAsg, ofRes, ofB, bName, bNil, bCons, bTup, bLst, bSubL, mTest, mOp, mVar, mC, mChain, mAnd, mOr, mNot, mIf, mAndV, mOrV, mNotV, mNeg, mCons, mNil, mTup, mLst, newL, mCall, mFn, arity, g1, g2, gLen, gInt, gAbs, gMax2, gMin2, gIx, seqOf, lsqOf, lstOf, Res.bind, ofO, gAdd_ok, gSub_ok, gEq_int, gNe_int, gLt_int, gLe_int, gGt_int, gGe_int, gEq_bl, gNe_bl, gEq_str, gNe_str, mIsi, mIsiT, tyD, kitL, kitTab, atI_c0, atI_c1, atI_c2, atI_c3, atI_c4, sForR1, int1, int2, mMeth, mMake, mFld, sFldM, gIs, gIsNot, isNon_t, sRaise, gList, newLO, a.eo, lkl, e]
theorem plants_ok (a : LandAt h s l p v w O) (k : Srt w) : f_land_plants [.hdl h] O = .ok (.lst ((w.ps.map (·.n)).map .str)) O := by
  have e : gSorted false O (.hdl p) = some (.lst ((w.ps.map (·.n)).map .str), O) := by
    unfold gSorted
    simp only [dctOf, a.ep, inrs_dic]
    rw [if_pos (by rw [List.length_map]; have := k.p8; omega), k.pn]
    simp [newLO]
    have := k.p8; omega
  generalize (w.ps.map (·.n)).map D.str = z at *
  simp [f_land_plants, b_land_plants, runF, sSeq, sIf, sNext, sDrop, sRet, sRetN, sAsg, ofRes, ofB, bName, bNil, bCons, bTup, bLst, bSubL, mTest, mOp, mVar, mC, mChain, mAnd, mOr, mNot, mIf, mAndV, mOrV, mNotV, mNeg, mCons, mNil, mTup, mLst, newL, mCall, mFn, arity, g1, g2, gLen, gInt, gAbs, gMax2, gMin2, gIx, seqOf, lsqOf, lstOf, Res.bind, ofO, gAdd_ok, gSub_ok, gEq_int, gNe_int, gLt_int, gLe_int, gGt_int, gGe_int, gEq_bl, gNe_bl, gEq_str, gNe_str, mIsi, mIsiT, tyD, kitL, kitTab, atI_c0, atI_c1, atI_c2, atI_c3, atI_c4, sForR1, int1, int2, mMeth, mMake, mFld, sFldM, gIs, gIsNot, isNon_t, sRaise, gList, newLO, a.eo, lkp, e]
end
/-! ### the moment -/
abbrev momO (h : Nat) (st lit cl rn : List Str) (r : Nat) : Ob := .ins "Moment" [("_land", .hdl h), ("_names", .lst (st.map .str)), ("_lit", .lst (lit.map .str)), ("_closed", .lst (cl.map .str)), ("_running", .lst (rn.map .str)), ("_root", .hdl r)]
/-- a dict of roots -/
def RootIs (kvs : List (Key × D)) (R : Str → Option Str) : Prop := ∀ x, valD kvs (.inr x) = (R x).map D.str
theorem RootIs.put {kvs : List (Key × D)} {R : Str → Option Str} {x f : Str} (h : RootIs kvs R) : RootIs (putKD kvs (.inr x) (.str f)) (fun z => if z = x then some f else R z) := fun z => by
  rw [val_put]
  by_cases c : z = x
  · subst c; rw [if_pos rfl]; simp
  · rw [if_neg (fun q => c (Sum.inr.inj q)), h z]; simp [c]
/-- the neighbours of each lit station, in lists of the store -/
structure NearAt (nd n0 : Nat) (L : List Str) (hs : Str → Nat) (adj : Str → List Str) (O : Store) : Prop where
  d : ∃ kvs, O[nd]? = some (.dct kvs) ∧ kvs.length ≤ L.length ∧ ∀ x, valD kvs (.inr x) = if x ∈ L then some (.hdl (hs x)) else none
  a : ∀ x ∈ L, O[hs x]? = some (.lst ((adj x).map .str))
  inj : ∀ x ∈ L, ∀ y ∈ L, hs x = hs y → x = y
  lo : ∀ x ∈ L, n0 ≤ hs x ∧ hs x ≠ nd
theorem NearAt.fz {nd n0 : Nat} {L : List Str} {hs : Str → Nat} {adj : Str → List Str} {O O' : Store} (k : NearAt nd n0 L hs adj O) (e : ∀ i x, O[i]? = some x → n0 ≤ i → O'[i]? = some x) (h : n0 ≤ nd) : NearAt nd n0 L hs adj O' := by
  obtain ⟨⟨kvs, d1, d2, d3⟩, a, i, lo⟩ := k
  exact ⟨⟨kvs, e _ _ d1 h, d2, d3⟩, fun x hx => e _ _ (a x hx) (lo x hx).1, i, lo⟩
end DK.W
end
section
set_option Elab.async false
set_option linter.all false
set_option autoImplicit false
set_option maxRecDepth 100000
set_option maxHeartbeats 4000000
/-! DKMark: what a moment marks, in plain Lean. -/
namespace DK.W
open PySem L2 DK
/-- all but r stands as before -/
def Fx (r : Nat) (O O' : Store) : Prop := O.length ≤ O'.length ∧ ∀ j, j < O.length → j ≠ r → O'[j]? = O[j]?
theorem Fx.refl {r : Nat} (O : Store) : Fx r O O := ⟨Nat.le_refl _, fun _ _ _ => rfl⟩
theorem Fx.trans {r : Nat} {O O1 O2 : Store} (a : Fx r O O1) (b : Fx r O1 O2) : Fx r O O2 := ⟨Nat.le_trans a.1 b.1, fun j h hr => (b.2 j (Nat.lt_of_lt_of_le h a.1) hr).trans (a.2 j h hr)⟩
theorem Fx.at {r j : Nat} {O O' : Store} {x : Ob} (f : Fx r O O') (hr : j ≠ r) (h : O[j]? = some x) : O'[j]? = some x := (f.2 j (List.getElem?_eq_some_iff.mp h).1 hr).trans h
theorem Fz.fx {r : Nat} {O O' : Store} (f : Fz O O') : Fx r O O' := ⟨f.1, fun j h _ => f.2 j h⟩
theorem fx_set {r : Nat} {O : Store} {q : Ob} : Fx r O (O.set r q) := ⟨by rw [List.length_set]; exact Nat.le_refl _, fun j h hr => List.getElem?_set_ne (fun z => hr z.symm)⟩
theorem LandAt.fx {h s l p v r : Nat} {w : Wd} {O O' : Store} (a : LandAt h s l p v w O) (f : Fx r O O') (hr : r ≠ h ∧ r ≠ s ∧ r ≠ l ∧ r ≠ p ∧ r ≠ v) : LandAt h s l p v w O' :=
  ⟨f.at (Ne.symm hr.1) a.eo, f.at (Ne.symm hr.2.1) a.es, f.at (Ne.symm hr.2.2.1) a.el, f.at (Ne.symm hr.2.2.2.1) a.ep, f.at (Ne.symm hr.2.2.2.2) a.ev, a.lp, a.sv, a.pos⟩
/-! ### the empty lists -/
/-! ### the neighbours -/
def edgL (xs : List Ln) (L : List Str) : List (Str × Str) := (xs.filter fun l => decide (l.a ∈ L) && decide (l.b ∈ L)).map fun l => (l.a, l.b)
/-! ### the loops -/
section
variable {h s l p v m r : Nat} {w : Wd} {O : Store} {lit cl rn : List Str}
/-- what the walk stands on -/
structure MarkC (h s l p v m r : Nat) (w : Wd) (lit cl rn : List Str) (O : Store) : Prop where
  a : LandAt h s l p v w O
  eo : O[m]? = some (momO h w.st lit cl rn r)
  rl : r ≠ h ∧ r ≠ s ∧ r ≠ l ∧ r ≠ p ∧ r ≠ v
  rm : r ≠ m
  rlt : r < O.length
theorem MarkC.fx {O' : Store} (c : MarkC h s l p v m r w lit cl rn O) (f : Fx r O O') : MarkC h s l p v m r w lit cl rn O' := ⟨c.a.fx f c.rl, f.at (Ne.symm c.rm) c.eo, c.rl, c.rm, Nat.lt_of_lt_of_le c.rlt f.1⟩
theorem NearAt.fx {nd n0 : Nat} {hs : Str → Nat} {adj : Str → List Str} {O O' : Store} (k : NearAt nd n0 lit hs adj O) (f : Fx r O O') (hr : r < n0) (h : n0 ≤ nd) : NearAt nd n0 lit hs adj O' := k.fz (fun i x e hi => f.at (by omega) e) h
theorem NearAt.put {nd n0 wh : Nat} {hs : Str → Nat} {adj : Str → List Str} {O : Store} {q : Ob} (k : NearAt nd n0 lit hs adj O) (h1 : wh ≠ nd) (h2 : ∀ x ∈ lit, hs x ≠ wh) : NearAt nd n0 lit hs adj (O.set wh q) := by
  obtain ⟨⟨kvs, d1, d2, d3⟩, a, i, lo⟩ := k
  exact ⟨⟨kvs, by rw [List.getElem?_set_ne h1]; exact d1, d2, d3⟩, fun x hx => by rw [List.getElem?_set_ne (Ne.symm (h2 x hx))]; exact a x hx, i, lo⟩
end
/-! ### a moment is made -/
/-- a moment at m, its roots at r -/
structure MomAt (m h r : Nat) (w : Wd) (lit : List Str) (cls : List Ln) (rns : List Pl) (R : Str → Option Str) (O : Store) : Prop where
  eo : O[m]? = some (momO h w.st lit (cls.map (·.n)) (rns.map (·.n)) r)
  rt : ∃ kvs, O[r]? = some (.dct kvs) ∧ RootIs kvs R
  mks : Marks (edgL cls lit) lit lit.length [] R
  ro : Roots lit lit.length R
theorem MomAt.fz {m h r : Nat} {w : Wd} {lit : List Str} {cls : List Ln} {rns : List Pl} {R : Str → Option Str} {O O' : Store} (k : MomAt m h r w lit cls rns R O) (f : Fz O O') : MomAt m h r w lit cls rns R O' :=
  ⟨f.at k.eo, by obtain ⟨q, q1, q2⟩ := k.rt; exact ⟨q, f.at q1, q2⟩, k.mks, k.ro⟩
def litOf (w : Wd) (A : List Str) : List Str := w.st.filter fun x => decide (x ∈ A)
def clsOf (w : Wd) (A : List Str) : List Ln := w.ls.filter fun x => decide (x.n ∈ A)
def rnsOf (w : Wd) (A : List Str) : List Pl := w.ps.filter fun x => decide (x.n ∈ A)
end DK.W
end
section
set_option Elab.async false
set_option linter.all false
set_option autoImplicit false
set_option maxRecDepth 100000
set_option maxHeartbeats 4000000
/-! DKPower: power, what can be closed and cranked; the laws' own roots and reasons. -/
namespace DK.W
open PySem L2 DK
/-! ### the laws' own roots -/
def ThereAt (t : Nat) (T : List Str) (O : Store) : Prop := ∃ kvs, O[t]? = some (.dct kvs) ∧ ∀ x, (valD kvs (.inr x)).isSome = decide (x ∈ T)
theorem ThereAt.fz {t : Nat} {T : List Str} {O O' : Store} (k : ThereAt t T O) (f : Fz O O') : ThereAt t T O' := by
  obtain ⟨q, q1, q2⟩ := k
  exact ⟨q, f.at q1, q2⟩
/-! ### both reckon alike -/
end DK.W
end
section
set_option Elab.async false
set_option linter.all false
set_option autoImplicit false
set_option maxRecDepth 100000
set_option maxHeartbeats 4000000
/-! mirrors that many laws share: printed by mirrors.py. -/
namespace DK.W
open PySem L2 DK
def b_named : SM := (sSeq (sIf (mTest (mOp gEq (mVar 1) (mC (.str "station")))) (sRet (mMeth "Land" "stations" (arity 1 f_land_stations) [] (mVar 0) mNil)) sNext)
    (sSeq (sIf (mTest (mOp gEq (mVar 1) (mC (.str "line")))) (sRet (mMeth "Land" "lines" (arity 1 f_land_lines) [] (mVar 0) mNil)) sNext)
    (sRet (mMeth "Land" "plants" (arity 1 f_land_plants) [] (mVar 0) mNil))))
def f_named : FM := runF 2 b_named
def b_table_init : SM := (sSeq (sFldM "Table" "_rows" (mVar 0) (mLst true mNil))
    (sSeq (sForT (mC (.tup [.str "station", .str "line", .str "plant"])) (bName 3) (sForL (mFn (arity 2 f_named) [] (mCons (mVar 1) (mCons (mVar 3) mNil))) (bName 4) (sSeq (sAsg (mDGet1 (mVar 2) (mVar 4)) (bName 5))
    (sSeq (sIf (mAnd (mTest (mOp gIsNot (mVar 5) (mC .non))) (mNot (mTest (mFn (arity 3 f_is_number) [] (mCons (mVar 5) (mCons (mC (.int 0)) (mCons (mOp gPow (mC (.int 10)) (mC (.int 12))) mNil))))))) (sRaise "InvalidPaper" (mCons (mC (.str "no minute")) mNil)) sNext)
    (sDrop (mApp (mFld "Table" "_rows" (mVar 0)) (mTup (mCons (mVar 3) (mCons (mVar 4) (mCons (mVar 5) mNil))))))))))
    (sSeq (sIf (mTest (mOp gGt (mCall (g1 gLen) (mCons (mLcD false (mVar 2) [4] (bName 4) (mTest (mOp gIs (mMeth "Land" "kind" (arity 2 f_land_kind) [] (mVar 1) (mCons (mVar 4) mNil)) (mC .non))) (mVar 4)) mNil)) (mC (.int 0)))) (sRaise "InvalidPaper" (mCons (mC (.str "an unknown name")) mNil)) sNext)
    (sSeq (sFldM "Table" "_minutes" (mVar 0) mDNew)
    (sForL (mFld "Table" "_rows" (mVar 0)) (bTup 3 (bCons (bName 3) (bCons (bName 4) (bCons (bName 5) bNil)))) (sDPutM (mFld "Table" "_minutes" (mVar 0)) (mVar 4) (mTup (mCons (mVar 3) (mCons (mVar 5) mNil)))))))))
def f_table_init : FM := runF 6 b_table_init
def b_table_rows : SM := (sRet (mCall (g1 (gList true)) (mCons (mFld "Table" "_rows" (mVar 0)) mNil)))
def f_table_rows : FM := runF 1 b_table_rows
def b_table_minute : SM := (sSeq (sIf (mTest (mDIn false (mVar 1) (mFld "Table" "_minutes" (mVar 0)))) (sRaise "UnknownName" (mCons (mC (.str "table")) mNil)) sNext)
    (sRet (mOp gIx (mDGet (mFld "Table" "_minutes" (mVar 0)) (mVar 1)) (mC (.int 1)))))
def f_table_minute : FM := runF 2 b_table_minute
end DK.W
end
section
set_option Elab.async false
set_option linter.all false
set_option autoImplicit false
set_option maxRecDepth 100000
set_option maxHeartbeats 4000000
/-! mirrors that many laws share: printed by mirrors.py. -/
namespace DK.W
open PySem L2 DK
end DK.W
end
section
set_option Elab.async false
set_option linter.all false
set_option autoImplicit false
set_option maxRecDepth 100000
set_option maxHeartbeats 4000000
/-! DKStA: the state of a land: things, what is there, the moment, in plain Lean. -/
namespace DK.W
open PySem L2 DK
section
variable {s l p v : D}
theorem lk_stations : List.lookup ("stations" : Str) [(("_stations" : Str), s), (("_lines" : Str), l), (("_plants" : Str), p), (("_selves" : Str), v)] = none := rfl
theorem lk_lines : List.lookup ("lines" : Str) [(("_stations" : Str), s), (("_lines" : Str), l), (("_plants" : Str), p), (("_selves" : Str), v)] = none := rfl
theorem lk_plants : List.lookup ("plants" : Str) [(("_stations" : Str), s), (("_lines" : Str), l), (("_plants" : Str), p), (("_selves" : Str), v)] = none := rfl
theorem lk_names : List.lookup ("names" : Str) [(("_stations" : Str), s), (("_lines" : Str), l), (("_plants" : Str), p), (("_selves" : Str), v)] = none := rfl
theorem lk_line : List.lookup ("line" : Str) [(("_stations" : Str), s), (("_lines" : Str), l), (("_plants" : Str), p), (("_selves" : Str), v)] = none := rfl
theorem lk_plant : List.lookup ("plant" : Str) [(("_stations" : Str), s), (("_lines" : Str), l), (("_plants" : Str), p), (("_selves" : Str), v)] = none := rfl
theorem lk_is_self : List.lookup ("is_self" : Str) [(("_stations" : Str), s), (("_lines" : Str), l), (("_plants" : Str), p), (("_selves" : Str), v)] = none := rfl
theorem lk_lines_at : List.lookup ("lines_at" : Str) [(("_stations" : Str), s), (("_lines" : Str), l), (("_plants" : Str), p), (("_selves" : Str), v)] = none := rfl
theorem lk_plants_at : List.lookup ("plants_at" : Str) [(("_stations" : Str), s), (("_lines" : Str), l), (("_plants" : Str), p), (("_selves" : Str), v)] = none := rfl
theorem lk_far_end : List.lookup ("far_end" : Str) [(("_stations" : Str), s), (("_lines" : Str), l), (("_plants" : Str), p), (("_selves" : Str), v)] = none := rfl
theorem lk_rows : List.lookup ("rows" : Str) [(("_stations" : Str), s), (("_lines" : Str), l), (("_plants" : Str), p), (("_selves" : Str), v)] = none := rfl
theorem lk_there : List.lookup ("_there" : Str) [(("_stations" : Str), s), (("_lines" : Str), l), (("_plants" : Str), p), (("_selves" : Str), v)] = none := rfl
theorem lk_copy : List.lookup ("copy" : Str) [(("_stations" : Str), s), (("_lines" : Str), l), (("_plants" : Str), p), (("_selves" : Str), v)] = none := rfl
theorem lk_remove_station : List.lookup ("remove_station" : Str) [(("_stations" : Str), s), (("_lines" : Str), l), (("_plants" : Str), p), (("_selves" : Str), v)] = none := rfl
theorem lk_remove_line : List.lookup ("remove_line" : Str) [(("_stations" : Str), s), (("_lines" : Str), l), (("_plants" : Str), p), (("_selves" : Str), v)] = none := rfl
theorem lk_remove_plant : List.lookup ("remove_plant" : Str) [(("_stations" : Str), s), (("_lines" : Str), l), (("_plants" : Str), p), (("_selves" : Str), v)] = none := rfl
theorem lk_add_station : List.lookup ("add_station" : Str) [(("_stations" : Str), s), (("_lines" : Str), l), (("_plants" : Str), p), (("_selves" : Str), v)] = none := rfl
theorem lk_add_line : List.lookup ("add_line" : Str) [(("_stations" : Str), s), (("_lines" : Str), l), (("_plants" : Str), p), (("_selves" : Str), v)] = none := rfl
theorem lk_add_self : List.lookup ("add_self" : Str) [(("_stations" : Str), s), (("_lines" : Str), l), (("_plants" : Str), p), (("_selves" : Str), v)] = none := rfl
theorem lk_add_plant : List.lookup ("add_plant" : Str) [(("_stations" : Str), s), (("_lines" : Str), l), (("_plants" : Str), p), (("_selves" : Str), v)] = none := rfl
theorem lk_free : List.lookup ("_free" : Str) [(("_stations" : Str), s), (("_lines" : Str), l), (("_plants" : Str), p), (("_selves" : Str), v)] = none := rfl
theorem lk_room : List.lookup ("_room" : Str) [(("_stations" : Str), s), (("_lines" : Str), l), (("_plants" : Str), p), (("_selves" : Str), v)] = none := rfl
theorem lk_kind : List.lookup ("kind" : Str) [(("_stations" : Str), s), (("_lines" : Str), l), (("_plants" : Str), p), (("_selves" : Str), v)] = none := rfl
end
/-! ### things -/
inductive Th where
  | ln (x : Ln)
  | pl (x : Pl)
def Th.n : Th → Str
  | .ln x => x.n
  | .pl x => x.n
def Th.kd : Th → Str
  | .ln _ => "line"
  | .pl _ => "plant"
def Th.In (w : Wd) : Th → Prop
  | .ln x => x ∈ w.ls
  | .pl x => x ∈ w.ps
abbrev Deed := Int × Th
abbrev rowP (r : Deed) : D := .tup [.int r.1, .str r.2.kd, .str r.2.n]
def nmsW (w : Wd) : List Str := (w.st ++ w.ls.map (·.n)) ++ w.ps.map (·.n)
theorem nmsW_nd {w : Wd} (k : WOK w) : (nmsW w).Nodup := by
  unfold nmsW
  rw [List.append_assoc]
  exact k.nd
theorem nmsW_len {w : Wd} (k : WOK w) : (nmsW w).length ≤ 27 := by
  have h1 := k.ll
  have h2 := k.pl
  have h3 := k.st6
  unfold nmsW
  rw [List.length_append, List.length_append, List.length_map, List.length_map]
  omega
/-! ### what is there -/
def Dom (w : Wd) (τ : Str → Option Int) : Prop := ∀ x, (τ x).isSome = true → x ∈ nmsW w
def setT (τ : Str → Option Int) (x : Str) (i : Int) : Str → Option Int := fun y => if y = x then some i else τ y
def Tl (w : Wd) (τ : Str → Option Int) : List Str := (nmsW w).filter fun x => (τ x).isSome
theorem tl_mem {w : Wd} {τ : Str → Option Int} (h : Dom w τ) {x : Str} : x ∈ Tl w τ ↔ (τ x).isSome = true := by
  unfold Tl
  rw [List.mem_filter]
  exact ⟨fun z => z.2, fun z => ⟨h x z, z⟩⟩
structure DKv (τ : Str → Option Int) (kv : List (Key × D)) : Prop where
  v : ∀ x, valD kv (.inr x) = (τ x).map D.int
  k : ∃ ks : List Str, kv.map (·.1) = ks.map Sum.inr ∧ ks.Nodup
def DctT (d : Nat) (τ : Str → Option Int) (O : Store) : Prop := ∃ kv, O[d]? = some (.dct kv) ∧ DKv τ kv
theorem DctT.fz {d : Nat} {τ : Str → Option Int} {O O' : Store} (h : DctT d τ O) (f : Fz O O') : DctT d τ O' := by
  obtain ⟨kv, e, k⟩ := h
  exact ⟨kv, f.at e, k⟩
theorem len_le_sub : ∀ {ks l : List Str}, ks.Nodup → (∀ x ∈ ks, x ∈ l) → ks.length ≤ l.length
  | [], _, _, _ => Nat.zero_le _
  | k :: ks, l, nd, h => by
    obtain ⟨h1, h2⟩ := List.nodup_cons.mp nd
    have hk := h k (by simp)
    have := len_le_sub (ks := ks) (l := l.erase k) h2 fun x hx => (List.mem_erase_of_ne fun z => h1 (by rw [← z]; exact hx)).mpr (h x (by simp [hx]))
    have e := List.length_erase_of_mem hk
    have p : 0 < l.length := List.length_pos_of_mem hk
    rw [List.length_cons]
    omega
theorem key_some {kv : List (Key × D)} {ks : List Str} (hk : kv.map (·.1) = ks.map Sum.inr) {x : Str} : (valD kv (.inr x)).isSome = true ↔ x ∈ ks := by
  rw [← any_val, List.any_eq_true]
  constructor
  · rintro ⟨p, hp, e⟩
    have : p.1 ∈ ks.map (Sum.inr (α := Int)) := by rw [← hk]; exact List.mem_map.mpr ⟨p, hp, rfl⟩
    obtain ⟨y, hy, e2⟩ := List.mem_map.mp this
    rw [of_decide_eq_true e] at e2
    rw [← Sum.inr.inj e2]
    exact hy
  · intro h
    have : (Sum.inr x : Key) ∈ kv.map (·.1) := by rw [hk]; exact List.mem_map.mpr ⟨x, h, rfl⟩
    obtain ⟨p, hp, e⟩ := List.mem_map.mp this
    exact ⟨p, hp, decide_eq_true e⟩
theorem DKv.mem {τ : Str → Option Int} {kv : List (Key × D)} (h : DKv τ kv) {ks : List Str} (hk : kv.map (·.1) = ks.map Sum.inr) {x : Str} : x ∈ ks ↔ (τ x).isSome = true := by
  rw [← key_some hk, h.v x]
  cases τ x <;> simp
theorem DKv.len {w : Wd} {τ : Str → Option Int} {kv : List (Key × D)} (k : WOK w) (h : DKv τ kv) (dm : Dom w τ) : kv.length ≤ 27 := by
  obtain ⟨ks, hk, nd⟩ := h.k
  have e : kv.length = ks.length := by rw [← List.length_map (f := fun p : Key × D => p.1) (as := kv), hk, List.length_map]
  have := len_le_sub nd fun x hx => dm x ((h.mem hk).mp hx)
  have := nmsW_len k
  omega
theorem DKv.put {τ : Str → Option Int} {kv : List (Key × D)} {x : Str} {i : Int} (h : DKv τ kv) : DKv (setT τ x i) (putKD kv (.inr x) (.int i)) := by
  refine ⟨fun y => ?_, ?_⟩
  · rw [val_put]
    unfold setT
    by_cases c : y = x
    · rw [if_pos (by rw [c]), if_pos c]
      rfl
    · rw [if_neg (fun z => c (Sum.inr.inj z)), if_neg c]
      exact h.v y
  · obtain ⟨ks, hk, nd⟩ := h.k
    unfold putKD
    by_cases c : (kv.any fun p => decide (p.1 = Sum.inr x)) = true
    · rw [if_pos c]
      refine ⟨ks, ?_, nd⟩
      rw [← hk, List.map_map]
      refine List.map_congr_left fun p _ => ?_
      show (if p.1 = Sum.inr x then (p.1, D.int i) else p).1 = p.1
      split <;> rfl
    · rw [if_neg c]
      have hx : x ∉ ks := fun z => c (by rw [any_val]; exact (key_some hk).mpr z)
      refine ⟨ks ++ [x], by rw [List.map_append, hk, List.map_append]; rfl, ?_⟩
      rw [List.nodup_append]
      refine ⟨nd, by simp, fun a ha b hb => ?_⟩
      rw [List.mem_singleton] at hb
      subst hb
      exact fun e => hx (e ▸ ha)
theorem Dom.put {w : Wd} {τ : Str → Option Int} {x : Str} {i : Int} (h : Dom w τ) (hx : x ∈ nmsW w) : Dom w (setT τ x i) := fun y hy => by
  unfold setT at hy
  by_cases c : y = x
  · rw [c]; exact hx
  · rw [if_neg c] at hy
    exact h y hy
theorem DctT.there {w : Wd} {d : Nat} {τ : Str → Option Int} {O : Store} (h : DctT d τ O) (dm : Dom w τ) : ThereAt d (Tl w τ) O := by
  obtain ⟨kv, e, k⟩ := h
  refine ⟨kv, e, fun x => ?_⟩
  rw [k.v x]
  have := tl_mem dm (x := x)
  cases hx : τ x with
  | none =>
    rw [hx] at this
    simp at this
    simp [this]
  | some i =>
    rw [hx] at this
    simp at this
    simp [this]
/-! ### the state -/
abbrev stO (h : Nat) (now : Int) (c q z : Nat) (mo : D) : Ob := .ins "State" [("_land", .hdl h), ("_now", .int now), ("_came", .hdl c), ("_coming", .hdl q), ("_since", .hdl z), ("_moment", mo)]
structure StK (kz : List (Key × D)) (st h c q z : Nat) (now : Int) (τ : Str → Option Int) (C : List Deed) (mo : D) (O : Store) : Prop where
  eo : O[st]? = some (stO h now c q z mo)
  ec : DctT c τ O
  eq : O[q]? = some (.lst (C.map rowP))
  ez : O[z]? = some (.dct kz)
  cz : c ≠ z
theorem StK.fz {kz : List (Key × D)} {st h c q z : Nat} {now : Int} {τ : Str → Option Int} {C : List Deed} {mo : D} {O O' : Store} (a : StK kz st h c q z now τ C mo O) (f : Fz O O') : StK kz st h c q z now τ C mo O' := ⟨f.at a.eo, a.ec.fz f, f.at a.eq, f.at a.ez, a.cz⟩
/-- the moment that is kept, if any -/
def MoOK (mo : D) (h : Nat) (w : Wd) (τ : Str → Option Int) (O : Store) : Prop := mo = .non ∨ ∃ m r R, mo = .hdl m ∧ MomAt m h r w (litOf w (Tl w τ)) (clsOf w (Tl w τ)) (rnsOf w (Tl w τ)) R O
theorem MoOK.fz {mo : D} {h : Nat} {w : Wd} {τ : Str → Option Int} {O O' : Store} (a : MoOK mo h w τ O) (f : Fz O O') : MoOK mo h w τ O' := by
  rcases a with a | ⟨m, r, R, e, k⟩
  · exact .inl a
  · exact .inr ⟨m, r, R, e, k.fz f⟩
end DK.W
end
section
set_option Elab.async false
set_option linter.all false
set_option autoImplicit false
set_option maxRecDepth 100000
set_option maxHeartbeats 4000000
/-! DKStB: begun, spans, bars, in plain Lean. -/
namespace DK.W
open PySem L2 DK
def optI : Option Int → D
  | none => .non
  | some i => .int i
/-! ### begun, spans -/
end DK.W
end
section
set_option Elab.async false
set_option linter.all false
set_option autoImplicit false
set_option maxRecDepth 100000
set_option maxHeartbeats 4000000
/-! DKTbA: a table is made, in plain Lean. -/
namespace DK.W
open PySem L2 DK
/-! ### rows -/
abbrev Row := Str × Str × Option Int
abbrev rowD (r : Row) : D := .tup [.str r.1, .str r.2.1, optI r.2.2]
abbrev minD (r : Row) : D := .tup [.str r.1, optI r.2.2]
def rowsK (kd : Str) (xs : List Str) (M : Str → Option Int) : List Row := xs.map fun x => (kd, x, M x)
def rowsW (w : Wd) (M : Str → Option Int) : List Row := (rowsK "station" w.st M ++ rowsK "line" (w.ls.map (·.n)) M) ++ rowsK "plant" (w.ps.map (·.n)) M
theorem rowsK_len {kd : Str} {xs : List Str} {M : Str → Option Int} : (rowsK kd xs M).length = xs.length := List.length_map _
theorem rowsK_nm {kd : Str} {xs : List Str} {M : Str → Option Int} : (rowsK kd xs M).map (·.2.1) = xs := by
  unfold rowsK
  rw [List.map_map]
  exact List.map_id _
theorem rowsW_nm {w : Wd} {M : Str → Option Int} : (rowsW w M).map (·.2.1) = nmsW w := by
  unfold rowsW nmsW
  rw [List.map_append, List.map_append, rowsK_nm, rowsK_nm, rowsK_nm]
theorem rowsW_len {w : Wd} {M : Str → Option Int} : (rowsW w M).length = (nmsW w).length := by rw [← rowsW_nm (M := M), List.length_map]
theorem rowsW_M {w : Wd} {M : Str → Option Int} {r : Row} (h : r ∈ rowsW w M) : r.2.2 = M r.2.1 := by
  unfold rowsW rowsK at h
  rcases List.mem_append.mp h with h | h
  · rcases List.mem_append.mp h with h | h <;> obtain ⟨x, _, rfl⟩ := List.mem_map.mp h <;> rfl
  · obtain ⟨x, _, rfl⟩ := List.mem_map.mp h
    rfl
theorem kind_in {w : Wd} {x : Str} : kindD w x = .non ↔ x ∉ nmsW w := by
  unfold kindD nmsW
  rw [List.mem_append, List.mem_append]
  by_cases c1 : x ∈ w.st
  · rw [if_pos c1]
    exact ⟨(fun z => nomatch z), fun z => absurd (.inl (.inl c1)) z⟩
  · rw [if_neg c1]
    by_cases c2 : x ∈ w.ls.map (·.n)
    · rw [if_pos c2]
      exact ⟨(fun z => nomatch z), fun z => absurd (.inl (.inr c2)) z⟩
    · rw [if_neg c2]
      by_cases c3 : x ∈ w.ps.map (·.n)
      · rw [if_pos c3]
        exact ⟨(fun z => nomatch z), fun z => absurd (.inr c3) z⟩
      · rw [if_neg c3]
        exact ⟨fun _ z => z.elim (fun z => z.elim c1 c2) c3, fun _ => rfl⟩
/-! ### minutes handed in -/
structure Mins (kvs : List (Key × D)) (M : Str → Option Int) (ns : List Str) : Prop where
  v : ∀ x, (valD kvs (.inr x)).getD .non = optI (M x)
  k : ∃ ks : List Str, kvs.map (·.1) = ks.map Sum.inr ∧ ∀ x ∈ ks, x ∈ ns
  b : ∀ x i, M x = some i → 0 ≤ i ∧ i ≤ 10 ^ 12
  l : kvs.length ≤ 1000
abbrev tab1 (n : Nat) : Ob := .ins "Table" [("_rows", .hdl (n + 1))]
abbrev tabO (n : Nat) : Ob := .ins "Table" [("_rows", .hdl (n + 1)), ("_minutes", .hdl (n + 2))]
abbrev inB : SM := (sSeq (sAsg (mDGet1 (mVar 2) (mVar 4)) (bName 5))
    (sSeq (sIf (mAnd (mTest (mOp gIsNot (mVar 5) (mC .non))) (mNot (mTest (mFn (arity 3 f_is_number) [] (mCons (mVar 5) (mCons (mC (.int 0)) (mCons (mOp gPow (mC (.int 10)) (mC (.int 12))) mNil))))))) (sRaise "InvalidPaper" (mCons (mC (.str "no minute")) mNil)) sNext)
    (sDrop (mApp (mFld "Table" "_rows" (mVar 0)) (mTup (mCons (mVar 3) (mCons (mVar 4) (mCons (mVar 5) mNil))))))))
theorem isnum_yes {O : Store} {v a c : Int} (h0 : a ≤ v) (h1 : v ≤ c) : f_is_number [.int v, .int a, .int c] O = .ok (.bl true) O := by
  simp [f_is_number, b_is_number, runF, sSeq, sIf, sNext, sDrop, sRet, sRetN, sAsg, ofRes, ofB, bName, bNil, bCons, bTup, bLst, bSubL, mTest, mOp, mVar, mC, mChain, mAnd, mOr, mNot, mIf, mAndV, mOrV, mNotV, mNeg, mCons, mNil, mTup, mLst, newL, mCall, mFn, arity, g1, g2, gLen, gInt, gAbs, gMax2, gMin2, gIx, seqOf, lsqOf, lstOf, Res.bind, ofO, gAdd_ok, gSub_ok, gEq_int, gNe_int, gLt_int, gLe_int, gGt_int, gGe_int, gEq_bl, gNe_bl, gEq_str, gNe_str, mIsi, mIsiT, tyD, kitL, kitTab, atI_c0, atI_c1, atI_c2, atI_c3, atI_c4, sForR1, int1, int2, mMeth, mMake, mFld, sFldM, gIs, gIsNot, isNon_t, sRaise, gList, newLO, h0, h1]
theorem tr1 {a : D} : List.lookup ("_rows" : Str) [(("_rows" : Str), a)] = some a := rfl
section
variable {h s l p v m : Nat} {w : Wd} {O : Store} {kvs : List (Key × D)} {M : Str → Option Int} {ns : List Str}
/-- the rows of one kind -/
theorem inner_ok {kd : Str} {xs : List Str} {acc : List D} {y4 y5 : Option D} (hm : O[m]? = some (.dct kvs)) (K : ∀ x ∈ xs, (valD kvs (.inr x)).getD .non = optI (M x)) (B : ∀ x i, M x = some i → 0 ≤ i ∧ i ≤ 10 ^ 12)
    (e : f_named [.hdl h, .str kd] (O ++ [tab1 O.length, .lst acc]) = .ok (.lst (xs.map .str)) (O ++ [tab1 O.length, .lst acc])) (hl : acc.length + xs.length ≤ 1000) :
    ∃ y4' y5', sForL (mFn (arity 2 f_named) [] (mCons (mVar 1) (mCons (mVar 3) mNil))) (bName 4) inB [some (.hdl O.length), some (.hdl h), some (.hdl m), some (.str kd), y4, y5] (O ++ [tab1 O.length, .lst acc])
      = .next [some (.hdl O.length), some (.hdl h), some (.hdl m), some (.str kd), y4', y5'] (O ++ [tab1 O.length, .lst (acc ++ (rowsK kd xs M).map rowD)]) := by
  have mlt := (List.getElem?_eq_some_iff.mp hm).1
  obtain ⟨L', O', e1, y4', y5', rfl, rfl⟩ := forL_keeps (m := mFn (arity 2 f_named) [] (mCons (mVar 1) (mCons (mVar 3) mNil))) (b := bName 4) (body := inB) (L := [some (.hdl O.length), some (.hdl h), some (.hdl m), some (.str kd), y4, y5]) (O := O ++ [tab1 O.length, .lst acc]) (O1 := O ++ [tab1 O.length, .lst acc]) (ds := xs.map .str)
    (I := fun i L O' => ∃ y4 y5 : Option D, L = [some (.hdl O.length), some (.hdl h), some (.hdl m), some (.str kd), y4, y5] ∧ O' = O ++ [tab1 O.length, .lst (acc ++ (rowsK kd (xs.take i) M).map rowD)])
    (by simp [runF, sSeq, sIf, sNext, sDrop, sRet, sRetN, sAsg, ofRes, ofB, bName, bNil, bCons, bTup, bLst, bSubL, mTest, mOp, mVar, mC, mChain, mAnd, mOr, mNot, mIf, mAndV, mOrV, mNotV, mNeg, mCons, mNil, mTup, mLst, newL, mCall, mFn, arity, g1, g2, gLen, gInt, gAbs, gMax2, gMin2, gIx, seqOf, lsqOf, lstOf, Res.bind, ofO, gAdd_ok, gSub_ok, gEq_int, gNe_int, gLt_int, gLe_int, gGt_int, gGe_int, gEq_bl, gNe_bl, gEq_str, gNe_str, mIsi, mIsiT, tyD, kitL, kitTab, atI_c0, atI_c1, atI_c2, atI_c3, atI_c4, sForR1, int1, int2, mMeth, mMake, mFld, sFldM, gIs, gIsNot, isNon_t, sRaise, gList, newLO, e]) ⟨y4, y5, rfl, by simp [rowsK]⟩ fun i d L O' hd ⟨y4, y5, hL, hO⟩ => by
      subst hL hO
      rw [List.getElem?_map] at hd
      obtain ⟨x, hx, rfl⟩ := Option.map_eq_some_iff.mp hd
      have hi := (List.getElem?_eq_some_iff.mp hx).1
      have kx := K x (List.mem_of_getElem? hx)
      have tk : (rowsK kd (xs.take (i + 1)) M).map rowD = (rowsK kd (xs.take i) M).map rowD ++ [rowD (kd, x, M x)] := by
        rw [take_snoc hx]
        unfold rowsK
        rw [List.map_append, List.map_append]
        rfl
      have al : (acc ++ (rowsK kd (xs.take i) M).map rowD).length ≤ 1000000 := by
        rw [List.length_append, List.length_map, rowsK_len, List.length_take]
        omega
      rw [tk, ← List.append_assoc]
      generalize acc ++ (rowsK kd (xs.take i) M).map rowD = zs at *
      have g1 : (O ++ [tab1 O.length, Ob.lst zs])[m]? = some (.dct kvs) := by rw [List.getElem?_append_left mlt]; exact hm
      have g2 : (O ++ [tab1 O.length, Ob.lst zs])[O.length]? = some (tab1 O.length) := by rw [List.getElem?_append_right (Nat.le_refl _)]; simp
      have g3 : (O ++ [tab1 O.length, Ob.lst zs])[O.length + 1]? = some (.lst zs) := by rw [List.getElem?_append_right (by omega)]; simp
      have st : (O ++ [tab1 O.length, Ob.lst zs]).set (O.length + 1) (.lst (zs ++ [rowD (kd, x, M x)])) = O ++ [tab1 O.length, .lst (zs ++ [rowD (kd, x, M x)])] := by
        rw [List.set_append_right _ _ (by omega), show O.length + 1 - O.length = 1 by omega]
        rfl
      have ea : mApp (mFld "Table" "_rows" (mVar 0)) (mTup (mCons (mVar 3) (mCons (mVar 4) (mCons (mVar 5) mNil)))) [some (.hdl O.length), some (.hdl h), some (.hdl m), some (.str kd), some (.str x), some (optI (M x))] (O ++ [tab1 O.length, Ob.lst zs]) = .ok .non (O ++ [tab1 O.length, .lst (zs ++ [rowD (kd, x, M x)])]) := by
        rw [← st]
        exact app_ok (O1 := O ++ [tab1 O.length, Ob.lst zs]) (O2 := O ++ [tab1 O.length, Ob.lst zs]) (xs0 := zs) (by simp [runF, sSeq, sIf, sNext, sDrop, sRet, sRetN, sAsg, ofRes, ofB, bName, bNil, bCons, bTup, bLst, bSubL, mTest, mOp, mVar, mC, mChain, mAnd, mOr, mNot, mIf, mAndV, mOrV, mNotV, mNeg, mCons, mNil, mTup, mLst, newL, mCall, mFn, arity, g1, g2, gLen, gInt, gAbs, gMax2, gMin2, gIx, seqOf, lsqOf, lstOf, Res.bind, ofO, gAdd_ok, gSub_ok, gEq_int, gNe_int, gLt_int, gLe_int, gGt_int, gGe_int, gEq_bl, gNe_bl, gEq_str, gNe_str, mIsi, mIsiT, tyD, kitL, kitTab, atI_c0, atI_c1, atI_c2, atI_c3, atI_c4, sForR1, int1, int2, mMeth, mMake, mFld, sFldM, gIs, gIsNot, isNon_t, sRaise, gList, newLO, g2, tr1]) g3 (by simp [runF, sSeq, sIf, sNext, sDrop, sRet, sRetN, sAsg, ofRes, ofB, bName, bNil, bCons, bTup, bLst, bSubL, mTest, mOp, mVar, mC, mChain, mAnd, mOr, mNot, mIf, mAndV, mOrV, mNotV, mNeg, mCons, mNil, mTup, mLst, newL, mCall, mFn, arity, g1, g2, gLen, gInt, gAbs, gMax2, gMin2, gIx, seqOf, lsqOf, lstOf, Res.bind, ofO, gAdd_ok, gSub_ok, gEq_int, gNe_int, gLt_int, gLe_int, gGt_int, gGe_int, gEq_bl, gNe_bl, gEq_str, gNe_str, mIsi, mIsiT, tyD, kitL, kitTab, atI_c0, atI_c1, atI_c2, atI_c3, atI_c4, sForR1, int1, int2, mMeth, mMake, mFld, sFldM, gIs, gIsNot, isNon_t, sRaise, gList, newLO]) g3 al
      refine ⟨[some (.hdl O.length), some (.hdl h), some (.hdl m), some (.str kd), some (.str x), some (optI (M x))], _, ?_, some (.str x), some (optI (M x)), rfl, rfl⟩
      generalize O ++ [tab1 O.length, .lst (zs ++ [rowD (kd, x, M x)])] = O2 at *
      generalize O ++ [tab1 O.length, Ob.lst zs] = O1 at *
      have pw : gPow O1 (.int 10) (.int 12) = some (.int 1000000000000, O1) := rfl
      simp only [turnOf, inB]
      generalize mApp (mFld "Table" "_rows" (mVar 0)) _ = aE at ea ⊢
      cases hM : M x with
      | none =>
        rw [hM] at kx ea
        simp only [optI] at kx ea
        simp [mDGet1, dctOf, keyD, isNon, runF, sSeq, sIf, sNext, sDrop, sRet, sRetN, sAsg, ofRes, ofB, bName, bNil, bCons, bTup, bLst, bSubL, mTest, mOp, mVar, mC, mChain, mAnd, mOr, mNot, mIf, mAndV, mOrV, mNotV, mNeg, mCons, mNil, mTup, mLst, newL, mCall, mFn, arity, g1, g2, gLen, gInt, gAbs, gMax2, gMin2, gIx, seqOf, lsqOf, lstOf, Res.bind, ofO, gAdd_ok, gSub_ok, gEq_int, gNe_int, gLt_int, gLe_int, gGt_int, gGe_int, gEq_bl, gNe_bl, gEq_str, gNe_str, mIsi, mIsiT, tyD, kitL, kitTab, atI_c0, atI_c1, atI_c2, atI_c3, atI_c4, sForR1, int1, int2, mMeth, mMake, mFld, sFldM, gIs, gIsNot, isNon_t, sRaise, gList, newLO, g1, kx, optI, ea]
      | some i =>
        rw [hM] at kx ea
        simp only [optI] at kx ea
        obtain ⟨b0, b1⟩ := B x i hM
        have nm := isnum_yes (O := O1) (v := i) (a := 0) (c := 1000000000000) b0 (by omega)
        simp [mDGet1, dctOf, keyD, isNon, runF, sSeq, sIf, sNext, sDrop, sRet, sRetN, sAsg, ofRes, ofB, bName, bNil, bCons, bTup, bLst, bSubL, mTest, mOp, mVar, mC, mChain, mAnd, mOr, mNot, mIf, mAndV, mOrV, mNotV, mNeg, mCons, mNil, mTup, mLst, newL, mCall, mFn, arity, g1, g2, gLen, gInt, gAbs, gMax2, gMin2, gIx, seqOf, lsqOf, lstOf, Res.bind, ofO, gAdd_ok, gSub_ok, gEq_int, gNe_int, gLt_int, gLe_int, gGt_int, gGe_int, gEq_bl, gNe_bl, gEq_str, gNe_str, mIsi, mIsiT, tyD, kitL, kitTab, atI_c0, atI_c1, atI_c2, atI_c3, atI_c4, sForR1, int1, int2, mMeth, mMake, mFld, sFldM, gIs, gIsNot, isNon_t, sRaise, gList, newLO, g1, kx, optI, pw, nm, ea]
  exact ⟨y4', y5', by rw [List.length_map, List.take_length] at e1; exact e1⟩
theorem nq1 : (("line" : Str) = "station") = False := eq_false (by decide)
theorem nq2 : (("plant" : Str) = "station") = False := eq_false (by decide)
theorem nq3 : (("plant" : Str) = "line") = False := eq_false (by decide)
theorem named_st (a : LandAt h s l p v w O) (k : Srt w) : f_named [.hdl h, .str "station"] O = .ok (.lst (w.st.map .str)) O := by
  have e := stations_ok a k
  simp [f_named, b_named, runF, sSeq, sIf, sNext, sDrop, sRet, sRetN, sAsg, ofRes, ofB, bName, bNil, bCons, bTup, bLst, bSubL, mTest, mOp, mVar, mC, mChain, mAnd, mOr, mNot, mIf, mAndV, mOrV, mNotV, mNeg, mCons, mNil, mTup, mLst, newL, mCall, mFn, arity, g1, g2, gLen, gInt, gAbs, gMax2, gMin2, gIx, seqOf, lsqOf, lstOf, Res.bind, ofO, gAdd_ok, gSub_ok, gEq_int, gNe_int, gLt_int, gLe_int, gGt_int, gGe_int, gEq_bl, gNe_bl, gEq_str, gNe_str, mIsi, mIsiT, tyD, kitL, kitTab, atI_c0, atI_c1, atI_c2, atI_c3, atI_c4, sForR1, int1, int2, mMeth, mMake, mFld, sFldM, gIs, gIsNot, isNon_t, sRaise, gList, newLO, a.eo, lk_stations, lk_lines, lk_plants, lk_names, lk_line, lk_plant, lk_is_self, lk_lines_at, lk_plants_at, lk_far_end, lk_rows, lk_there, lk_copy, lk_remove_station, lk_remove_line, lk_remove_plant, lk_add_station, lk_add_line, lk_add_self, lk_add_plant, lk_free, lk_room, lk_kind, e]
theorem named_ln (a : LandAt h s l p v w O) (k : Srt w) : f_named [.hdl h, .str "line"] O = .ok (.lst ((w.ls.map (·.n)).map .str)) O := by
  have e := lines_ok a k
  generalize (w.ls.map (·.n)).map D.str = z at *
  simp [nq1, nq2, nq3, f_named, b_named, runF, sSeq, sIf, sNext, sDrop, sRet, sRetN, sAsg, ofRes, ofB, bName, bNil, bCons, bTup, bLst, bSubL, mTest, mOp, mVar, mC, mChain, mAnd, mOr, mNot, mIf, mAndV, mOrV, mNotV, mNeg, mCons, mNil, mTup, mLst, newL, mCall, mFn, arity, g1, g2, gLen, gInt, gAbs, gMax2, gMin2, gIx, seqOf, lsqOf, lstOf, Res.bind, ofO, gAdd_ok, gSub_ok, gEq_int, gNe_int, gLt_int, gLe_int, gGt_int, gGe_int, gEq_bl, gNe_bl, gEq_str, gNe_str, mIsi, mIsiT, tyD, kitL, kitTab, atI_c0, atI_c1, atI_c2, atI_c3, atI_c4, sForR1, int1, int2, mMeth, mMake, mFld, sFldM, gIs, gIsNot, isNon_t, sRaise, gList, newLO, a.eo, lk_stations, lk_lines, lk_plants, lk_names, lk_line, lk_plant, lk_is_self, lk_lines_at, lk_plants_at, lk_far_end, lk_rows, lk_there, lk_copy, lk_remove_station, lk_remove_line, lk_remove_plant, lk_add_station, lk_add_line, lk_add_self, lk_add_plant, lk_free, lk_room, lk_kind, e]
theorem named_pl (a : LandAt h s l p v w O) (k : Srt w) : f_named [.hdl h, .str "plant"] O = .ok (.lst ((w.ps.map (·.n)).map .str)) O := by
  have e := plants_ok a k
  generalize (w.ps.map (·.n)).map D.str = z at *
  simp [nq1, nq2, nq3, f_named, b_named, runF, sSeq, sIf, sNext, sDrop, sRet, sRetN, sAsg, ofRes, ofB, bName, bNil, bCons, bTup, bLst, bSubL, mTest, mOp, mVar, mC, mChain, mAnd, mOr, mNot, mIf, mAndV, mOrV, mNotV, mNeg, mCons, mNil, mTup, mLst, newL, mCall, mFn, arity, g1, g2, gLen, gInt, gAbs, gMax2, gMin2, gIx, seqOf, lsqOf, lstOf, Res.bind, ofO, gAdd_ok, gSub_ok, gEq_int, gNe_int, gLt_int, gLe_int, gGt_int, gGe_int, gEq_bl, gNe_bl, gEq_str, gNe_str, mIsi, mIsiT, tyD, kitL, kitTab, atI_c0, atI_c1, atI_c2, atI_c3, atI_c4, sForR1, int1, int2, mMeth, mMake, mFld, sFldM, gIs, gIsNot, isNon_t, sRaise, gList, newLO, a.eo, lk_stations, lk_lines, lk_plants, lk_names, lk_line, lk_plant, lk_is_self, lk_lines_at, lk_plants_at, lk_far_end, lk_rows, lk_there, lk_copy, lk_remove_station, lk_remove_line, lk_remove_plant, lk_add_station, lk_add_line, lk_add_self, lk_add_plant, lk_free, lk_room, lk_kind, e]
/-- the names that a land does not know -/
def strange (w : Wd) (ks : List Str) : List Str := ks.filter fun x => decide (x ∉ nmsW w)
abbrev unkE : EM := mLcD false (mVar 2) [4] (bName 4) (mTest (mOp gIs (mMeth "Land" "kind" (arity 2 f_land_kind) [] (mVar 1) (mCons (mVar 4) mNil)) (mC .non))) (mVar 4)
theorem unk_ok {ks : List Str} {y0 y3 y4 y5 : Option D} (a : LandAt h s l p v w O) (hm : O[m]? = some (.dct kvs)) (hne : h < m ∧ s < m ∧ l < m ∧ p < m ∧ v < m) (hk : kvs.map (·.1) = ks.map Sum.inr) (hl : kvs.length ≤ 1000) :
    unkE [y0, some (.hdl h), some (.hdl m), y3, y4, y5] O = .ok (.lst ((strange w ks).map .str)) O := by
  obtain ⟨n1, n2, n3, n4, n5⟩ := hne
  have a1 : LandAt h s l p v w (O.set m (.fdc kvs)) := ⟨by rw [List.getElem?_set_ne (by omega)]; exact a.eo, by rw [List.getElem?_set_ne (by omega)]; exact a.es, by rw [List.getElem?_set_ne (by omega)]; exact a.el, by rw [List.getElem?_set_ne (by omega)]; exact a.ep, by rw [List.getElem?_set_ne (by omega)]; exact a.ev, a.lp, a.sv, a.pos⟩
  have hd1 : (O.set m (.fdc kvs))[m]? = some (.fdc kvs) := set_at hm
  have back : (O.set m (.fdc kvs)).set m (.dct kvs) = O := by
    rw [List.set_set]
    exact List.ext_getElem? fun i => by
      by_cases c : i = m
      · subst c
        rw [set_at hm, hm]
      · rw [List.getElem?_set_ne (fun z => c z.symm)]
  generalize hO1 : O.set m (.fdc kvs) = O1 at *
  have kl : ks.length = kvs.length := by rw [← List.length_map (f := Sum.inr (α := Int)) (as := ks), ← hk, List.length_map]
  have kd : (kvs.map fun kv => kD kv.1) = ks.map D.str := by
    have : (kvs.map fun kv => kD kv.1) = (kvs.map (·.1)).map kD := by rw [List.map_map]; rfl
    rw [this, hk, List.map_map]
    rfl
  have eg := lc_pureG (nx := fun i _ => some (ks.map D.str)[i]?) (turn := lcTurn [4] (bName 4) (mTest (mOp gIs (mMeth "Land" "kind" (arity 2 f_land_kind) [] (mVar 1) (mCons (mVar 4) mNil)) (mC .non))) (mVar 4) [y0, some (.hdl h), some (.hdl m), y3, y4, y5]) (ds := ks.map D.str) (O := O1)
    (f := fun d => match d with | .str x => if x ∉ nmsW w then some (.str x) else none | _ => none) (fun i => rfl) (fun d hd acc ha => by
    obtain ⟨x, hx, rfl⟩ := List.mem_map.mp hd
    have e := kind_ok (nm := x) a1
    by_cases c : x ∈ nmsW w
    · have c1 : isNon (kindD w x) = false := by
        have : kindD w x ≠ .non := fun z => kind_in.mp z c
        cases hkx : kindD w x <;> simp [isNon, hkx] at this ⊢
      simp [lcTurn, wipeL, runF, sSeq, sIf, sNext, sDrop, sRet, sRetN, sAsg, ofRes, ofB, bName, bNil, bCons, bTup, bLst, bSubL, mTest, mOp, mVar, mC, mChain, mAnd, mOr, mNot, mIf, mAndV, mOrV, mNotV, mNeg, mCons, mNil, mTup, mLst, newL, mCall, mFn, arity, g1, g2, gLen, gInt, gAbs, gMax2, gMin2, gIx, seqOf, lsqOf, lstOf, Res.bind, ofO, gAdd_ok, gSub_ok, gEq_int, gNe_int, gLt_int, gLe_int, gGt_int, gGe_int, gEq_bl, gNe_bl, gEq_str, gNe_str, mIsi, mIsiT, tyD, kitL, kitTab, atI_c0, atI_c1, atI_c2, atI_c3, atI_c4, sForR1, int1, int2, mMeth, mMake, mFld, sFldM, gIs, gIsNot, isNon_t, sRaise, gList, newLO, a1.eo, lk_stations, lk_lines, lk_plants, lk_names, lk_line, lk_plant, lk_is_self, lk_lines_at, lk_plants_at, lk_far_end, lk_rows, lk_there, lk_copy, lk_remove_station, lk_remove_line, lk_remove_plant, lk_add_station, lk_add_line, lk_add_self, lk_add_plant, lk_free, lk_room, lk_kind, e, c, c1]
    · have c1 : kindD w x = .non := kind_in.mpr c
      rw [c1] at e
      simp [lcTurn, wipeL, isNon, runF, sSeq, sIf, sNext, sDrop, sRet, sRetN, sAsg, ofRes, ofB, bName, bNil, bCons, bTup, bLst, bSubL, mTest, mOp, mVar, mC, mChain, mAnd, mOr, mNot, mIf, mAndV, mOrV, mNotV, mNeg, mCons, mNil, mTup, mLst, newL, mCall, mFn, arity, g1, g2, gLen, gInt, gAbs, gMax2, gMin2, gIx, seqOf, lsqOf, lstOf, Res.bind, ofO, gAdd_ok, gSub_ok, gEq_int, gNe_int, gLt_int, gLe_int, gGt_int, gGe_int, gEq_bl, gNe_bl, gEq_str, gNe_str, mIsi, mIsiT, tyD, kitL, kitTab, atI_c0, atI_c1, atI_c2, atI_c3, atI_c4, sForR1, int1, int2, mMeth, mMake, mFld, sFldM, gIs, gIsNot, isNon_t, sRaise, gList, newLO, a1.eo, lk_stations, lk_lines, lk_plants, lk_names, lk_line, lk_plant, lk_is_self, lk_lines_at, lk_plants_at, lk_far_end, lk_rows, lk_there, lk_copy, lk_remove_station, lk_remove_line, lk_remove_plant, lk_add_station, lk_add_line, lk_add_self, lk_add_plant, lk_free, lk_room, lk_kind, e, c, ha]) ks.length 0 [] (by simp) (by simpa using (by omega : ks.length ≤ 900000))
  have fm : ∀ xs : List Str, (xs.map D.str).filterMap (fun d => match d with | .str x => if x ∉ nmsW w then some (D.str x) else none | _ => none) = (strange w xs).map .str := fun xs => by
    induction xs with
    | nil => rfl
    | cons x xs ih =>
      unfold strange at ih ⊢
      rw [List.map_cons, List.filterMap_cons, List.filter_cons]
      by_cases c : x ∈ nmsW w
      · simp only [c, not_true_eq_false, if_false, decide_false, Bool.false_eq_true]
        exact ih
      · simp only [c, not_false_eq_true, if_true, decide_true]
        rw [ih]
        rfl
  rw [List.drop_zero, fm, List.nil_append] at eg
  have sl : (strange w ks).length ≤ ks.length := List.length_filter_le _ _
  have sl2 : ((strange w ks).map D.str).length ≤ 1000000 := by rw [List.length_map]; omega
  unfold unkE mLcD
  generalize lcTurn [4] _ _ _ _ = tn at eg ⊢
  generalize (strange w ks).map D.str = z at *
  rw [kl] at eg
  simp only [List.getElem?_map] at eg
  simp only [mVar]
  simp [hm, hO1, kd, eg, lcEnd, newL, unlockR, hd1, back, sl2]
end
end DK.W
end
section
set_option Elab.async false
set_option linter.all false
set_option autoImplicit false
set_option maxRecDepth 100000
set_option maxHeartbeats 4000000
/-! DKTbB: a table is made, in plain Lean. -/
namespace DK.W
open PySem L2 DK
abbrev minB : SM := (sDPutM (mFld "Table" "_minutes" (mVar 0)) (mVar 4) (mTup (mCons (mVar 3) (mCons (mVar 5) mNil))))
abbrev g3 : BM := (bTup 3 (bCons (bName 3) (bCons (bName 4) (bCons (bName 5) bNil))))
theorem tr2 {a b : D} : List.lookup ("_rows" : Str) [(("_rows" : Str), a), (("_minutes" : Str), b)] = some a := rfl
theorem tm2 {a b : D} : List.lookup ("_minutes" : Str) [(("_rows" : Str), a), (("_minutes" : Str), b)] = some b := rfl
section
variable {h s l p v m : Nat} {w : Wd} {O : Store} {kvs : List (Key × D)} {M : Str → Option Int} {ns : List Str}
theorem minl_ok {rs : List Row} {y1 y2 y3 y4 y5 : Option D} (nd : (rs.map (·.2.1)).Nodup) (hl : rs.length ≤ 1000) :
    ∃ y3' y4' y5', sForL (mFld "Table" "_rows" (mVar 0)) g3 minB [some (.hdl O.length), y1, y2, y3, y4, y5] (O ++ [tabO O.length, .lst (rs.map rowD), .dct []])
      = .next [some (.hdl O.length), y1, y2, y3', y4', y5'] (O ++ [tabO O.length, .lst (rs.map rowD), .dct (dicS (·.2.1) minD rs)]) := by
  have q1 : ∀ x : Ob, (O ++ [tabO O.length, .lst (rs.map rowD), x])[O.length]? = some (tabO O.length) := fun x => by rw [List.getElem?_append_right (Nat.le_refl _)]; simp
  have q2 : ∀ x : Ob, (O ++ [tabO O.length, .lst (rs.map rowD), x])[O.length + 1]? = some (.lst (rs.map rowD)) := fun x => by rw [List.getElem?_append_right (by omega)]; simp
  have q3 : ∀ x : Ob, (O ++ [tabO O.length, .lst (rs.map rowD), x])[O.length + 2]? = some x := fun x => by rw [List.getElem?_append_right (by omega)]; simp
  have q4 : ∀ x y : Ob, (O ++ [tabO O.length, .lst (rs.map rowD), x]).set (O.length + 2) y = O ++ [tabO O.length, .lst (rs.map rowD), y] := fun x y => by
    rw [List.set_append_right _ _ (by omega), show O.length + 2 - O.length = 2 by omega]
    rfl
  obtain ⟨L', O', e, y3', y4', y5', rfl, rfl⟩ := loopH_keeps (turn := turnOf g3 minB) (n := O.length + 1) (xs := rs.map rowD)
    (I := fun i L O' => ∃ y3 y4 y5 : Option D, L = [some (.hdl O.length), y1, y2, y3, y4, y5] ∧ O' = O ++ [tabO O.length, .lst (rs.map rowD), .dct (dicS (·.2.1) minD (rs.take i))])
    (fun j L O' ⟨_, _, _, _, hO⟩ => by rw [hO]; exact q2 _) (rs.map rowD).length 0 [some (.hdl O.length), y1, y2, y3, y4, y5] (O ++ [tabO O.length, .lst (rs.map rowD), .dct []]) (by omega) ⟨y3, y4, y5, rfl, rfl⟩ fun j d L O' hd ⟨y3, y4, y5, hL, hO⟩ => by
      subst hL hO
      rw [List.getElem?_map] at hd
      obtain ⟨r, hr, rfl⟩ := Option.map_eq_some_iff.mp hd
      have tk := take_get hr
      have hno : r.2.1 ∉ (rs.take j).map (·.2.1) := fun z => by
        have hs : rs.take (j + 1) <+: rs := List.take_prefix _ _
        have nd2 : ((rs.take (j + 1)).map (·.2.1)).Nodup := nd.sublist (hs.sublist.map _)
        rw [tk, List.map_append, List.nodup_append] at nd2
        exact nd2.2.2 _ z _ (by simp) rfl
      have pt := put_dicS (n := fun r : Row => r.2.1) (g := minD) (x := r) (xs := rs.take j) hno
      rw [← tk] at pt
      have dl : (dicS (fun r : Row => r.2.1) minD (rs.take j)).length ≤ 1000000 := by simp; omega
      refine ⟨[some (.hdl O.length), y1, y2, some (.str r.1), some (.str r.2.1), some (optI r.2.2)], _, ?_, some (.str r.1), some (.str r.2.1), some (optI r.2.2), rfl, rfl⟩
      generalize dicS (fun r : Row => r.2.1) minD (rs.take j) = dx at *
      generalize dicS (fun r : Row => r.2.1) minD (rs.take (j + 1)) = dy at *
      have r1 := q1 (.dct dx)
      have r3 := q3 (.dct dx)
      have r4 := q4 (.dct dx) (.dct dy)
      generalize O ++ [tabO O.length, .lst (rs.map rowD), .dct dx] = O1 at *
      simp [turnOf, sDPutM, dctOf, keyD, hdlN, runF, sSeq, sIf, sNext, sDrop, sRet, sRetN, sAsg, ofRes, ofB, bName, bNil, bCons, bTup, bLst, bSubL, mTest, mOp, mVar, mC, mChain, mAnd, mOr, mNot, mIf, mAndV, mOrV, mNotV, mNeg, mCons, mNil, mTup, mLst, newL, mCall, mFn, arity, g1, g2, gLen, gInt, gAbs, gMax2, gMin2, gIx, seqOf, lsqOf, lstOf, Res.bind, ofO, gAdd_ok, gSub_ok, gEq_int, gNe_int, gLt_int, gLe_int, gGt_int, gGe_int, gEq_bl, gNe_bl, gEq_str, gNe_str, mIsi, mIsiT, tyD, kitL, kitTab, atI_c0, atI_c1, atI_c2, atI_c3, atI_c4, sForR1, int1, int2, mMeth, mMake, mFld, sFldM, gIs, gIsNot, isNon_t, sRaise, gList, newLO, r1, r3, tm2, dl, pt, r4]
  refine ⟨y3', y4', y5', ?_⟩
  rw [List.length_map, List.take_length] at e
  have e0 : mFld "Table" "_rows" (mVar 0) [some (.hdl O.length), y1, y2, y3, y4, y5] (O ++ [tabO O.length, .lst (rs.map rowD), .dct []]) = .ok (.hdl (O.length + 1)) (O ++ [tabO O.length, .lst (rs.map rowD), .dct []]) := by
    have r1 := q1 (.dct [])
    generalize O ++ [tabO O.length, .lst (rs.map rowD), .dct []] = O1 at *
    simp [runF, sSeq, sIf, sNext, sDrop, sRet, sRetN, sAsg, ofRes, ofB, bName, bNil, bCons, bTup, bLst, bSubL, mTest, mOp, mVar, mC, mChain, mAnd, mOr, mNot, mIf, mAndV, mOrV, mNotV, mNeg, mCons, mNil, mTup, mLst, newL, mCall, mFn, arity, g1, g2, gLen, gInt, gAbs, gMax2, gMin2, gIx, seqOf, lsqOf, lstOf, Res.bind, ofO, gAdd_ok, gSub_ok, gEq_int, gNe_int, gLt_int, gLe_int, gGt_int, gGe_int, gEq_bl, gNe_bl, gEq_str, gNe_str, mIsi, mIsiT, tyD, kitL, kitTab, atI_c0, atI_c1, atI_c2, atI_c3, atI_c4, sForR1, int1, int2, mMeth, mMake, mFld, sFldM, gIs, gIsNot, isNon_t, sRaise, gList, newLO, r1, tr2]
  show ofRes _ (mFld "Table" "_rows" (mVar 0) _ _) (fun d O1 => match d with
    | .lst ds => loopD (turnOf g3 minB) ds _ O1
    | .rol ds => loopD (turnOf g3 minB) ds _ O1
    | .hdl n => (match O1[n]? with
      | some (.lst xs) => loopH (turnOf g3 minB) n xs.length 0 _ O1
      | _ => .bad)
    | _ => .bad) = _
  rw [e0]
  show (match (O ++ [tabO O.length, .lst (rs.map rowD), .dct []])[O.length + 1]? with
      | some (.lst xs) => loopH (turnOf g3 minB) (O.length + 1) xs.length 0 _ _
      | _ => .bad) = _
  rw [q2]
  show loopH (turnOf g3 minB) (O.length + 1) (rs.map rowD).length 0 _ _ = _
  rw [List.length_map]
  exact e
abbrev kindsT : EM := mC (.tup [.str "station", .str "line", .str "plant"])
abbrev kB : SM := (sForL (mFn (arity 2 f_named) [] (mCons (mVar 1) (mCons (mVar 3) mNil))) (bName 4) inB)
/-- all the rows -/
theorem rows_loop (a : LandAt h s l p v w O) (k : WOK w) (hm : O[m]? = some (.dct kvs)) (K : ∀ x ∈ nmsW w, (valD kvs (.inr x)).getD .non = optI (M x)) (B : ∀ x i, M x = some i → 0 ≤ i ∧ i ≤ 10 ^ 12) :
    ∃ y3 y4 y5, sForT kindsT (bName 3) kB [some (.hdl O.length), some (.hdl h), some (.hdl m), none, none, none] (O ++ [tab1 O.length, .lst []]) = .next [some (.hdl O.length), some (.hdl h), some (.hdl m), y3, y4, y5] (O ++ [tab1 O.length, .lst ((rowsW w M).map rowD)]) := by
  have kk := k.srt
  have nl := nmsW_len k
  have nl' : (w.st.length + (w.ls.map (·.n)).length) + (w.ps.map (·.n)).length ≤ 27 := by
    unfold nmsW at nl
    rw [List.length_append, List.length_append] at nl
    exact nl
  have K1 : ∀ x ∈ w.st, (valD kvs (.inr x)).getD .non = optI (M x) := fun x hx => K x (List.mem_append_left _ (List.mem_append_left _ hx))
  have K2 : ∀ x ∈ w.ls.map (·.n), (valD kvs (.inr x)).getD .non = optI (M x) := fun x hx => K x (List.mem_append_left _ (List.mem_append_right _ hx))
  have K3 : ∀ x ∈ w.ps.map (·.n), (valD kvs (.inr x)).getD .non = optI (M x) := fun x hx => K x (List.mem_append_right _ hx)
  obtain ⟨y4, y5, e1⟩ := inner_ok (acc := []) (y4 := none) (y5 := none) hm K1 B (named_st (a.fr fr_app) kk) (by simp; omega)
  obtain ⟨z4, z5, e2⟩ := inner_ok (acc := [] ++ (rowsK "station" w.st M).map rowD) (y4 := y4) (y5 := y5) hm K2 B (named_ln (a.fr fr_app) kk) (by rw [List.nil_append, List.length_map, rowsK_len]; omega)
  obtain ⟨u4, u5, e3⟩ := inner_ok (acc := ([] ++ (rowsK "station" w.st M).map rowD) ++ (rowsK "line" (w.ls.map (·.n)) M).map rowD) (y4 := z4) (y5 := z5) hm K3 B (named_pl (a.fr fr_app) kk) (by rw [List.nil_append, List.length_append, List.length_map, List.length_map, rowsK_len, rowsK_len]; omega)
  have er : (([] ++ (rowsK "station" w.st M).map rowD) ++ (rowsK "line" (w.ls.map (·.n)) M).map rowD) ++ (rowsK "plant" (w.ps.map (·.n)) M).map rowD = (rowsW w M).map rowD := by
    unfold rowsW
    rw [List.nil_append, List.map_append, List.map_append]
  rw [er] at e3
  refine ⟨some (.str "plant"), u4, u5, ?_⟩
  simp only [kB]
  generalize sForL _ (bName 4) inB = sI at e1 e2 e3 ⊢
  generalize (rowsW w M).map rowD = zs at *
  generalize [] ++ (rowsK "station" w.st M).map rowD ++ (rowsK "line" (w.ls.map (·.n)) M).map rowD = zb at *
  generalize [] ++ (rowsK "station" w.st M).map rowD = za at *
  simp [sForT, loopD, turnOf, runF, sSeq, sIf, sNext, sDrop, sRet, sRetN, sAsg, ofRes, ofB, bName, bNil, bCons, bTup, bLst, bSubL, mTest, mOp, mVar, mC, mChain, mAnd, mOr, mNot, mIf, mAndV, mOrV, mNotV, mNeg, mCons, mNil, mTup, mLst, newL, mCall, mFn, arity, g1, g2, gLen, gInt, gAbs, gMax2, gMin2, gIx, seqOf, lsqOf, lstOf, Res.bind, ofO, gAdd_ok, gSub_ok, gEq_int, gNe_int, gLt_int, gLe_int, gGt_int, gGe_int, gEq_bl, gNe_bl, gEq_str, gNe_str, mIsi, mIsiT, tyD, kitL, kitTab, atI_c0, atI_c1, atI_c2, atI_c3, atI_c4, sForR1, int1, int2, mMeth, mMake, mFld, sFldM, gIs, gIsNot, isNon_t, sRaise, gList, newLO, e1, e2, e3]
theorem tinit_ok (a : LandAt h s l p v w O) (k : WOK w) (hm : O[m]? = some (.dct kvs)) (K : Mins kvs M (nmsW w)) (lt : h < m ∧ s < m ∧ l < m ∧ p < m ∧ v < m) :
    f_table_init [.hdl O.length, .hdl h, .hdl m] (O ++ [.ins "Table" []]) = .ok .non (O ++ [tabO O.length, .lst ((rowsW w M).map rowD), .dct (dicS (·.2.1) minD (rowsW w M))]) := by
  obtain ⟨y3, y4, y5, e1⟩ := rows_loop a k hm (fun x _ => K.v x) K.b
  obtain ⟨ks, hk, hks⟩ := K.k
  have mlt := (List.getElem?_eq_some_iff.mp hm).1
  have hm2 : (O ++ [tab1 O.length, .lst ((rowsW w M).map rowD)])[m]? = some (.dct kvs) := by rw [List.getElem?_append_left mlt]; exact hm
  have e2 := unk_ok (y0 := some (.hdl O.length)) (y3 := y3) (y4 := y4) (y5 := y5) (a.fr (fr_app (J := [tab1 O.length, .lst ((rowsW w M).map rowD)]))) hm2 lt hk K.l
  have st : strange w ks = [] := List.filter_eq_nil_iff.mpr fun x hx => by
    rw [decide_eq_false (fun z => z (hks x hx))]
    exact Bool.false_ne_true
  rw [st] at e2
  have nd : ((rowsW w M).map (·.2.1)).Nodup := by rw [rowsW_nm]; exact nmsW_nd k
  have rl : (rowsW w M).length ≤ 1000 := by
    have := nmsW_len k
    rw [rowsW_len]
    omega
  obtain ⟨z3, z4, z5, e3⟩ := minl_ok (O := O) (y1 := some (.hdl h)) (y2 := some (.hdl m)) (y3 := y3) (y4 := y4) (y5 := y5) nd rl
  have p1 : ∀ d : D, putD "_rows" d [] = [(("_rows" : Str), d)] := fun _ => rfl
  have p2 : ∀ d a : D, putD "_minutes" d [(("_rows" : Str), a)] = [(("_rows" : Str), a), (("_minutes" : Str), d)] := fun _ _ => rfl
  simp only [f_table_init, b_table_init]
  simp only [kindsT, kB] at e1
  simp only [unkE] at e2
  generalize sForT _ (bName 3) _ = sT at e1 ⊢
  generalize mLcD false _ [4] (bName 4) _ (mVar 4) = sU at e2 ⊢
  generalize sForL (mFld "Table" "_rows" (mVar 0)) _ _ = sM at e3 ⊢
  generalize (rowsW w M).map rowD = zs at *
  generalize dicS (fun r : Row => r.2.1) minD (rowsW w M) = zd at *
  simp only [List.map_nil] at e2
  simp [mDNew, runF, sSeq, sIf, sNext, sDrop, sRet, sRetN, sAsg, ofRes, ofB, bName, bNil, bCons, bTup, bLst, bSubL, mTest, mOp, mVar, mC, mChain, mAnd, mOr, mNot, mIf, mAndV, mOrV, mNotV, mNeg, mCons, mNil, mTup, mLst, newL, mCall, mFn, arity, g1, g2, gLen, gInt, gAbs, gMax2, gMin2, gIx, seqOf, lsqOf, lstOf, Res.bind, ofO, gAdd_ok, gSub_ok, gEq_int, gNe_int, gLt_int, gLe_int, gGt_int, gGe_int, gEq_bl, gNe_bl, gEq_str, gNe_str, mIsi, mIsiT, tyD, kitL, kitTab, atI_c0, atI_c1, atI_c2, atI_c3, atI_c4, sForR1, int1, int2, mMeth, mMake, mFld, sFldM, gIs, gIsNot, isNon_t, sRaise, gList, newLO, p1, p2, e1, e2, e3]
/-! ### refused -/
end
end DK.W
end
section
set_option Elab.async false
set_option linter.all false
set_option autoImplicit false
set_option maxRecDepth 100000
set_option maxHeartbeats 4000000
/-! DKTbC: what a table tells, in plain Lean. -/
namespace DK.W
open PySem L2 DK
structure TabAt (n : Nat) (rs : List Row) (O : Store) : Prop where
  eo : O[n]? = some (tabO n)
  er : O[n + 1]? = some (.lst (rs.map rowD))
  em : O[n + 2]? = some (.dct (dicS (·.2.1) minD rs))
theorem TabAt.fz {n : Nat} {rs : List Row} {O O' : Store} (t : TabAt n rs O) (f : Fz O O') : TabAt n rs O' := ⟨f.at t.eo, f.at t.er, f.at t.em⟩
theorem TabAt.fr {n : Nat} {rs : List Row} {O O' : Store} (t : TabAt n rs O) (f : Fr O O') (h : 0 < n) : TabAt n rs O' := ⟨f.at h t.eo, f.at (by omega) t.er, f.at (by omega) t.em⟩
abbrev KINDS : List Str := ["station", "line", "plant"]
structure RowsOK (rs : List Row) : Prop where
  nd : (rs.map (·.2.1)).Nodup
  l : rs.length ≤ 27
  k : ∀ r ∈ rs, r.1 ∈ KINDS
  n : ∀ r ∈ rs, r.2.1 ∈ NAMES
  b : ∀ r ∈ rs, ∀ i, r.2.2 = some i → 0 ≤ i ∧ i ≤ 10 ^ 12
theorem rows_okW {w : Wd} {M : Str → Option Int} (k : WOK w) (B : ∀ x i, M x = some i → 0 ≤ i ∧ i ≤ 10 ^ 12) : RowsOK (rowsW w M) := by
  refine ⟨by rw [rowsW_nm]; exact nmsW_nd k, by rw [rowsW_len]; exact nmsW_len k, fun r hr => ?_, fun r hr => ?_, fun r hr i hi => ?_⟩
  · unfold rowsW rowsK at hr
    rcases List.mem_append.mp hr with h | h
    · rcases List.mem_append.mp h with h | h <;> obtain ⟨x, _, rfl⟩ := List.mem_map.mp h <;> simp
    · obtain ⟨x, _, rfl⟩ := List.mem_map.mp h
      simp
  · have : r.2.1 ∈ nmsW w := by rw [← rowsW_nm (M := M)]; exact List.mem_map.mpr ⟨r, hr, rfl⟩
    unfold nmsW at this
    rcases List.mem_append.mp this with h | h
    · rcases List.mem_append.mp h with h | h
      · exact k.snm h
      · obtain ⟨x, hx, e⟩ := List.mem_map.mp h
        rw [← e]
        exact k.lnm hx
    · obtain ⟨x, hx, e⟩ := List.mem_map.mp h
      rw [← e]
      exact k.pnm hx
  · rw [rowsW_M hr] at hi
    exact B _ _ hi
/-! ### comprehensions over rows -/
section
variable {n : Nat} {rs : List Row} {O : Store} {x : Str}
theorem rows_ok (t : TabAt n rs O) (k : RowsOK rs) : f_table_rows [.hdl n] O = .ok (.hdl O.length) (O ++ [.lst (rs.map rowD)]) := by
  have l := k.l
  have hl : (rs.map rowD).length ≤ 1000000 := by rw [List.length_map]; omega
  have er := t.er
  generalize rs.map rowD = z at *
  simp [f_table_rows, b_table_rows, runF, sSeq, sIf, sNext, sDrop, sRet, sRetN, sAsg, ofRes, ofB, bName, bNil, bCons, bTup, bLst, bSubL, mTest, mOp, mVar, mC, mChain, mAnd, mOr, mNot, mIf, mAndV, mOrV, mNotV, mNeg, mCons, mNil, mTup, mLst, newL, mCall, mFn, arity, g1, g2, gLen, gInt, gAbs, gMax2, gMin2, gIx, seqOf, lsqOf, lstOf, Res.bind, ofO, gAdd_ok, gSub_ok, gEq_int, gNe_int, gLt_int, gLe_int, gGt_int, gGe_int, gEq_bl, gNe_bl, gEq_str, gNe_str, mIsi, mIsiT, tyD, kitL, kitTab, atI_c0, atI_c1, atI_c2, atI_c3, atI_c4, sForR1, int1, int2, mMeth, mMake, mFld, sFldM, gIs, gIsNot, isNon_t, sRaise, gList, newLO, t.eo, tr2, er, hl]
theorem tminute_ok (t : TabAt n rs O) (k : RowsOK rs) {r : Row} (hr : r ∈ rs) : f_table_minute [.hdl n, .str r.2.1] O = .ok (optI r.2.2) O := by
  have v := val_nm (g := minD) k.nd hr
  have em := t.em
  generalize dicS (fun r : Row => r.2.1) minD rs = z at *
  simp [f_table_minute, b_table_minute, mDIn, mDGet, dctOf, keyD, runF, sSeq, sIf, sNext, sDrop, sRet, sRetN, sAsg, ofRes, ofB, bName, bNil, bCons, bTup, bLst, bSubL, mTest, mOp, mVar, mC, mChain, mAnd, mOr, mNot, mIf, mAndV, mOrV, mNotV, mNeg, mCons, mNil, mTup, mLst, newL, mCall, mFn, arity, g1, g2, gLen, gInt, gAbs, gMax2, gMin2, gIx, seqOf, lsqOf, lstOf, Res.bind, ofO, gAdd_ok, gSub_ok, gEq_int, gNe_int, gLt_int, gLe_int, gGt_int, gGe_int, gEq_bl, gNe_bl, gEq_str, gNe_str, mIsi, mIsiT, tyD, kitL, kitTab, atI_c0, atI_c1, atI_c2, atI_c3, atI_c4, sForR1, int1, int2, mMeth, mMake, mFld, sFldM, gIs, gIsNot, isNon_t, sRaise, gList, newLO, t.eo, tm2, em, v]
end
end DK.W
end
section
set_option Elab.async false
set_option linter.all false
set_option autoImplicit false
set_option maxRecDepth 100000
set_option maxHeartbeats 4000000
/-! K48F: the stations and what is drawn for them, in plain Lean. -/
namespace DK.k48
open PySem L2 DK DK.Sp DK.Rd DK.Lc DK.Ln
open DK.W (LandAt Wd WOK landO nmsW kindD NAMES STN DKv setT Mins TabAt rowsW rowD optI dicS)
theorem z_add : f_land_add_station = W.f_land_add_station := rfl
theorem z_linit : f_land_init = W.f_land_init := rfl
theorem z_tinit : f_table_init = W.f_table_init := rfl
theorem z_tmin : f_table_minute = W.f_table_minute := rfl
abbrev WS (S : List Str) : Wd := ⟨S, [], []⟩
theorem wsk {S : List Str} (h : S.Sublist STN) : WOK (WS S) := ⟨h, by simp, by simp, by simp, by simp, fun l hl => absurd hl List.not_mem_nil, fun p hp => absurd hp List.not_mem_nil, by simp⟩
theorem nms_ws (S : List Str) : nmsW (WS S) = S := by simp [nmsW]
theorem take_at0 {b : Nat} {O O' : Store} (h : Take b 0 O) (e : O'[0]? = O[0]?) : Take b 0 O' := by
  obtain ⟨ns, z, la, h, r⟩ := h
  exact ⟨ns, z, la, e.trans h, r⟩
section
variable {O : Store} {b : Nat} {S : List Str} {c : D}
abbrev stA : SM := (sDrop (mMeth "Land" "add_station" (arity 2 f_land_add_station) [] (mVar 3) (mCons (mVar 5) mNil)))
abbrev stB : SM := (sIf (mTest (mOp gGt (mFn (arity 2 f_law_take) [] (mCons (mVar 1) (mCons (mC (.int 4)) mNil))) (mC (.int 0)))) (sDPutM (mVar 4) (mVar 5) (mOp gIx (mLst false (mCons (mC (.int 0)) (mCons (mC (.int 9)) (mCons (mC (.int 10)) (mCons (mC (.int 1000000)) (mCons (mFn (arity 2 f_law_take) [] (mCons (mVar 1) (mCons (mC (.int 5000)) mNil))) mNil)))))) (mFn (arity 2 f_law_take) [] (mCons (mVar 1) (mCons (mC (.int 5)) mNil))))) sNext)
abbrev stT : SM := sSeq stA stB
theorem pickM {u v : Int} (h0 : 0 ≤ v) (h1 : v < 5) (u0 : 0 ≤ u) (u1 : u < 5000) : ∃ k : Int, (∀ O : Store, gIx O (.lst [.int 0, .int 9, .int 10, .int 1000000, .int u]) (.int v) = some (.int k, O)) ∧ 0 ≤ k ∧ k ≤ 1000000 := by
  rcases (by omega : v = 0 ∨ v = 1 ∨ v = 2 ∨ v = 3 ∨ v = 4) with rfl | rfl | rfl | rfl | rfl
  · exact ⟨0, fun _ => rfl, by omega, by omega⟩
  · exact ⟨9, fun _ => rfl, by omega, by omega⟩
  · exact ⟨10, fun _ => rfl, by omega, by omega⟩
  · exact ⟨1000000, fun _ => rfl, by omega, by omega⟩
  · exact ⟨u, fun _ => rfl, by omega, by omega⟩
structure SI (b : Nat) (c : D) (S : List Str) (j : Nat) (L : Loc) (O : Store) : Prop where
  ex : ∃ s y5 τ kv, L = [some c, some (.hdl 0), some (.lst (S.map .str)), some (.hdl 1), some (.hdl 6), y5, none, none, none, none, none, none, none, none, none, none] ∧ LandAt 1 s 3 4 5 (WS (S.take j)) O ∧ (s = 2 ∨ 7 ≤ s) ∧ O[6]? = some (.dct kv) ∧ DKv τ kv ∧ (∀ x, (τ x).isSome = true → x ∈ S.take j) ∧ (∀ x v, τ x = some v → 0 ≤ v ∧ v ≤ 1000000) ∧ kv.length ≤ j
  ln : 7 ≤ O.length
  tk : Take (b + 4 * j) 0 O
theorem st_turn {j : Nat} {x : Str} {L : Loc} (hS : S.Sublist STN) (hb : b ≤ 1000) (hx : S[j]? = some x) (h : SI b c S j L O) : ∃ L' O', turnOf (bName 5) stT (.str x) L O = .next L' O' ∧ SI b c S (j + 1) L' O' := by
  have k := wsk hS
  have hl6 : S.length ≤ 6 := hS.length_le
  have hj := (List.getElem?_eq_some_iff.mp hx).1
  obtain ⟨⟨s, y5, τ, kv, rfl, a, hs, g6, dk, dm, bd, hkv⟩, ln, tk⟩ := h
  have hxm := List.mem_of_getElem? hx
  have nd : S.Nodup := by have := k.nd; simpa using this
  have hni : x ∉ S.take j := W.nodup_mid (B := S.drop (j + 1)) (by rw [← W.drop_get hx, List.take_append_drop]; exact nd)
  obtain ⟨q1, q2⟩ := W.add_station_ok (st' := S.take (j + 1)) a (k.snm hxm) (W.kind_non hni (by simp) (by simp)) (by show (S.take j).length < 60; rw [List.length_take]; omega) (by show sortS (S.take j ++ [x]) = _; exact W.sort_stn k.stp hx) (by rw [List.length_take]; omega)
  rw [← z_add] at q1
  have lk : List.lookup ("add_station" : Str) [(("_stations" : Str), D.hdl s), (("_lines" : Str), .hdl 3), (("_plants" : Str), .hdl 4), (("_selves" : Str), .hdl 5)] = none := rfl
  have q2 : LandAt 1 O.length 3 4 5 (WS (S.take (j + 1))) ((O ++ [Ob.lst ((S.take (j + 1)).map .str)]).set 1 (landO O.length 3 4 5)) := q2
  have g6' : ((O ++ [Ob.lst ((S.take (j + 1)).map .str)]).set 1 (landO O.length 3 4 5))[6]? = some (.dct kv) := by
    rw [List.getElem?_set_ne (by omega), List.getElem?_append_left (by omega)]
    exact g6
  have tk' : Take (b + 4 * j) 0 ((O ++ [Ob.lst ((S.take (j + 1)).map .str)]).set 1 (landO O.length 3 4 5)) := take_at0 tk (by rw [List.getElem?_set_ne (by omega), List.getElem?_append_left (by omega)])
  have sA : stA [some c, some (.hdl 0), some (.lst (S.map .str)), some (.hdl 1), some (.hdl 6), some (.str x), none, none, none, none, none, none, none, none, none, none] O = .next [some c, some (.hdl 0), some (.lst (S.map .str)), some (.hdl 1), some (.hdl 6), some (.str x), none, none, none, none, none, none, none, none, none, none] ((O ++ [Ob.lst ((S.take (j + 1)).map .str)]).set 1 (landO O.length 3 4 5)) := by
    have eo := a.eo
    generalize (O ++ [Ob.lst ((S.take (j + 1)).map .str)]).set 1 (landO O.length 3 4 5) = Q at *
    generalize S.map D.str = zs at *
    simp [runF, sSeq, sIf, sNext, sDrop, sRet, sRetN, sAsg, ofRes, ofB, bName, bNil, bCons, bTup, bLst, bSubL, mTest, mOp, mVar, mC, mChain, mAnd, mOr, mNot, mIf, mAndV, mOrV, mNotV, mNeg, mCons, mNil, mTup, mLst, newL, mCall, mFn, arity, g1, g2, gLen, gInt, gAbs, gMax2, gMin2, gIx, seqOf, lsqOf, lstOf, Res.bind, ofO, gAdd_ok, gSub_ok, gEq_int, gNe_int, gLt_int, gLe_int, gGt_int, gGe_int, gEq_bl, gNe_bl, gEq_str, gNe_str, mIsi, mIsiT, tyD, kitL, kitTab, atI_c0, atI_c1, atI_c2, atI_c3, atI_c4, sForR1, int1, int2, mMeth, mMake, mFld, sFldM, gIs, gIsNot, isNon_t, sRaise, gList, newLO, eo, lk, q1]
  have lnQ : O.length + 1 = ((O ++ [Ob.lst ((S.take (j + 1)).map .str)]).set 1 (landO O.length 3 4 5)).length := by rw [List.length_set, List.length_append]; rfl
  have ht : turnOf (bName 5) stT (.str x) [some c, some (.hdl 0), some (.lst (S.map .str)), some (.hdl 1), some (.hdl 6), y5, none, none, none, none, none, none, none, none, none, none] O = sSeq stA stB [some c, some (.hdl 0), some (.lst (S.map .str)), some (.hdl 1), some (.hdl 6), some (.str x), none, none, none, none, none, none, none, none, none, none] O := rfl
  rw [ht, show sSeq stA stB [some c, some (.hdl 0), some (.lst (S.map .str)), some (.hdl 1), some (.hdl 6), some (.str x), none, none, none, none, none, none, none, none, none, none] O = _ from seq_next sA]
  generalize (O ++ [Ob.lst ((S.take (j + 1)).map .str)]).set 1 (landO O.length 3 4 5) = Q at *
  obtain ⟨v, O1, e1, v0, v1, t1, f1, l1⟩ := tk1 (m := 4) tk' (by omega) (by omega) (by omega)
  rw [← y_take] at e1
  have q3 := q2.fr f1
  have g61 := f1.at (by omega) g6'
  have sub : ∀ y, y ∈ S.take j → y ∈ S.take (j + 1) := fun y hy => by
    rw [List.take_succ, hx]
    exact List.mem_append_left _ hy
  by_cases hv : 0 < v
  · obtain ⟨u, O2, e2, u0, u1, t2, f2, l2⟩ := tk1 (m := 5000) t1 (by omega) (by omega) (by omega)
    obtain ⟨p, O3, e3, p0, p1, t3, f3, l3⟩ := tk1 (m := 5) t2 (by omega) (by omega) (by omega)
    rw [← y_take] at e2 e3
    obtain ⟨m, hm, m0, m1⟩ := pickM p0 p1 u0 u1
    have hm := hm O3
    have q5 := (q3.fr f2).fr f3
    have g63 := f3.at (by omega) (f2.at (by omega) g61)
    have pl := W.put_len (kvs := kv) (k := .inr x) (d := .int m)
    have hkl : kv.length ≤ 1000000 := by omega
    refine ⟨_, O3.set 6 (.dct (putKD kv (.inr x) (.int m))), ?_, ⟨⟨O.length, some (.str x), setT τ x m, putKD kv (.inr x) (.int m), rfl, q5.fx (W.fx_set) ⟨by omega, by omega, by omega, by omega, by omega⟩, .inr ln, by rw [List.getElem?_set_self (List.getElem?_eq_some_iff.mp g63).1], dk.put, fun y hy => ?_, fun y w hy => ?_, by omega⟩, by rw [List.length_set, l3, l2, l1]; omega, take_at0 (tmono (by omega) t3) (by rw [List.getElem?_set_ne (by omega)])⟩⟩
    · have dc : dctOf O3 (.hdl 6) = some kv := by simp [dctOf, g63]
      clear dk bd dm q1 q2 q3 q5
      generalize hkv' : putKD kv (.inr x) (.int m) = kv' at *
      generalize S.map D.str = zs at *
      simp [sDPutM, hdlN, keyD, runF, sSeq, sIf, sNext, sDrop, sRet, sRetN, sAsg, ofRes, ofB, bName, bNil, bCons, bTup, bLst, bSubL, mTest, mOp, mVar, mC, mChain, mAnd, mOr, mNot, mIf, mAndV, mOrV, mNotV, mNeg, mCons, mNil, mTup, mLst, newL, mCall, mFn, arity, g1, g2, gLen, gInt, gAbs, gMax2, gMin2, seqOf, lsqOf, lstOf, Res.bind, ofO, gAdd_ok, gSub_ok, gEq_int, gNe_int, gLt_int, gLe_int, gGt_int, gGe_int, gEq_bl, gNe_bl, gEq_str, gNe_str, mIsi, mIsiT, tyD, kitL, kitTab, atI_c0, atI_c1, atI_c2, atI_c3, atI_c4, sForR1, int1, int2, mMeth, mMake, mFld, sFldM, gIs, gIsNot, isNon_t, sRaise, gList, newLO, e1, e2, e3, hv, hm, dc, hkl, hkv']
    · unfold setT at hy
      by_cases hyx : y = x
      · rw [hyx, List.take_succ, hx]
        simp
      · rw [if_neg hyx] at hy
        exact sub y (dm y hy)
    · unfold setT at hy
      by_cases hyx : y = x
      · rw [if_pos hyx] at hy
        cases hy
        exact ⟨m0, m1⟩
      · rw [if_neg hyx] at hy
        exact bd y w hy
  · refine ⟨_, O1, ?_, ⟨⟨O.length, some (.str x), τ, kv, rfl, q3, .inr ln, g61, dk, fun y hy => sub y (dm y hy), bd, by omega⟩, by rw [l1]; omega, tmono (by omega) t1⟩⟩
    have hv : ¬ 0 < v := hv
    generalize S.map D.str = zs at *
    simp [runF, sSeq, sIf, sNext, sDrop, sRet, sRetN, sAsg, ofRes, ofB, bName, bNil, bCons, bTup, bLst, bSubL, mTest, mOp, mVar, mC, mChain, mAnd, mOr, mNot, mIf, mAndV, mOrV, mNotV, mNeg, mCons, mNil, mTup, mLst, newL, mCall, mFn, arity, g1, g2, gLen, gInt, gAbs, gMax2, gMin2, gIx, seqOf, lsqOf, lstOf, Res.bind, ofO, gAdd_ok, gSub_ok, gEq_int, gNe_int, gLt_int, gLe_int, gGt_int, gGe_int, gEq_bl, gNe_bl, gEq_str, gNe_str, mIsi, mIsiT, tyD, kitL, kitTab, atI_c0, atI_c1, atI_c2, atI_c3, atI_c4, sForR1, int1, int2, mMeth, mMake, mFld, sFldM, gIs, gIsNot, isNon_t, sRaise, gList, newLO, e1, hv]
end
end DK.k48
end
section
set_option Elab.async false
set_option linter.all false
set_option autoImplicit false
set_option maxRecDepth 100000
set_option maxHeartbeats 4000000
/-! K48G: notices are made and published, in plain Lean. -/
namespace DK.k48
open PySem L2 DK DK.Sp DK.Rd DK.Lc DK.Ln
open DK.W (LandAt Wd WOK landO nmsW kindD NAMES STN DKv setT Mins TabAt rowsW rowD optI dicS)
section
variable {O : Store} {b nt q tb : Nat} {S : List Str} {c : D} {mn : Int} {R : List Nat} {τ : Str → Option Int}
theorem stn_name : ∀ x ∈ STN, nameB x = true := by decide +kernel
abbrev L16 (c : D) (S : List Str) (y5 : Option D) : Loc := [some c, some (.hdl 0), some (.lst (S.map .str)), some (.hdl 1), some (.hdl 6), y5, none, none, none, none, none, none, none, none, none, none]
theorem st_loop (hS : S.Sublist STN) (hb : b ≤ 1000) (a : LandAt 1 2 3 4 5 (WS []) O) (g6 : O[6]? = some (.dct [])) (ln : 7 ≤ O.length) (tk : Take b 0 O) :
    ∃ L' O', sForL (mVar 2) (bName 5) stT (L16 c S none) O = .next L' O' ∧ SI b c S S.length L' O' := by
  obtain ⟨L', O', e, h⟩ := forL_keeps (m := mVar 2) (b := bName 5) (body := stT) (I := SI b c S) (L := L16 c S none) (O := O) (O1 := O) (ds := S.map .str) rfl
    ⟨⟨2, none, fun _ => none, [], rfl, a, .inl rfl, g6, ⟨fun x => rfl, [], rfl, List.nodup_nil⟩, fun x hx => (by cases hx), fun x v hx => (by cases hx), Nat.zero_le _⟩, ln, tk⟩ fun i d L O hd h => by
      rw [List.getElem?_map] at hd
      obtain ⟨x, hx, rfl⟩ := Option.map_eq_some_iff.mp hd
      exact st_turn hS hb hx h
  rw [List.length_map] at h
  exact ⟨L', O', e, h⟩
/-! ### notices -/
abbrev ntO (zs : List D) (q : Nat) : Ob := .ins "Notices" [("_stations", .lst zs), ("_rows", .hdl q)]
abbrev rD (mn : Int) (k : Nat) : D := .tup [.int mn, .hdl k]
structure NotAt (nt q : Nat) (S : List Str) (mn : Int) (R : List Nat) (O : Store) : Prop where
  eo : O[nt]? = some (ntO (S.map .str) q)
  er : O[q]? = some (.lst (R.map (rD mn)))
theorem name_checked {x : Str} (h : nameB x = true) : f_checked_name [.str x] O = .ok (.str x) O := by
  have e := checked_name_ok (O := O) (w := x) (by have := (nameB_len h).2; omega)
  rw [← y_cname, h] at e
  exact e
theorem ninit_ok (hS : S.Sublist STN) (h0 : 0 < S.length) : f_notices_init [.hdl O.length, .lst (S.map .str)] (O ++ [.ins "Notices" []]) = .ok .non (O ++ [ntO (S.map .str) (O.length + 1), .lst []]) := by
  have k := wsk hS
  have hl6 : S.length ≤ 6 := hS.length_le
  have srt : sortS S = S := W.pw_sortS k.stp
  have e1 : gSorted false (O ++ [.ins "Notices" []]) (.lst (S.map .str)) = some (.lst (S.map .str), O ++ [.ins "Notices" []]) := by
    rw [W.sorted_strs (xs := S) rfl rfl h0 (by omega), srt]
    unfold newLO
    rw [if_pos (by rw [List.length_map]; omega)]
    rfl
  have p1 : ∀ d : D, putD "_stations" d [] = [(("_stations" : Str), d)] := fun _ => rfl
  have p2 : ∀ d a : D, putD "_rows" d [(("_stations" : Str), a)] = [(("_stations" : Str), a), (("_rows" : Str), d)] := fun _ _ => rfl
  have lks : ∀ a : D, List.lookup ("_stations" : Str) [(("_stations" : Str), a)] = some a := fun _ => rfl
  have ht : mFld "Notices" "_stations" (mVar 0) [some (.hdl O.length), some (.lst (S.map .str)), none] (O ++ [.ins "Notices" [("_stations", .lst (S.map .str))]]) = .ok (.lst (S.map .str)) (O ++ [.ins "Notices" [("_stations", .lst (S.map .str))]]) := by
    generalize S.map D.str = zs at *
    simp [runF, sSeq, sIf, sNext, sDrop, sRet, sRetN, sAsg, ofRes, ofB, bName, bNil, bCons, bTup, bLst, bSubL, mTest, mOp, mVar, mC, mChain, mAnd, mOr, mNot, mIf, mAndV, mOrV, mNotV, mNeg, mCons, mNil, mTup, mLst, newL, mCall, mFn, arity, g1, g2, gLen, gInt, gAbs, gMax2, gMin2, gIx, seqOf, lsqOf, lstOf, Res.bind, ofO, gAdd_ok, gSub_ok, gEq_int, gNe_int, gLt_int, gLe_int, gGt_int, gGe_int, gEq_bl, gNe_bl, gEq_str, gNe_str, mIsi, mIsiT, tyD, kitL, kitTab, atI_c0, atI_c1, atI_c2, atI_c3, atI_c4, sForR1, int1, int2, mMeth, mMake, mFld, sFldM, gIs, gIsNot, isNon_t, sRaise, gList, newLO, lks]
  obtain ⟨L', O', e2, y, hL, hO⟩ := forL_keeps (m := mFld "Notices" "_stations" (mVar 0)) (b := bName 2) (body := sDrop (mFn (arity 1 f_checked_name) [] (mCons (mVar 2) mNil))) (L := [some (.hdl O.length), some (.lst (S.map .str)), none]) (O := O ++ [.ins "Notices" [("_stations", .lst (S.map .str))]]) (O1 := O ++ [.ins "Notices" [("_stations", .lst (S.map .str))]]) (ds := S.map .str)
    (I := fun i L O' => ∃ y, L = [some (.hdl O.length), some (.lst (S.map .str)), y] ∧ O' = O ++ [.ins "Notices" [("_stations", .lst (S.map .str))]])
    ht ⟨none, rfl, rfl⟩ fun i d L O' hd ⟨y, hL, hO⟩ => by
      subst hL hO
      rw [List.getElem?_map] at hd
      obtain ⟨x, hx, rfl⟩ := Option.map_eq_some_iff.mp hd
      have e := name_checked (O := O ++ [.ins "Notices" [("_stations", .lst (S.map .str))]]) (stn_name x (hS.subset (List.mem_of_getElem? hx)))
      refine ⟨_, _, ?_, some (.str x), rfl, rfl⟩
      generalize S.map D.str = zs at *
      simp [turnOf, runF, sSeq, sIf, sNext, sDrop, sRet, sRetN, sAsg, ofRes, ofB, bName, bNil, bCons, bTup, bLst, bSubL, mTest, mOp, mVar, mC, mChain, mAnd, mOr, mNot, mIf, mAndV, mOrV, mNotV, mNeg, mCons, mNil, mTup, mLst, newL, mCall, mFn, arity, g1, g2, gLen, gInt, gAbs, gMax2, gMin2, gIx, seqOf, lsqOf, lstOf, Res.bind, ofO, gAdd_ok, gSub_ok, gEq_int, gNe_int, gLt_int, gLe_int, gGt_int, gGe_int, gEq_bl, gNe_bl, gEq_str, gNe_str, mIsi, mIsiT, tyD, kitL, kitTab, atI_c0, atI_c1, atI_c2, atI_c3, atI_c4, sForR1, int1, int2, mMeth, mMake, mFld, sFldM, gIs, gIsNot, isNon_t, sRaise, gList, newLO, e]
  subst hL hO
  show runF 3 b_notices_init [.hdl O.length, .lst (S.map .str)] _ = _
  unfold runF b_notices_init
  generalize sForL (mFld "Notices" "_stations" (mVar 0)) (bName 2) _ = sf at *
  generalize S.map D.str = zs at *
  simp [runF, sSeq, sIf, sNext, sDrop, sRet, sRetN, sAsg, ofRes, ofB, bName, bNil, bCons, bTup, bLst, bSubL, mTest, mOp, mVar, mC, mChain, mAnd, mOr, mNot, mIf, mAndV, mOrV, mNotV, mNeg, mCons, mNil, mTup, mLst, newL, mCall, mFn, arity, g1, g2, gLen, gInt, gAbs, gMax2, gMin2, gIx, seqOf, lsqOf, lstOf, Res.bind, ofO, gAdd_ok, gSub_ok, gEq_int, gNe_int, gLt_int, gLe_int, gGt_int, gGe_int, gEq_bl, gNe_bl, gEq_str, gNe_str, mIsi, mIsiT, tyD, kitL, kitTab, atI_c0, atI_c1, atI_c2, atI_c3, atI_c4, sForR1, int1, int2, mMeth, mMake, mFld, sFldM, gIs, gIsNot, isNon_t, sRaise, gList, newLO, e1, e2, p1, p2]
theorem chk_ok {v a : Int} (h0 : a ≤ v) (h1 : v ≤ 1000000) : f_checked_number [.int v, .int a, .int 1000000] O = .ok (.int v) O := by
  simp [f_checked_number, b_checked_number, f_is_number, b_is_number, runF, sSeq, sIf, sNext, sDrop, sRet, sRetN, sAsg, ofRes, ofB, bName, bNil, bCons, bTup, bLst, bSubL, mTest, mOp, mVar, mC, mChain, mAnd, mOr, mNot, mIf, mAndV, mOrV, mNotV, mNeg, mCons, mNil, mTup, mLst, newL, mCall, mFn, arity, g1, g2, gLen, gInt, gAbs, gMax2, gMin2, gIx, seqOf, lsqOf, lstOf, Res.bind, ofO, gAdd_ok, gSub_ok, gEq_int, gNe_int, gLt_int, gLe_int, gGt_int, gGe_int, gEq_bl, gNe_bl, gEq_str, gNe_str, mIsi, mIsiT, tyD, kitL, kitTab, atI_c0, atI_c1, atI_c2, atI_c3, atI_c4, sForR1, int1, int2, mMeth, mMake, mFld, sFldM, gIs, gIsNot, isNon_t, sRaise, gList, newLO, h0, h1]
abbrev tdD (τ : Str → Option Int) (S : List Str) : List (Key × D) := dicS (fun x : Str => x) (fun x => optI (τ x)) S
theorem publish_ok (hS : S.Sublist STN) (N : NotAt nt q S mn R O) (t : TabAt tb (rowsW (WS S) τ) O) (rk : W.RowsOK (rowsW (WS S) τ)) (m0 : 0 ≤ mn) (m1 : mn ≤ 1000000) (hR : R.length ≤ 100) :
    f_notices_publish [.hdl nt, .int mn, .hdl tb] O = .ok (.int (R.length : Int)) ((O ++ [Ob.dct (tdD τ S)]).set q (.lst ((R ++ [O.length]).map (rD mn)))) := by
  have k := wsk hS
  have hl6 : S.length ≤ 6 := hS.length_le
  have nd : S.Nodup := by have := k.nd; simpa using this
  have eo := N.eo
  have er := N.er
  have lns := (List.getElem?_eq_some_iff.mp eo).1
  have lnq := (List.getElem?_eq_some_iff.mp er).1
  have neq : nt ≠ q := fun z => by rw [z, er] at eo; cases eo
  have lks : ∀ a d : D, List.lookup ("_stations" : Str) [(("_stations" : Str), a), (("_rows" : Str), d)] = some a := fun _ _ => rfl
  have lkr : ∀ a d : D, List.lookup ("_rows" : Str) [(("_stations" : Str), a), (("_rows" : Str), d)] = some d := fun _ _ => rfl
  -- the least minute
  obtain ⟨le, hle, hle2⟩ : ∃ le : Int, (mIf (mTru (mFld "Notices" "_rows" (mVar 0))) (mOp gIx (mOp gIx (mFld "Notices" "_rows" (mVar 0)) (mNeg (mC (.int 1)))) (mC (.int 0))) (mC (.int 0))) [some (.hdl nt), some (.int mn), some (.hdl tb), none, none, none] O = .ok (.int le) O ∧ le ≤ mn := by
    rcases List.eq_nil_or_concat R with rfl | ⟨B, a, rfl⟩
    · refine ⟨0, ?_, m0⟩
      have er : O[q]? = some (.lst []) := er
      generalize S.map D.str = zs at *
      simp [mTru, truD, runF, sSeq, sIf, sNext, sDrop, sRet, sRetN, sAsg, ofRes, ofB, bName, bNil, bCons, bTup, bLst, bSubL, mTest, mOp, mVar, mC, mChain, mAnd, mOr, mNot, mIf, mAndV, mOrV, mNotV, mNeg, mCons, mNil, mTup, mLst, newL, mCall, mFn, arity, g1, g2, gLen, gInt, gAbs, gMax2, gMin2, gIx, seqOf, lsqOf, lstOf, Res.bind, ofO, gAdd_ok, gSub_ok, gEq_int, gNe_int, gLt_int, gLe_int, gGt_int, gGe_int, gEq_bl, gNe_bl, gEq_str, gNe_str, mIsi, mIsiT, tyD, kitL, kitTab, atI_c0, atI_c1, atI_c2, atI_c3, atI_c4, sForR1, int1, int2, mMeth, mMake, mFld, sFldM, gIs, gIsNot, isNon_t, sRaise, gList, newLO, eo, er, lkr]
    · refine ⟨mn, ?_, Int.le_refl _⟩
      rw [List.concat_eq_append, List.map_append] at er
      have er : O[q]? = some (.lst (B.map (rD mn) ++ [rD mn a])) := er
      have hne : (B.map (rD mn) ++ [rD mn a]).isEmpty = false := by simp
      have ix : gIx O (.hdl q) (.int (-1)) = some (rD mn a, O) := by
        show (match lsqOf O (.hdl q) with | some zs => (match atI zs (-1) with | some d => some (d, O) | none => none) | none => none) = _
        rw [lsq_h er]
        simp only [Rd.atI_snoc]
      have i0 : gIx O (rD mn a) (.int 0) = some (.int mn, O) := rfl
      generalize B.map (rD mn) ++ [rD mn a] = zr at *
      generalize rD mn a = d at *
      generalize S.map D.str = zs at *
      simp [mTru, truD, runF, sSeq, sIf, sNext, sDrop, sRet, sRetN, sAsg, ofRes, ofB, bName, bNil, bCons, bTup, bLst, bSubL, mTest, mOp, mVar, mC, mChain, mAnd, mOr, mNot, mIf, mAndV, mOrV, mNotV, mNeg, mCons, mNil, mTup, mLst, newL, mCall, mFn, arity, g1, g2, gLen, gInt, gAbs, gMax2, gMin2, seqOf, lsqOf, lstOf, Res.bind, ofO, gAdd_ok, gSub_ok, gEq_int, gNe_int, gLt_int, gLe_int, gGt_int, gGe_int, gEq_bl, gNe_bl, gEq_str, gNe_str, mIsi, mIsiT, tyD, kitL, kitTab, atI_c0, atI_c1, atI_c2, atI_c3, atI_c4, sForR1, int1, int2, mMeth, mMake, mFld, sFldM, gIs, gIsNot, isNon_t, sRaise, gList, newLO, eo, er, lkr, hne, ix, i0]
  have ck := chk_ok (O := O) hle2 m1
  -- the dict
  have ht : mFld "Notices" "_stations" (mVar 0) [some (.hdl nt), some (.int mn), some (.hdl tb), some (.int le), some (.hdl O.length), none] (O ++ [Ob.dct []]) = .ok (.lst (S.map .str)) (O ++ [Ob.dct []]) := by
    have eo' : (O ++ [Ob.dct []])[nt]? = some (ntO (S.map .str) q) := by rw [List.getElem?_append_left lns]; exact eo
    generalize O ++ [Ob.dct []] = Q at *
    generalize S.map D.str = zs at *
    simp [runF, sSeq, sIf, sNext, sDrop, sRet, sRetN, sAsg, ofRes, ofB, bName, bNil, bCons, bTup, bLst, bSubL, mTest, mOp, mVar, mC, mChain, mAnd, mOr, mNot, mIf, mAndV, mOrV, mNotV, mNeg, mCons, mNil, mTup, mLst, newL, mCall, mFn, arity, g1, g2, gLen, gInt, gAbs, gMax2, gMin2, gIx, seqOf, lsqOf, lstOf, Res.bind, ofO, gAdd_ok, gSub_ok, gEq_int, gNe_int, gLt_int, gLe_int, gGt_int, gGe_int, gEq_bl, gNe_bl, gEq_str, gNe_str, mIsi, mIsiT, tyD, kitL, kitTab, atI_c0, atI_c1, atI_c2, atI_c3, atI_c4, sForR1, int1, int2, mMeth, mMake, mFld, sFldM, gIs, gIsNot, isNon_t, sRaise, gList, newLO, eo', lks]
  obtain ⟨L', O', e2, y, hL, hO⟩ := forL_keeps (m := mFld "Notices" "_stations" (mVar 0)) (b := bName 5) (body := sDPutM (mVar 4) (mVar 5) (mMeth "Table" "minute" (arity 2 f_table_minute) [] (mVar 2) (mCons (mVar 5) mNil))) (L := [some (.hdl nt), some (.int mn), some (.hdl tb), some (.int le), some (.hdl O.length), none]) (O := O ++ [.dct []]) (O1 := O ++ [.dct []]) (ds := S.map .str)
    (I := fun i L O' => ∃ y, L = [some (.hdl nt), some (.int mn), some (.hdl tb), some (.int le), some (.hdl O.length), y] ∧ O' = O ++ [.dct (tdD τ (S.take i))])
    ht ⟨none, rfl, by rw [List.take_zero]; rfl⟩ fun i d L O' hd ⟨y, hL, hO⟩ => by
      subst hL hO
      rw [List.getElem?_map] at hd
      obtain ⟨x, hx, rfl⟩ := Option.map_eq_some_iff.mp hd
      have hxm := List.mem_of_getElem? hx
      have hni : x ∉ S.take i := W.nodup_mid (B := S.drop (i + 1)) (by rw [← W.drop_get hx, List.take_append_drop]; exact nd)
      have fz : Fz O (O ++ [.dct (tdD τ (S.take i))]) := fz_app
      have hr : (("station" : Str), x, τ x) ∈ rowsW (WS S) τ := by
        unfold rowsW W.rowsK
        exact List.mem_append_left _ (List.mem_append_left _ (List.mem_map.mpr ⟨x, hxm, rfl⟩))
      have tm := W.tminute_ok (t.fz fz) rk hr
      rw [← z_tmin] at tm
      have tm : f_table_minute [.hdl tb, .str x] (O ++ [.dct (tdD τ (S.take i))]) = .ok (optI (τ x)) (O ++ [.dct (tdD τ (S.take i))]) := tm
      have pt := W.put_dicS (n := fun x : Str => x) (g := fun x => optI (τ x)) (x := x) (xs := S.take i) (by simpa using hni)
      have tl : S.take (i + 1) = S.take i ++ [x] := by rw [List.take_succ, hx]; rfl
      have dc : dctOf (O ++ [.dct (tdD τ (S.take i))]) (.hdl O.length) = some (tdD τ (S.take i)) := by simp [dctOf]
      have dl : (tdD τ (S.take i)).length ≤ 1000000 := by
        have : (tdD τ (S.take i)).length = (S.take i).length := by simp [dicS]
        rw [this, List.length_take]; omega
      have tb1 := (t.fz fz).eo
      have lkm : List.lookup ("minute" : Str) [(("_rows" : Str), D.hdl (tb + 1)), (("_minutes" : Str), .hdl (tb + 2))] = none := rfl
      have st : (O ++ [Ob.dct (tdD τ (S.take i))]).set O.length (.dct (tdD τ (S.take (i + 1)))) = O ++ [.dct (tdD τ (S.take (i + 1)))] := set_last
      refine ⟨_, _, ?_, some (.str x), rfl, rfl⟩
      rw [tl] at st ⊢
      rw [show tdD τ (S.take i ++ [x]) = dicS (fun x : Str => x) (fun x => optI (τ x)) (S.take i ++ [x]) from rfl, ← pt] at st ⊢
      show turnOf _ _ _ _ _ = SR.next _ (O ++ [.dct (putKD (tdD τ (S.take i)) (.inr x) (optI (τ x)))])
      have st : (O ++ [Ob.dct (tdD τ (S.take i))]).set O.length (.dct (putKD (tdD τ (S.take i)) (.inr x) (optI (τ x)))) = O ++ [.dct (putKD (tdD τ (S.take i)) (.inr x) (optI (τ x)))] := st
      rw [← st]
      clear st pt
      generalize tdD τ (S.take i) = kd at *
      generalize O ++ [Ob.dct kd] = Q at *
      generalize optI (τ x) = ox at *
      simp [turnOf, sDPutM, hdlN, keyD, runF, sSeq, sIf, sNext, sDrop, sRet, sRetN, sAsg, ofRes, ofB, bName, bNil, bCons, bTup, bLst, bSubL, mTest, mOp, mVar, mC, mChain, mAnd, mOr, mNot, mIf, mAndV, mOrV, mNotV, mNeg, mCons, mNil, mTup, mLst, newL, mCall, mFn, arity, g1, g2, gLen, gInt, gAbs, gMax2, gMin2, seqOf, lsqOf, lstOf, Res.bind, ofO, gAdd_ok, gSub_ok, gEq_int, gNe_int, gLt_int, gLe_int, gGt_int, gGe_int, gEq_bl, gNe_bl, gEq_str, gNe_str, mIsi, mIsiT, tyD, kitL, kitTab, atI_c0, atI_c1, atI_c2, atI_c3, atI_c4, sForR1, int1, int2, mMeth, mMake, mFld, sFldM, gIs, gIsNot, isNon_t, sRaise, gList, newLO, tb1, lkm, tm, dc, dl]
  subst hL hO
  rw [List.length_map, List.take_length] at e2
  have eo' : (O ++ [Ob.dct (tdD τ S)])[nt]? = some (ntO (S.map .str) q) := by rw [List.getElem?_append_left lns]; exact eo
  have er' : (O ++ [Ob.dct (tdD τ S)])[q]? = some (.lst (R.map (rD mn))) := by rw [List.getElem?_append_left lnq]; exact er
  have hl : (R.map (rD mn)).length ≤ 1000000 := by rw [List.length_map]; omega
  have eR : (R ++ [O.length]).map (rD mn) = R.map (rD mn) ++ [rD mn O.length] := by simp
  have eoF : ((O ++ [Ob.dct (tdD τ S)]).set q (.lst (R.map (rD mn) ++ [rD mn O.length])))[nt]? = some (ntO (S.map .str) q) := by rw [List.getElem?_set_ne (Ne.symm neq)]; exact eo'
  have erF : ((O ++ [Ob.dct (tdD τ S)]).set q (.lst (R.map (rD mn) ++ [rD mn O.length])))[q]? = some (.lst (R.map (rD mn) ++ [rD mn O.length])) := List.getElem?_set_self (by rw [List.length_append]; omega)
  have lenF : ((R.map (rD mn) ++ [rD mn O.length]).length : Int) - 1 = (R.length : Int) := by rw [List.length_append, List.length_map]; simp
  rw [eR]
  show runF 6 b_notices_publish [.hdl nt, .int mn, .hdl tb] O = _
  unfold runF b_notices_publish
  show (match (sSeq (sAsg (mIf (mTru (mFld "Notices" "_rows" (mVar 0))) (mOp gIx (mOp gIx (mFld "Notices" "_rows" (mVar 0)) (mNeg (mC (.int 1)))) (mC (.int 0))) (mC (.int 0))) (bName 3)) _) [some (.hdl nt), some (.int mn), some (.hdl tb), none, none, none] O with
    | .next _ O1 => Res.ok D.non O1
    | .ret d O1 => .ok d O1
    | .exc x _ O1 => .exc x O1
    | _ => .bad) = _
  generalize (mIf (mTru (mFld "Notices" "_rows" (mVar 0))) (mOp gIx (mOp gIx (mFld "Notices" "_rows" (mVar 0)) (mNeg (mC (.int 1)))) (mC (.int 0))) (mC (.int 0))) = lm at *
  generalize sForL (mFld "Notices" "_stations" (mVar 0)) (bName 5) _ = sf at *
  clear t rk eo er N
  have a0 : sAsg lm (bName 3) [some (.hdl nt), some (.int mn), some (.hdl tb), none, none, none] O = .next [some (.hdl nt), some (.int mn), some (.hdl tb), some (.int le), none, none] O := by simp [runF, sSeq, sIf, sNext, sDrop, sRet, sRetN, sAsg, ofRes, ofB, bName, bNil, bCons, bTup, bLst, bSubL, mTest, mOp, mVar, mC, mChain, mAnd, mOr, mNot, mIf, mAndV, mOrV, mNotV, mNeg, mCons, mNil, mTup, mLst, newL, mCall, mFn, arity, g1, g2, gLen, gInt, gAbs, gMax2, gMin2, gIx, seqOf, lsqOf, lstOf, Res.bind, ofO, gAdd_ok, gSub_ok, gEq_int, gNe_int, gLt_int, gLe_int, gGt_int, gGe_int, gEq_bl, gNe_bl, gEq_str, gNe_str, mIsi, mIsiT, tyD, kitL, kitTab, atI_c0, atI_c1, atI_c2, atI_c3, atI_c4, sForR1, int1, int2, mMeth, mMake, mFld, sFldM, gIs, gIsNot, isNon_t, sRaise, gList, newLO, hle]
  have a1 : sDrop (mFn (arity 3 f_checked_number) [.int 1000000] (mCons (mVar 1) (mCons (mVar 3) mNil))) [some (.hdl nt), some (.int mn), some (.hdl tb), some (.int le), none, none] O = .next [some (.hdl nt), some (.int mn), some (.hdl tb), some (.int le), none, none] O := by simp [runF, sSeq, sIf, sNext, sDrop, sRet, sRetN, sAsg, ofRes, ofB, bName, bNil, bCons, bTup, bLst, bSubL, mTest, mOp, mVar, mC, mChain, mAnd, mOr, mNot, mIf, mAndV, mOrV, mNotV, mNeg, mCons, mNil, mTup, mLst, newL, mCall, mFn, arity, g1, g2, gLen, gInt, gAbs, gMax2, gMin2, gIx, seqOf, lsqOf, lstOf, Res.bind, ofO, gAdd_ok, gSub_ok, gEq_int, gNe_int, gLt_int, gLe_int, gGt_int, gGe_int, gEq_bl, gNe_bl, gEq_str, gNe_str, mIsi, mIsiT, tyD, kitL, kitTab, atI_c0, atI_c1, atI_c2, atI_c3, atI_c4, sForR1, int1, int2, mMeth, mMake, mFld, sFldM, gIs, gIsNot, isNon_t, sRaise, gList, newLO, ck]
  have a2 : sAsg mDNew (bName 4) [some (.hdl nt), some (.int mn), some (.hdl tb), some (.int le), none, none] O = .next [some (.hdl nt), some (.int mn), some (.hdl tb), some (.int le), some (.hdl O.length), none] (O ++ [.dct []]) := by simp [mDNew, runF, sSeq, sIf, sNext, sDrop, sRet, sRetN, sAsg, ofRes, ofB, bName, bNil, bCons, bTup, bLst, bSubL, mTest, mOp, mVar, mC, mChain, mAnd, mOr, mNot, mIf, mAndV, mOrV, mNotV, mNeg, mCons, mNil, mTup, mLst, newL, mCall, mFn, arity, g1, g2, gLen, gInt, gAbs, gMax2, gMin2, gIx, seqOf, lsqOf, lstOf, Res.bind, ofO, gAdd_ok, gSub_ok, gEq_int, gNe_int, gLt_int, gLe_int, gGt_int, gGe_int, gEq_bl, gNe_bl, gEq_str, gNe_str, mIsi, mIsiT, tyD, kitL, kitTab, atI_c0, atI_c1, atI_c2, atI_c3, atI_c4, sForR1, int1, int2, mMeth, mMake, mFld, sFldM, gIs, gIsNot, isNon_t, sRaise, gList, newLO]
  rw [seq_next a0, seq_next a1, seq_next a2, seq_next e2]
  generalize O.length = ol at *
  generalize O ++ [Ob.dct (tdD τ S)] = Q at *
  generalize R.map (rD mn) = zr at *
  have a4 : sDrop (mApp (mFld "Notices" "_rows" (mVar 0)) (mTup (mCons (mVar 1) (mCons (mVar 4) mNil)))) [some (.hdl nt), some (.int mn), some (.hdl tb), some (.int le), some (.hdl ol), y] Q = .next [some (.hdl nt), some (.int mn), some (.hdl tb), some (.int le), some (.hdl ol), y] (Q.set q (.lst (zr ++ [rD mn ol]))) := by
    generalize S.map D.str = zs at *
    simp [mApp, runF, sSeq, sIf, sNext, sDrop, sRet, sRetN, sAsg, ofRes, ofB, bName, bNil, bCons, bTup, bLst, bSubL, mTest, mOp, mVar, mC, mChain, mAnd, mOr, mNot, mIf, mAndV, mOrV, mNotV, mNeg, mCons, mNil, mTup, mLst, newL, mCall, mFn, arity, g1, g2, gLen, gInt, gAbs, gMax2, gMin2, gIx, seqOf, lsqOf, lstOf, Res.bind, ofO, gAdd_ok, gSub_ok, gEq_int, gNe_int, gLt_int, gLe_int, gGt_int, gGe_int, gEq_bl, gNe_bl, gEq_str, gNe_str, mIsi, mIsiT, tyD, kitL, kitTab, atI_c0, atI_c1, atI_c2, atI_c3, atI_c4, sForR1, int1, int2, mMeth, mMake, mFld, sFldM, gIs, gIsNot, isNon_t, sRaise, gList, newLO, eo', er', lkr, hl]
  rw [seq_next a4]
  generalize Q.set q (.lst (zr ++ [rD mn ol])) = Q2 at *
  generalize hz2 : zr ++ [rD mn ol] = z2 at *
  generalize S.map D.str = zs at *
  simp [runF, sSeq, sIf, sNext, sDrop, sRet, sRetN, sAsg, ofRes, ofB, bName, bNil, bCons, bTup, bLst, bSubL, mTest, mOp, mVar, mC, mChain, mAnd, mOr, mNot, mIf, mAndV, mOrV, mNotV, mNeg, mCons, mNil, mTup, mLst, newL, mCall, mFn, arity, g1, g2, gLen, gInt, gAbs, gMax2, gMin2, gIx, seqOf, lsqOf, lstOf, Res.bind, ofO, gAdd_ok, gSub_ok, gEq_int, gNe_int, gLt_int, gLe_int, gGt_int, gGe_int, gEq_bl, gNe_bl, gEq_str, gNe_str, mIsi, mIsiT, tyD, kitL, kitTab, atI_c0, atI_c1, atI_c2, atI_c3, atI_c4, sForR1, int1, int2, mMeth, mMake, mFld, sFldM, gIs, gIsNot, isNon_t, sRaise, gList, newLO, eoF, erF, lkr, lenF]
end
end DK.k48
end
section
set_option Elab.async false
set_option linter.all false
set_option autoImplicit false
set_option maxRecDepth 100000
set_option maxHeartbeats 4000000
/-! K48H: the text of a notice; what is published, in plain Lean. -/
namespace DK.k48
open PySem L2 DK DK.Sp DK.Rd DK.Lc DK.Ln
open DK.W (LandAt Wd WOK landO nmsW kindD NAMES STN DKv setT Mins TabAt rowsW rowD optI dicS)
theorem lcS {src el : EM} {i : Nat} {L : Loc} {O : Store} {S : List Str} {g : Str → D} (hs : src L O = .ok (.lst (S.map .str)) O) (hi : i < L.length) (hl : S.length ≤ 1000) (he : ∀ x ∈ S, el ((wipeL L [i]).set i (some (.str x))) O = .ok (g x) O) : mLcL false src [i] (bName i) mYes el L O = .ok (.lst (S.map g)) O := by
  have e := lcL_pure (src := src) (vs := [i]) (b := bName i) (tt := mYes) (el := el) (L := L) (O := O) (O1 := O) (d := .lst (S.map .str)) (ds := S.map .str) (fun d => match d with | .str x => some (g x) | _ => none) hs rfl (by rw [List.length_map]; omega) fun d' hd' => by
    obtain ⟨x, hx, rfl⟩ := List.mem_map.mp hd'
    refine ⟨(wipeL L [i]).set i (some (.str x)), ?_, .inl ⟨g x, rfl, he x hx, rfl⟩⟩
    have : i < (wipeL L [i]).length := by simpa [wipeL] using hi
    simp [bName, this]
  rw [e]
  congr 2
  clear e hs hl he
  induction S with
  | nil => rfl
  | cons a S ih =>
    rw [List.map_cons, List.filterMap_cons, List.map_cons, ← ih]
section
variable {O : Store} {b nt q tb k : Nat} {S : List Str} {c : D} {mn num : Int} {R : List Nat} {τ : Str → Option Int}
theorem told_ok {o : Option Int} (h : ∀ v, o = some v → 0 ≤ v ∧ v ≤ 1000000) : f_told [optI o] O = .ok (.str (tvS o)) O := by
  cases o with
  | none =>
    show f_told [.non] O = _
    simp [f_told, b_told, runF, sSeq, sIf, sNext, sDrop, sRet, sRetN, sAsg, ofRes, ofB, bName, bNil, bCons, bTup, bLst, bSubL, mTest, mOp, mVar, mC, mChain, mAnd, mOr, mNot, mIf, mAndV, mOrV, mNotV, mNeg, mCons, mNil, mTup, mLst, newL, mCall, mFn, arity, g1, g2, gLen, gInt, gAbs, gMax2, gMin2, gIx, seqOf, lsqOf, lstOf, Res.bind, ofO, gAdd_ok, gSub_ok, gEq_int, gNe_int, gLt_int, gLe_int, gGt_int, gGe_int, gEq_bl, gNe_bl, gEq_str, gNe_str, mIsi, mIsiT, tyD, kitL, kitTab, atI_c0, atI_c1, atI_c2, atI_c3, atI_c4, sForR1, int1, int2, mMeth, mMake, mFld, sFldM, gIs, gIsNot, isNon_t, sRaise, gList, newLO, tvS]
  | some v =>
    have e := gStr_ok (O := O) (h v rfl).1 (by have := (h v rfl).2; omega)
    show f_told [.int v] O = _
    have t : tvS (some v) = strN v := rfl
    rw [t]
    generalize strN v = sv at *
    simp [f_told, b_told, runF, sSeq, sIf, sNext, sDrop, sRet, sRetN, sAsg, ofRes, ofB, bName, bNil, bCons, bTup, bLst, bSubL, mTest, mOp, mVar, mC, mChain, mAnd, mOr, mNot, mIf, mAndV, mOrV, mNotV, mNeg, mCons, mNil, mTup, mLst, newL, mCall, mFn, arity, g1, g2, gLen, gInt, gAbs, gMax2, gMin2, gIx, seqOf, lsqOf, lstOf, Res.bind, ofO, gAdd_ok, gSub_ok, gEq_int, gNe_int, gLt_int, gLe_int, gGt_int, gGe_int, gEq_bl, gNe_bl, gEq_str, gNe_str, mIsi, mIsiT, tyD, kitL, kitTab, atI_c0, atI_c1, atI_c2, atI_c3, atI_c4, sForR1, int1, int2, mMeth, mMake, mFld, sFldM, gIs, gIsNot, isNon_t, sRaise, gList, newLO, e]
theorem row_ok (N : NotAt nt q S mn R O) (hR : R.length ≤ 100) {i : Nat} (hi : R[i]? = some k) : f_notices_row [.hdl nt, .int (i : Int)] O = .ok (rD mn k) O := by
  have eo := N.eo
  have er := N.er
  have hl := (List.getElem?_eq_some_iff.mp hi).1
  have ck := chk_ok (O := O) (v := (i : Int)) (a := 0) (by omega) (by omega)
  have lkr : ∀ a d : D, List.lookup ("_rows" : Str) [(("_stations" : Str), a), (("_rows" : Str), d)] = some d := fun _ _ => rfl
  have gl : gLen O (.hdl q) = some (.int (R.length : Int), O) := by simp [gLen, er]
  have ix : gIx O (.hdl q) (.int (i : Int)) = some (rD mn k, O) := by
    have a : atI (R.map (rD mn)) (i : Int) = some (rD mn k) := atI_nat (by omega) (by rw [Int.toNat_natCast, List.getElem?_map, hi]; rfl)
    show (match lsqOf O (.hdl q) with | some zs => (match atI zs (i : Int) with | some d => some (d, O) | none => none) | none => none) = _
    rw [lsq_h er]
    simp only [a]
  have lt : ¬ (R.length : Int) ≤ (i : Int) := by omega
  have lt2 : ¬ R.length ≤ i := by omega
  generalize S.map D.str = zs at *
  generalize rD mn k = d at *
  generalize (R.length : Int) = rl at *
  simp [f_notices_row, b_notices_row, sAsg, sSeq, sIf, sNext, sRet, runF, ofRes, ofO, Res.bind, mTest, mOp, mFn, arity, mCons, mNil, mCall, DK.g1, mFld, mVar, eo, lkr, ck, gl, ix, gGe_int, lt, lt2]
theorem text_ok (hS : S.Sublist STN) (N : NotAt nt q S mn R O) (hR : R.length ≤ 100) {i : Nat} (hi : R[i]? = some k) (ek : O[k]? = some (.dct (tdD τ S))) (m0 : 0 ≤ mn) (m1 : mn ≤ 1000000) (bd : ∀ x v, τ x = some v → 0 ≤ v ∧ v ≤ 1000000) (hi2 : i ≤ 100) :
    f_notices_text [.hdl nt, .int (i : Int)] O = .ok (.str (txt (headLn (i : Int) mn :: S.map fun x => lnR (x, τ x)))) O := by
  have kS := wsk hS
  have hl6 : S.length ≤ 6 := hS.length_le
  have nd : S.Nodup := by have := kS.nd; simpa using this
  have eo := N.eo
  have er := row_ok N hR hi
  have lks : ∀ a d : D, List.lookup ("_stations" : Str) [(("_stations" : Str), a), (("_rows" : Str), d)] = some a := fun _ _ => rfl
  have lkm : ∀ a d : D, List.lookup ("_row" : Str) [(("_stations" : Str), a), (("_rows" : Str), d)] = none := fun _ _ => rfl
  have i0 : (0 : Int) ≤ (i : Int) := by omega
  have s1 := gStr_ok (O := O) i0 (by omega)
  have s2 := gStr_ok (O := O) m0 (by omega)
  have n1 := strN_len i0 (by omega)
  have n2 := strN_len m0 m1
  have ll : ("notice " : Str).length = 7 ∧ (" at " : Str).length = 4 ∧ (" " : Str).length = 1 := ⟨rfl, rfl, rfl⟩
  have a1 := gAdd_str (O := O) (h := false) (a := "notice ") (b := strN (i : Int)) (by omega)
  have a2 := gAdd_str (O := O) (h := false) (a := "notice " ++ strN (i : Int)) (b := " at ") (by rw [Str.length_append]; omega)
  have a3 := gAdd_str (O := O) (h := false) (a := "notice " ++ strN (i : Int) ++ " at ") (b := strN mn) (by rw [Str.length_append, Str.length_append]; omega)
  have lnl : ∀ x ∈ S, LineOK 20 (lnR (x, τ x)) := fun x hx => row_line ⟨stn_name x (hS.subset hx), fun v hv => bd x v hv⟩
  have hdl := head_ln i0 (show (i : Int) ≤ 1000000 by omega) m0 m1
  have c1 := lcS (src := mFld "Notices" "_stations" (mVar 0)) (i := 5) (el := mOp (gAdd false) (mOp (gAdd false) (mVar 5) (mC (.str " "))) (mFn (arity 1 f_told) [] (mCons (mDGet (mVar 3) (mVar 5)) mNil))) (L := [some (.hdl nt), some (.int (i : Int)), some (.int mn), some (.hdl k), some (.lst [.str (headLn (i : Int) mn)]), none, none]) (O := O) (S := S) (g := fun x => .str (lnR (x, τ x)))
    (by
      generalize S.map D.str = zs at *
      simp [runF, sSeq, sIf, sNext, sDrop, sRet, sRetN, sAsg, ofRes, ofB, bName, bNil, bCons, bTup, bLst, bSubL, mTest, mOp, mVar, mC, mChain, mAnd, mOr, mNot, mIf, mAndV, mOrV, mNotV, mNeg, mCons, mNil, mTup, mLst, newL, mCall, mFn, arity, g1, g2, gLen, gInt, gAbs, gMax2, gMin2, gIx, seqOf, lsqOf, lstOf, Res.bind, ofO, gAdd_ok, gSub_ok, gEq_int, gNe_int, gLt_int, gLe_int, gGt_int, gGe_int, gEq_bl, gNe_bl, gEq_str, gNe_str, mIsi, mIsiT, tyD, kitL, kitTab, atI_c0, atI_c1, atI_c2, atI_c3, atI_c4, sForR1, int1, int2, mMeth, mMake, mFld, sFldM, gIs, gIsNot, isNon_t, sRaise, gList, newLO, eo, lks]) (by simp) (by omega) fun x hx => by
      have v : valD (tdD τ S) (.inr x) = some (optI (τ x)) := W.val_nm (n := fun x : Str => x) (g := fun x => optI (τ x)) (x := x) (xs := S) (by simpa using nd) hx
      have tl := told_ok (O := O) (o := τ x) (fun v hv => bd x v hv)
      have xl : x.length ≤ 12 := (nameB_len (stn_name x (hS.subset hx))).2
      have tvl := (tv_line (o := τ x) (fun v hv => bd x v hv)).len
      have b1 := gAdd_str (O := O) (h := false) (a := x) (b := " ") (by omega)
      have b2 := gAdd_str (O := O) (h := false) (a := x ++ " ") (b := tvS (τ x)) (by rw [Str.length_append]; omega)
      show _ = Res.ok (D.str (x ++ " " ++ tvS (τ x))) O
      generalize tvS (τ x) = tx at *
      generalize optI (τ x) = ox at *
      generalize tdD τ S = kd at *
      simp [mDGet, dctOf, keyD, runF, sSeq, sIf, sNext, sDrop, sRet, sRetN, sAsg, ofRes, ofB, bName, bNil, bCons, bTup, bLst, bSubL, mTest, mOp, mVar, mC, mChain, mAnd, mOr, mNot, mIf, mAndV, mOrV, mNotV, mNeg, mCons, mNil, mTup, mLst, newL, mCall, mFn, arity, g1, g2, gLen, gInt, gAbs, gMax2, gMin2, gIx, seqOf, lsqOf, lstOf, Res.bind, ofO, gAdd_ok, gSub_ok, gEq_int, gNe_int, gLt_int, gLe_int, gGt_int, gGe_int, gEq_bl, gNe_bl, gEq_str, gNe_str, mIsi, mIsiT, tyD, kitL, kitTab, atI_c0, atI_c1, atI_c2, atI_c3, atI_c4, sForR1, int1, int2, mMeth, mMake, mFld, sFldM, gIs, gIsNot, isNon_t, sRaise, gList, newLO, wipeL, ek, v, tl, b1, b2]
  have hm : (S.map fun x => D.str (lnR (x, τ x))) = (S.map fun x => lnR (x, τ x)).map .str := by rw [List.map_map]; rfl
  rw [hm] at c1
  have add := addL (O := O) (xs := [.str (headLn (i : Int) mn)]) (ys := (S.map fun x => lnR (x, τ x)).map .str) (by simp; omega)
  have okl : ∀ p ∈ headLn (i : Int) mn :: S.map fun x => lnR (x, τ x), LineOK 30 p := fun p hp => by
    rcases List.mem_cons.mp hp with rfl | hp
    · exact hdl
    · obtain ⟨x, hx, rfl⟩ := List.mem_map.mp hp
      exact (lnl x hx).mono (by omega)
  have nl := nl_ok (L := [some (.hdl nt), some (.int (i : Int)), some (.int mn), some (.hdl k), some (.lst ((headLn (i : Int) mn :: S.map fun x => lnR (x, τ x)).map .str)), none, none]) (src := mVar 4) (i := 6) (O := O) (d := .lst ((headLn (i : Int) mn :: S.map fun x => lnR (x, τ x)).map .str)) (ls := headLn (i : Int) mn :: S.map fun x => lnR (x, τ x)) rfl (.inl rfl) (by simp) (by simp; omega) okl (by omega)
  have hd : ("notice " : Str) ++ strN (i : Int) ++ " at " ++ strN mn = headLn (i : Int) mn := rfl
  rw [hd] at a3
  rw [show [D.str (headLn (i : Int) mn)] ++ (S.map fun x => lnR (x, τ x)).map D.str = (headLn (i : Int) mn :: S.map fun x => lnR (x, τ x)).map .str from rfl] at add
  show runF 7 b_notices_text [.hdl nt, .int (i : Int)] O = _
  unfold runF b_notices_text
  have t0 : sAsg (mMeth "Notices" "_row" (arity 2 f_notices_row) [] (mVar 0) (mCons (mVar 1) mNil)) (bTup 2 (bCons (bName 2) (bCons (bName 3) bNil))) [some (.hdl nt), some (.int (i : Int)), none, none, none, none, none] O = .next [some (.hdl nt), some (.int (i : Int)), some (.int mn), some (.hdl k), none, none, none] O := by
    clear c1 add nl okl
    generalize S.map D.str = zs at *
    simp [runF, sSeq, sIf, sNext, sDrop, sRet, sRetN, sAsg, ofRes, ofB, bName, bNil, bCons, bTup, bLst, bSubL, mTest, mOp, mVar, mC, mChain, mAnd, mOr, mNot, mIf, mAndV, mOrV, mNotV, mNeg, mCons, mNil, mTup, mLst, newL, mCall, mFn, arity, g1, g2, gLen, gInt, gAbs, gMax2, gMin2, gIx, seqOf, lsqOf, lstOf, Res.bind, ofO, gAdd_ok, gSub_ok, gEq_int, gNe_int, gLt_int, gLe_int, gGt_int, gGe_int, gEq_bl, gNe_bl, gEq_str, gNe_str, mIsi, mIsiT, tyD, kitL, kitTab, atI_c0, atI_c1, atI_c2, atI_c3, atI_c4, sForR1, int1, int2, mMeth, mMake, mFld, sFldM, gIs, gIsNot, isNon_t, sRaise, gList, newLO, eo, lkm, er]
  have t1 : sAsg (mLst false (mCons (mOp (gAdd false) (mOp (gAdd false) (mOp (gAdd false) (mC (.str "notice ")) (mCall (DK.g1 gStr) (mCons (mVar 1) mNil))) (mC (.str " at "))) (mCall (DK.g1 gStr) (mCons (mVar 2) mNil))) mNil)) (bName 4) [some (.hdl nt), some (.int (i : Int)), some (.int mn), some (.hdl k), none, none, none] O = .next [some (.hdl nt), some (.int (i : Int)), some (.int mn), some (.hdl k), some (.lst [.str (headLn (i : Int) mn)]), none, none] O := by
    clear c1 add nl okl
    generalize headLn (i : Int) mn = hh at *
    generalize strN (i : Int) = si at *
    generalize strN mn = sm at *
    simp [runF, sSeq, sIf, sNext, sDrop, sRet, sRetN, sAsg, ofRes, ofB, bName, bNil, bCons, bTup, bLst, bSubL, mTest, mOp, mVar, mC, mChain, mAnd, mOr, mNot, mIf, mAndV, mOrV, mNotV, mNeg, mCons, mNil, mTup, mLst, newL, mCall, mFn, arity, g1, g2, gLen, gInt, gAbs, gMax2, gMin2, gIx, seqOf, lsqOf, lstOf, Res.bind, ofO, gAdd_ok, gSub_ok, gEq_int, gNe_int, gLt_int, gLe_int, gGt_int, gGe_int, gEq_bl, gNe_bl, gEq_str, gNe_str, mIsi, mIsiT, tyD, kitL, kitTab, atI_c0, atI_c1, atI_c2, atI_c3, atI_c4, sForR1, int1, int2, mMeth, mMake, mFld, sFldM, gIs, gIsNot, isNon_t, sRaise, gList, newLO, s1, s2, a1, a2, a3]
  have t2 : sAsg (mOp (gAdd false) (mVar 4) (mLcL false (mFld "Notices" "_stations" (mVar 0)) [5] (bName 5) mYes (mOp (gAdd false) (mOp (gAdd false) (mVar 5) (mC (.str " "))) (mFn (arity 1 f_told) [] (mCons (mDGet (mVar 3) (mVar 5)) mNil))))) (bName 4) [some (.hdl nt), some (.int (i : Int)), some (.int mn), some (.hdl k), some (.lst [.str (headLn (i : Int) mn)]), none, none] O = .next [some (.hdl nt), some (.int (i : Int)), some (.int mn), some (.hdl k), some (.lst ((headLn (i : Int) mn :: S.map fun x => lnR (x, τ x)).map .str)), none, none] O := by
    clear nl okl
    generalize (mLcL false (mFld "Notices" "_stations" (mVar 0)) [5] (bName 5) mYes (mOp (gAdd false) (mOp (gAdd false) (mVar 5) (mC (.str " "))) (mFn (arity 1 f_told) [] (mCons (mDGet (mVar 3) (mVar 5)) mNil)))) = lc at *
    generalize (headLn (i : Int) mn :: S.map fun x => lnR (x, τ x)).map D.str = zr at *
    generalize (S.map fun x => lnR (x, τ x)).map D.str = zq at *
    generalize headLn (i : Int) mn = hh at *
    simp [runF, sSeq, sIf, sNext, sDrop, sRet, sRetN, sAsg, ofRes, ofB, bName, bNil, bCons, bTup, bLst, bSubL, mTest, mOp, mVar, mC, mChain, mAnd, mOr, mNot, mIf, mAndV, mOrV, mNotV, mNeg, mCons, mNil, mTup, mLst, newL, mCall, mFn, arity, g1, g2, gLen, gInt, gAbs, gMax2, gMin2, gIx, seqOf, lsqOf, lstOf, Res.bind, ofO, gAdd_ok, gSub_ok, gEq_int, gNe_int, gLt_int, gLe_int, gGt_int, gGe_int, gEq_bl, gNe_bl, gEq_str, gNe_str, mIsi, mIsiT, tyD, kitL, kitTab, atI_c0, atI_c1, atI_c2, atI_c3, atI_c4, sForR1, int1, int2, mMeth, mMake, mFld, sFldM, gIs, gIsNot, isNon_t, sRaise, gList, newLO, c1, add]
  show (match (sSeq (sAsg (mMeth "Notices" "_row" (arity 2 f_notices_row) [] (mVar 0) (mCons (mVar 1) mNil)) (bTup 2 (bCons (bName 2) (bCons (bName 3) bNil)))) _) [some (.hdl nt), some (.int (i : Int)), none, none, none, none, none] O with
    | .next _ O1 => Res.ok D.non O1
    | .ret d O1 => .ok d O1
    | .exc x _ O1 => .exc x O1
    | _ => .bad) = _
  rw [seq_next t0, seq_next t1, seq_next t2]
  have t3 : sRet (mBS (gJoin) (mC (.str "")) (mCons (mLcL false (mVar 4) [6] (bName 6) mYes (mOp (gAdd false) (mVar 6) (mC (.str "\n")))) mNil)) [some (.hdl nt), some (.int (i : Int)), some (.int mn), some (.hdl k), some (.lst ((headLn (i : Int) mn :: S.map fun x => lnR (x, τ x)).map .str)), none, none] O = .ret (.str (txt (headLn (i : Int) mn :: S.map fun x => lnR (x, τ x)))) O := by
    generalize mBS (gJoin) (mC (.str "")) (mCons (mLcL false (mVar 4) [6] (bName 6) mYes (mOp (gAdd false) (mVar 6) (mC (.str "\n")))) mNil) = je at *
    generalize (headLn (i : Int) mn :: S.map fun x => lnR (x, τ x)).map D.str = zr at *
    generalize txt (headLn (i : Int) mn :: S.map fun x => lnR (x, τ x)) = tt at *
    simp [runF, sSeq, sIf, sNext, sDrop, sRet, sRetN, sAsg, ofRes, ofB, bName, bNil, bCons, bTup, bLst, bSubL, mTest, mOp, mVar, mC, mChain, mAnd, mOr, mNot, mIf, mAndV, mOrV, mNotV, mNeg, mCons, mNil, mTup, mLst, newL, mCall, mFn, arity, g1, g2, gLen, gInt, gAbs, gMax2, gMin2, gIx, seqOf, lsqOf, lstOf, Res.bind, ofO, gAdd_ok, gSub_ok, gEq_int, gNe_int, gLt_int, gLe_int, gGt_int, gGe_int, gEq_bl, gNe_bl, gEq_str, gNe_str, mIsi, mIsiT, tyD, kitL, kitTab, atI_c0, atI_c1, atI_c2, atI_c3, atI_c4, sForR1, int1, int2, mMeth, mMake, mFld, sFldM, gIs, gIsNot, isNon_t, sRaise, gList, newLO, nl]
  rw [t3]
end
end DK.k48
end
section
set_option Elab.async false
set_option linter.all false
set_option autoImplicit false
set_option maxRecDepth 100000
set_option maxHeartbeats 4000000
/-! K48I: what is published; a text read by the law's try, in plain Lean. -/
namespace DK.k48
open PySem L2 DK DK.Sp DK.Rd DK.Lc DK.Ln
open DK.W (LandAt Wd WOK landO nmsW kindD NAMES STN DKv setT Mins TabAt rowsW rowD optI dicS)
section
variable {O O0 O1 : Store} {b nt s : Nat} {S ls : List Str} {c y5 : D} {mn num : Int} {τ : Str → Option Int} {kv : List (Key × D)} {x : Str}
abbrev pbB : SM := (sDrop (mMeth "Notices" "publish" (arity 3 f_notices_publish) [] (mVar 6) (mCons (mVar 8) (mCons (mMake "Table" (arity 3 f_table_init) [] (mCons (mVar 3) (mCons (mCall (DK.g1 gDictD) (mCons (mVar 4) mNil)) mNil))) mNil))))
abbrev LP (c : D) (zs : List D) (y5 : Option D) (nt : Nat) (num mn : Int) (y9 : Option D) : Loc := [some c, some (.hdl 0), some (.lst zs), some (.hdl 1), some (.hdl 6), y5, some (.hdl nt), some (.int num), some (.int mn), y9, none, none, none, none, none, none]
structure PBI (b : Nat) (c : D) (S : List Str) (y5 : Option D) (nt s : Nat) (num mn : Int) (τ : Str → Option Int) (kv : List (Key × D)) (j : Nat) (L : Loc) (O : Store) : Prop where
  ex : ∃ R y9, L = LP c (S.map .str) y5 nt num mn y9 ∧ NotAt nt (nt + 1) S mn R O ∧ R.length = j ∧ ∀ k ∈ R, O[k]? = some (.dct (tdD τ S))
  la : LandAt 1 s 3 4 5 (WS S) O
  g6 : O[6]? = some (.dct kv)
  tk : Take b 0 O
theorem pb_turn {y5 : Option D} {j : Nat} {L : Loc} (hS : S.Sublist STN) (hs : s < nt) (h6 : 6 < nt) (m0 : 0 ≤ mn) (m1 : mn ≤ 1000000) (dk : DKv τ kv) (dm : ∀ x, (τ x).isSome = true → x ∈ S) (bd : ∀ x v, τ x = some v → 0 ≤ v ∧ v ≤ 1000000) (hkv : kv.length ≤ 10) (hj : j < 10) (h : PBI b c S y5 nt s num mn τ kv j L O) :
    ∃ L' O', turnOf (bName 9) pbB (.int (j : Int)) L O = .next L' O' ∧ PBI b c S y5 nt s num mn τ kv (j + 1) L' O' := by
  obtain ⟨⟨R, y9, rfl, N, hR, hk⟩, la, g6, tk⟩ := h
  have k := wsk hS
  have mins : Mins kv τ (nmsW (WS S)) := by
    obtain ⟨ks, e, _⟩ := dk.k
    refine ⟨fun x => ?_, ⟨ks, e, fun x hx => ?_⟩, fun x i hi => ?_, by omega⟩
    · rw [dk.v x]
      cases τ x <;> rfl
    · rw [nms_ws]
      exact dm x ((dk.mem e).mp hx)
    · have := bd x i hi
      omega
  have lnt := (List.getElem?_eq_some_iff.mp N.eo).1
  have lnq := (List.getElem?_eq_some_iff.mp N.er).1
  -- the table
  have f1 : Fz O (O ++ [Ob.dct kv]) := fz_app
  have ti := W.tinit_ok (m := O.length) (la.fr f1.fr) k (by simp) mins ⟨by omega, by omega, by omega, by omega, by omega⟩
  rw [← z_tinit] at ti
  have rk := W.rows_okW (w := WS S) (M := τ) k fun x i hi => by have := bd x i hi; omega
  obtain ⟨O1, hO1⟩ : ∃ O1, O1 = O ++ [Ob.dct kv] := ⟨_, rfl⟩
  rw [← hO1] at ti f1
  obtain ⟨O2, hO2⟩ : ∃ O2, O2 = O1 ++ [W.tabO O1.length, .lst ((rowsW (WS S) τ).map rowD), .dct (dicS (fun r : W.Row => r.2.1) W.minD (rowsW (WS S) τ))] := ⟨_, rfl⟩
  have ti : f_table_init [.hdl O1.length, .hdl 1, .hdl O.length] (O1 ++ [.ins "Table" []]) = .ok .non O2 := by rw [hO2]; exact ti
  have f2 : Fz O1 O2 := by rw [hO2]; exact fz_app
  have f12 := f1.trans f2
  have tab : TabAt O1.length (rowsW (WS S) τ) O2 := ⟨by rw [hO2, List.getElem?_append_right (Nat.le_refl _)]; simp, by rw [hO2, List.getElem?_append_right (by omega)]; simp, by rw [hO2, List.getElem?_append_right (by omega)]; simp⟩
  have N2 : NotAt nt (nt + 1) S mn R O2 := ⟨f12.at N.eo, f12.at N.er⟩
  have pb := publish_ok hS N2 tab rk m0 m1 (by omega)
  have lkp : ∀ a d : D, List.lookup ("publish" : Str) [(("_stations" : Str), a), (("_rows" : Str), d)] = none := fun _ _ => rfl
  have e0 := N.eo
  have e2 := N2.eo
  have ne : ∀ k ∈ R, k ≠ nt + 1 := fun k hk' z => by have := hk k hk'; rw [z, N.er] at this; cases this
  have l2 : (nt + 1) < (O2 ++ [Ob.dct (tdD τ S)]).length := by rw [List.length_append]; have := f12.1; simp; omega
  have keep : ∀ i, i < O.length → i ≠ nt + 1 → ((O2 ++ [Ob.dct (tdD τ S)]).set (nt + 1) (.lst ((R ++ [O2.length]).map (rD mn))))[i]? = O[i]? := fun i hi hne => by
    rw [List.getElem?_set_ne (Ne.symm hne), List.getElem?_append_left (by have := f12.1; omega)]
    exact f12.2 i hi
  have fx : W.Fx (nt + 1) O ((O2 ++ [Ob.dct (tdD τ S)]).set (nt + 1) (.lst ((R ++ [O2.length]).map (rD mn)))) := ⟨by rw [List.length_set, List.length_append]; have := f12.1; omega, fun i hi hne => keep i hi hne⟩
  refine ⟨LP c (S.map .str) y5 nt num mn (some (.int (j : Int))), (O2 ++ [Ob.dct (tdD τ S)]).set (nt + 1) (.lst ((R ++ [O2.length]).map (rD mn))), ?_, ⟨⟨R ++ [O2.length], _, rfl, ⟨?_, List.getElem?_set_self l2⟩, by rw [List.length_append, hR]; rfl, fun k hk' => ?_⟩, la.fx fx ⟨by omega, by omega, by omega, by omega, by omega⟩, ?_, take_at0 tk (keep 0 (by omega) (by omega))⟩⟩
  · have d6 : gDictD O (.hdl 6) = some (.hdl O.length, O1) := by
      rw [hO1]
      simp [gDictD, dctOf, g6]
    have t0 : turnOf (bName 9) pbB (.int (j : Int)) (LP c (S.map .str) y5 nt num mn y9) O = pbB (LP c (S.map .str) y5 nt num mn (some (.int (j : Int)))) O := rfl
    rw [t0]
    clear keep fx N N2 tab mins la t0 hO2 hO1 f1 f2 f12 hk ne l2
    generalize (O2 ++ [Ob.dct (tdD τ S)]).set (nt + 1) (.lst ((R ++ [O2.length]).map (rD mn))) = Q at *
    generalize S.map D.str = zs at *
    generalize (R.length : Int) = rl at *
    generalize O.length = ol at *
    simp [runF, sSeq, sIf, sNext, sDrop, sRet, sRetN, sAsg, ofRes, ofB, bName, bNil, bCons, bTup, bLst, bSubL, mTest, mOp, mVar, mC, mChain, mAnd, mOr, mNot, mIf, mAndV, mOrV, mNotV, mNeg, mCons, mNil, mTup, mLst, newL, mCall, mFn, arity, g1, g2, gLen, gInt, gAbs, gMax2, gMin2, gIx, seqOf, lsqOf, lstOf, Res.bind, ofO, gAdd_ok, gSub_ok, gEq_int, gNe_int, gLt_int, gLe_int, gGt_int, gGe_int, gEq_bl, gNe_bl, gEq_str, gNe_str, mIsi, mIsiT, tyD, kitL, kitTab, atI_c0, atI_c1, atI_c2, atI_c3, atI_c4, sForR1, int1, int2, mMeth, mMake, mFld, sFldM, gIs, gIsNot, isNon_t, sRaise, gList, newLO, e0, lkp, d6, ti, e2, pb]
  · rw [keep nt lnt (by omega)]; exact e0
  · rcases List.mem_append.mp hk' with h | h
    · rw [keep k (List.getElem?_eq_some_iff.mp (hk k h)).1 (ne k h)]
      exact hk k h
    · rw [List.mem_singleton.mp h, List.getElem?_set_ne (by have := f12.1; omega), List.getElem?_append_right (Nat.le_refl _)]
      simp
  · rw [keep 6 (by omega) (by omega)]; exact g6
/-! ### the text read -/
theorem y_lines_ok {m : Nat} (ok : ∀ p ∈ ls, LineOK m p) (hm : m ≤ 900) (hl : ls.length ≤ 400) : f_lines_of [.str (txt ls)] O = .ok (.lst (ls.map .str)) O := by
  rw [y_lines]
  exact lines_ln ok hm hl
theorem read_of_ok {y : D} (h : f_read_notice [.str x] O = .ok y O1) : f_law_read [.str x] O = .ok y O1 := by
  simp [f_law_read, b_law_read, sTryE, runF, sSeq, sIf, sNext, sDrop, sRet, sRetN, sAsg, ofRes, ofB, bName, bNil, bCons, bTup, bLst, bSubL, mTest, mOp, mVar, mC, mChain, mAnd, mOr, mNot, mIf, mAndV, mOrV, mNotV, mNeg, mCons, mNil, mTup, mLst, newL, mCall, mFn, arity, g1, g2, gLen, gInt, gAbs, gMax2, gMin2, gIx, seqOf, lsqOf, lstOf, Res.bind, ofO, gAdd_ok, gSub_ok, gEq_int, gNe_int, gLt_int, gLe_int, gGt_int, gGe_int, gEq_bl, gNe_bl, gEq_str, gNe_str, mIsi, mIsiT, tyD, kitL, kitTab, atI_c0, atI_c1, atI_c2, atI_c3, atI_c4, sForR1, int1, int2, mMeth, mMake, mFld, sFldM, gIs, gIsNot, isNon_t, sRaise, gList, newLO, h]
theorem read_of_exc {k : Nat} (h : f_read_notice [.str x] O = .exc (errL k) O1) : f_law_read [.str x] O = .ok (.lst [.int (k : Int)]) O1 := by
  unfold errL at h
  have sb : sub_law_read_362 "InvalidLine" = some true := rfl
  have lk : List.lookup ("line" : Str) [(("line" : Str), D.int (k : Int))] = some (.int (k : Int)) := rfl
  have fl : (flatFs [(("line" : Str), D.int (k : Int))]).isSome = true := rfl
  generalize (k : Int) = kk at *
  simp [f_law_read, b_law_read, sTryE, okX, mXf, runF, sSeq, sIf, sNext, sDrop, sRet, sRetN, sAsg, ofRes, ofB, bName, bNil, bCons, bTup, bLst, bSubL, mTest, mOp, mVar, mC, mChain, mAnd, mOr, mNot, mIf, mAndV, mOrV, mNotV, mNeg, mCons, mNil, mTup, mLst, newL, mCall, mFn, arity, g1, g2, gLen, gInt, gAbs, gMax2, gMin2, gIx, seqOf, lsqOf, lstOf, Res.bind, ofO, gAdd_ok, gSub_ok, gEq_int, gNe_int, gLt_int, gLe_int, gGt_int, gGe_int, gEq_bl, gNe_bl, gEq_str, gNe_str, mIsi, mIsiT, tyD, kitL, kitTab, atI_c0, atI_c1, atI_c2, atI_c3, atI_c4, sForR1, int1, int2, mMeth, mMake, mFld, sFldM, gIs, gIsNot, isNon_t, sRaise, gList, newLO, h, sb, lk, fl]
theorem read_ln {m : Nat} (ok : ∀ p ∈ ls, LineOK m p) (hm : m ≤ 900) (hl : ls.length ≤ 400) :
    (Fine ls ∧ f_read_notice [.str (txt ls)] O = .ok (.tup [.int (headS ls).1, .int (headS ls).2, .hdl O.length]) (O ++ [.lst ((rowsTo ls ls.length).map rnD)]) ∧ f_law_read [.str (txt ls)] O = .ok (.tup [.int (headS ls).1, .int (headS ls).2, .hdl O.length]) (O ++ [.lst ((rowsTo ls ls.length).map rnD)])) ∨ ∃ k O', Bad ls k ∧ f_law_read [.str (txt ls)] O = .ok (.lst [.int ((k : Nat) : Int)]) O' ∧ Fz O O' := by
  rcases parse_ok (O0 := O) (x := txt ls) (by omega) (fun p hp => by have := (ok p hp).len; omega) (y_lines_ok ok hm hl) with ⟨f, e⟩ | ⟨k, O', bd, e, f⟩
  · exact .inl ⟨f, e, read_of_ok e⟩
  · exact .inr ⟨k, O', bd, read_of_exc e, f⟩
theorem read_open {m : Nat} {A : List Str} {l : Str} (ok : ∀ p ∈ A ++ [l], LineOK m p) (hm : m ≤ 900) (hl : A.length ≤ 400) (h0 : l ≠ "") : f_law_read [.str (cutS (txt (A ++ [l])) none (some (-1)))] O = .ok (.lst [.int (((A.length + 1 : Nat)) : Int)]) O := by
  have e := lines_cut (O := O) ok hm hl h0
  rw [← y_lines] at e
  exact read_of_exc (parse_exc e)
theorem read_nil : ∃ O', f_law_read [.str ""] O = .ok (.lst [.int 1]) O' ∧ Fz O O' := by
  rcases read_ln (O := O) (ls := []) (m := 0) (fun p hp => absurd hp List.not_mem_nil) (by omega) (by simp) with ⟨f, _⟩ | ⟨k, O', bd, e, f⟩
  · exact absurd rfl f.1
  · have : k = 1 := bad_uniq bd (.inl ⟨rfl, rfl⟩)
    subst this
    exact ⟨O', e, f⟩
/-- the same notice, its rows once a list of the store -/
theorem neNotice {p : Nat} {a d : Int} {rows : List RN} (h1 : O[p]? = some (.lst (rows.map rnD))) (hr : ∀ r ∈ rows, PyData.strOk r.1 = true) : gNe O (.tup [.int a, .int d, .hdl p]) (.tup [.int a, .int d, .lst (rows.map rnD)]) = some (.bl false, O) := by
  have e : deep O 29 (.hdl p) = deep O 29 (.lst (rows.map rnD)) := by
    show (match O[p]? with | some (.lst xs) => (xs.mapM (deep O 28)).map PyData.list | _ => none) = _
    rw [h1]
    rfl
  have dp : deep O 30 (.tup [.int a, .int d, .hdl p]) = deep O 30 (.tup [.int a, .int d, .lst (rows.map rnD)]) := by
    show (List.mapM (deep O 29) [D.int a, .int d, .hdl p]).map PyData.tuple = (List.mapM (deep O 29) [D.int a, .int d, .lst (rows.map rnD)]).map PyData.tuple
    rw [mapM_cons, mapM_cons, mapM_cons, mapM_cons, mapM_cons, mapM_cons, e]
  have ok : okV (.tup [.int a, .int d, .lst (rows.map rnD)]) 29 = true := okV_tup fun x hx => by
    simp only [List.mem_cons, List.not_mem_nil, or_false] at hx
    rcases hx with rfl | rfl | rfl
    · rfl
    · rfl
    · refine okV_lst fun y hy => ?_
      obtain ⟨r, hr', rfl⟩ := List.mem_map.mp hy
      refine okV_tup fun z hz => ?_
      simp only [List.mem_cons, List.not_mem_nil, or_false] at hz
      rcases hz with rfl | rfl
      · exact hr r hr'
      · cases r.2 <;> rfl
  have q : eqD O (.tup [.int a, .int d, .hdl p]) (.tup [.int a, .int d, .lst (rows.map rnD)]) = some true := by
    have : eqD O (.tup [.int a, .int d, .hdl p]) (.tup [.int a, .int d, .lst (rows.map rnD)]) = eqD O (.tup [.int a, .int d, .lst (rows.map rnD)]) (.tup [.int a, .int d, .lst (rows.map rnD)]) := by
      unfold eqD
      rw [dp]
      rfl
    rw [this, eqD_pd ok ok (.inl rfl), eqv_self ok]
  rw [gNe_of q]
  rfl
end
end DK.k48
end
section
set_option Elab.async false
set_option linter.all false
set_option autoImplicit false
set_option maxRecDepth 100000
set_option maxHeartbeats 4000000
/-! K48J: the turns of the law, in plain Lean. -/
namespace DK.k48
open PySem L2 DK DK.Sp DK.Rd DK.Lc DK.Ln
open DK.W (LandAt Wd WOK landO nmsW kindD NAMES STN DKv setT Mins TabAt rowsW rowD optI dicS)
abbrev jnE : EM := (mBS (gJoin) (mC (.str "")) (mCons (mLcL false (mVar 10) [15] (bName 15) mYes (mOp (gAdd false) (mVar 15) (mC (.str "\n")))) mNil))
abbrev t0 : SM := (sIf (mTest (mOp gNe (mVar 10) (mLst false mNil))) (sAsg (mFn (arity 2 f_law_spoilt) [] (mCons (mVar 1) (mCons (mVar 10) mNil))) (bName 10)) sNext)
abbrev t1 : SM := (sAsg (mFn (arity 1 f_law_due) [] (mCons (mVar 10) mNil)) (bName 13))
abbrev t2 : SM := sAsg (mFn (arity 1 f_law_read) [] (mCons jnE mNil)) (bName 14)
abbrev t3 : SM := (sIf (mOr (mAnd (mTest (mOp gGt (mVar 13) (mC (.int 0)))) (mTest (mOp gNe (mVar 14) (mLst false (mCons (mVar 13) mNil))))) (mAnd (mTest (mOp gEq (mVar 13) (mC (.int 0)))) (mOr (mTest (mIsi "list" (mVar 14))) (mTest (mOp gNe (mCall (g1 gLen) (mCons (mOp gIx (mVar 14) (mC (.int 2))) mNil)) (mOp gSub (mCall (g1 gLen) (mCons (mVar 10) mNil)) (mC (.int 1)))))))) (sRet (mC (.bl false))) sNext)
abbrev tT : SM := sSeq t0 (sSeq t1 (sSeq t2 t3))
abbrev LL (c : D) (zs : List D) (y5 : Option D) (nt : Nat) (num mn : Int) (y9 : Option D) (d : D) (t : Str) (y12 y13 y14 : Option D) : Loc := [some c, some (.hdl 0), some (.lst zs), some (.hdl 1), some (.hdl 6), y5, some (.hdl nt), some (.int num), some (.int mn), y9, some d, some (.str t), y12, y13, y14, none]
def bd : Nat → Nat
  | 0 => 50
  | k + 1 => 3 * bd k + 2
section
variable {O : Store} {b nt : Nat} {ls : List Str} {t : Str} {c d : D} {zs : List D} {y5 y9 y12 y13 y14 : Option D} {num mn : Int}
structure TI (b : Nat) (c : D) (zs : List D) (y5 : Option D) (nt : Nat) (num mn : Int) (t : Str) (y12 : Option D) (j : Nat) (L : Loc) (O : Store) : Prop where
  ex : ∃ (d : D) (ls : List Str) (y9 y13 y14 : Option D), L = LL c zs y5 nt num mn y9 d t y12 y13 y14 ∧ d = .lst (ls.map .str) ∧ ls.length ≤ 9 + j ∧ ∀ p ∈ ls, LineOK (bd j) p
  tk : Take (b + 2 * j) 0 O
theorem law_turn {j : Nat} {L : Loc} (hj : j < 2) (hb : b ≤ 900) (h : TI b c zs y5 nt num mn t y12 j L O) : ∃ L' O', turnOf (bName 9) tT (.int (j : Int)) L O = .next L' O' ∧ TI b c zs y5 nt num mn t y12 (j + 1) L' O' := by
  obtain ⟨⟨d, ls, y9, y13, y14, rfl, rfl, hl, ok⟩, tk⟩ := h
  have hbd : 20 ≤ bd j ∧ bd j ≤ 152 ∧ bd (j + 1) = 3 * bd j + 2 := by
    rcases (by omega : j = 0 ∨ j = 1) with rfl | rfl
    · exact ⟨by decide, by decide, rfl⟩
    · exact ⟨by decide, by decide, rfl⟩
  have il : IsL O (.lst (ls.map .str)) ls := .inl rfl
  have ne := il.neNil fun p hp => (ok p hp).ok
  have s0 : ∃ (ls' : List Str) (O1 : Store), t0 (LL c zs y5 nt num mn (some (.int (j : Int))) (.lst (ls.map .str)) t y12 y13 y14) O = .next (LL c zs y5 nt num mn (some (.int (j : Int))) (.lst (ls'.map .str)) t y12 y13 y14) O1 ∧ ls'.length ≤ 9 + (j + 1) ∧ (∀ p ∈ ls', LineOK (bd (j + 1)) p) ∧ Take (b + 2 * (j + 1)) 0 O1 := by
    by_cases h0 : ls = []
    · subst h0
      have ne' : gNe O (.lst []) (.lst []) = some (.bl false, O) := ne
      refine ⟨[], O, ?_, by simp, fun p hp => absurd hp List.not_mem_nil, tmono (by omega) tk⟩
      simp [runF, sSeq, sIf, sNext, sDrop, sRet, sRetN, sAsg, ofRes, ofB, bName, bNil, bCons, bTup, bLst, bSubL, mTest, mOp, mVar, mC, mChain, mAnd, mOr, mNot, mIf, mAndV, mOrV, mNotV, mNeg, mCons, mNil, mTup, mLst, newL, mCall, mFn, arity, g1, g2, gLen, gInt, gAbs, gMax2, gMin2, gIx, seqOf, lsqOf, lstOf, Res.bind, ofO, gAdd_ok, gSub_ok, gEq_int, gNe_int, gLt_int, gLe_int, gGt_int, gGe_int, gEq_bl, gNe_bl, gEq_str, gNe_str, mIsi, mIsiT, tyD, kitL, kitTab, atI_c0, atI_c1, atI_c2, atI_c3, atI_c4, sForR1, int1, int2, mMeth, mMake, mFld, sFldM, gIs, gIsNot, isNon_t, sRaise, gList, newLO, ne']
    · obtain ⟨ls', O1, e, h1, h2, h3, h4⟩ := spoilt_ok (m := bd j) tk (by omega) il h0 (by omega) hbd.1 (by omega) ok
      rw [decide_eq_false h0] at ne
      refine ⟨ls', O1, ?_, by omega, fun p hp => by rw [hbd.2.2]; exact h2 p hp, h3⟩
      generalize ls'.map D.str = z1 at *
      generalize ls.map D.str = z2 at *
      simp [runF, sSeq, sIf, sNext, sDrop, sRet, sRetN, sAsg, ofRes, ofB, bName, bNil, bCons, bTup, bLst, bSubL, mTest, mOp, mVar, mC, mChain, mAnd, mOr, mNot, mIf, mAndV, mOrV, mNotV, mNeg, mCons, mNil, mTup, mLst, newL, mCall, mFn, arity, g1, g2, gLen, gInt, gAbs, gMax2, gMin2, gIx, seqOf, lsqOf, lstOf, Res.bind, ofO, gAdd_ok, gSub_ok, gEq_int, gNe_int, gLt_int, gLe_int, gGt_int, gGe_int, gEq_bl, gNe_bl, gEq_str, gNe_str, mIsi, mIsiT, tyD, kitL, kitTab, atI_c0, atI_c1, atI_c2, atI_c3, atI_c4, sForR1, int1, int2, mMeth, mMake, mFld, sFldM, gIs, gIsNot, isNon_t, sRaise, gList, newLO, ne, e]
  obtain ⟨ls', O1, s0, hl', ok', tk1⟩ := s0
  have il' : IsL O1 (.lst (ls'.map .str)) ls' := .inl rfl
  have m9 : bd (j + 1) ≤ 900 := by omega
  have len9 : ∀ p ∈ ls', p.length ≤ 900 := fun p hp => by have := (ok' p hp).len; omega
  have je : ∀ y13 y14, jnE (LL c zs y5 nt num mn (some (.int (j : Int))) (.lst (ls'.map .str)) t y12 y13 y14) O1 = .ok (.str (txt ls')) O1 := fun y13 y14 => nl_ok (d := .lst (ls'.map .str)) (src := mVar 10) (i := 15) rfl il' (by simp) (by omega) ok' m9
  have fin : ∃ y13' y14' O2, sSeq t1 (sSeq t2 t3) (LL c zs y5 nt num mn (some (.int (j : Int))) (.lst (ls'.map .str)) t y12 y13 y14) O1 = .next (LL c zs y5 nt num mn (some (.int (j : Int))) (.lst (ls'.map .str)) t y12 y13' y14') O2 ∧ Fz O1 O2 := by
    have rd : ∀ (v : Int) (r : D) (O2 : Store), f_law_read [.str (txt ls')] O1 = .ok r O2 → t2 (LL c zs y5 nt num mn (some (.int (j : Int))) (.lst (ls'.map .str)) t y12 (some (.int v)) y14) O1 = .next (LL c zs y5 nt num mn (some (.int (j : Int))) (.lst (ls'.map .str)) t y12 (some (.int v)) (some r)) O2 := fun v r O2 e => by
      have je := je (some (.int v)) y14
      show sAsg (mFn (arity 1 f_law_read) [] (mCons jnE mNil)) (bName 14) _ _ = _
      generalize jnE = jj at *
      generalize ls'.map D.str = z1 at *
      simp [runF, sSeq, sIf, sNext, sDrop, sRet, sRetN, sAsg, ofRes, ofB, bName, bNil, bCons, bTup, bLst, bSubL, mTest, mOp, mVar, mC, mChain, mAnd, mOr, mNot, mIf, mAndV, mOrV, mNotV, mNeg, mCons, mNil, mTup, mLst, newL, mCall, mFn, arity, g1, g2, gLen, gInt, gAbs, gMax2, gMin2, gIx, seqOf, lsqOf, lstOf, Res.bind, ofO, gAdd_ok, gSub_ok, gEq_int, gNe_int, gLt_int, gLe_int, gGt_int, gGe_int, gEq_bl, gNe_bl, gEq_str, gNe_str, mIsi, mIsiT, tyD, kitL, kitTab, atI_c0, atI_c1, atI_c2, atI_c3, atI_c4, sForR1, int1, int2, mMeth, mMake, mFld, sFldM, gIs, gIsNot, isNon_t, sRaise, gList, newLO, je, e]
    rcases due_ok (O := O1) (ls := ls') (by omega) len9 (fun p hp => (ok' p hp).ok) with ⟨f, e1⟩ | ⟨m, bm, e1⟩ <;> rcases read_ln (O := O1) ok' m9 (by omega) with ⟨f', _, e2⟩ | ⟨k, O', bk, e2, fz⟩
    · have a2 := rd 0 _ _ e2
      have fl := fine_len f
      refine ⟨some (.int 0), some (.tup [.int (headS ls').1, .int (headS ls').2, .hdl O1.length]), O1 ++ [.lst ((rowsTo ls' ls'.length).map rnD)], ?_, fz_app⟩
      have a1 : t1 (LL c zs y5 nt num mn (some (.int (j : Int))) (.lst (ls'.map .str)) t y12 y13 y14) O1 = .next (LL c zs y5 nt num mn (some (.int (j : Int))) (.lst (ls'.map .str)) t y12 (some (.int 0)) y14) O1 := by
        generalize ls'.map D.str = z1 at *
        simp [runF, sSeq, sIf, sNext, sDrop, sRet, sRetN, sAsg, ofRes, ofB, bName, bNil, bCons, bTup, bLst, bSubL, mTest, mOp, mVar, mC, mChain, mAnd, mOr, mNot, mIf, mAndV, mOrV, mNotV, mNeg, mCons, mNil, mTup, mLst, newL, mCall, mFn, arity, g1, g2, gLen, gInt, gAbs, gMax2, gMin2, gIx, seqOf, lsqOf, lstOf, Res.bind, ofO, gAdd_ok, gSub_ok, gEq_int, gNe_int, gLt_int, gLe_int, gGt_int, gGe_int, gEq_bl, gNe_bl, gEq_str, gNe_str, mIsi, mIsiT, tyD, kitL, kitTab, atI_c0, atI_c1, atI_c2, atI_c3, atI_c4, sForR1, int1, int2, mMeth, mMake, mFld, sFldM, gIs, gIsNot, isNon_t, sRaise, gList, newLO, e1]
      rw [seq_next a1, seq_next a2]
      have gl : gLen (O1 ++ [.lst ((rowsTo ls' ls'.length).map rnD)]) (.hdl O1.length) = some (.int ((rowsTo ls' ls'.length).length : Int), O1 ++ [.lst ((rowsTo ls' ls'.length).map rnD)]) := by simp [gLen]
      have gl2 : gLen (O1 ++ [.lst ((rowsTo ls' ls'.length).map rnD)]) (.lst (ls'.map .str)) = some (.int (ls'.length : Int), O1 ++ [.lst ((rowsTo ls' ls'.length).map rnD)]) := by simp [gLen, seqOf, lsqOf, lstOf]
      have hh : ((rowsTo ls' ls'.length).length : Int) = (ls'.length : Int) - 1 := by omega
      rw [hh] at gl
      clear a1 a2 rd e1 e2 je s0 ne
      generalize O1 ++ [Ob.lst ((rowsTo ls' ls'.length).map rnD)] = Q at *
      generalize (ls'.length : Int) = ln at *
      generalize ls'.map D.str = z1 at *
      generalize (headS ls').1 = h1 at *
      generalize (headS ls').2 = h2 at *
      generalize O1.length = p at *
      have i2 : gIx Q (.tup [.int h1, .int h2, .hdl p]) (.int 2) = some (.hdl p, Q) := rfl
      have ns : gNe Q (.int (ln - 1)) (.int (ln - 1)) = some (.bl false, Q) := by rw [gNe_int]; simp
      simp [sIf, sNext, sRet, mOr, mAnd, mTest, mOp, mIsi, tyD, kitL, kitTab, mCall, DK.g1, mCons, mNil, mVar, mC, ofRes, ofO, Res.bind, gGt_int, gEq_int, gSub_ok, i2, gl, gl2, ns]
    · exact absurd f (fun f => bad_fine bk f)
    · exact absurd f' (fun f => bad_fine bm f)
    · have hk : m = k := bad_uniq bm bk
      subst hk
      have hp := (bad_pos bm).1
      have hp2 : (0 : Int) < (m : Int) := by omega
      have hp3 : ¬ (m : Int) = 0 := by omega
      have ne2 := neLI (O := O') (v := (m : Int))
      have a2 := rd (m : Int) _ _ e2
      refine ⟨some (.int (m : Int)), some (.lst [.int (m : Int)]), O', ?_, fz⟩
      clear rd je s0 ne e2
      generalize (m : Int) = mm at *
      have a1 : t1 (LL c zs y5 nt num mn (some (.int (j : Int))) (.lst (ls'.map .str)) t y12 y13 y14) O1 = .next (LL c zs y5 nt num mn (some (.int (j : Int))) (.lst (ls'.map .str)) t y12 (some (.int mm)) y14) O1 := by
        clear a2
        generalize ls'.map D.str = z1 at *
        simp [runF, sSeq, sIf, sNext, sDrop, sRet, sRetN, sAsg, ofRes, ofB, bName, bNil, bCons, bTup, bLst, bSubL, mTest, mOp, mVar, mC, mChain, mAnd, mOr, mNot, mIf, mAndV, mOrV, mNotV, mNeg, mCons, mNil, mTup, mLst, newL, mCall, mFn, arity, g1, g2, gLen, gInt, gAbs, gMax2, gMin2, gIx, seqOf, lsqOf, lstOf, Res.bind, ofO, gAdd_ok, gSub_ok, gEq_int, gNe_int, gLt_int, gLe_int, gGt_int, gGe_int, gEq_bl, gNe_bl, gEq_str, gNe_str, mIsi, mIsiT, tyD, kitL, kitTab, atI_c0, atI_c1, atI_c2, atI_c3, atI_c4, sForR1, int1, int2, mMeth, mMake, mFld, sFldM, gIs, gIsNot, isNon_t, sRaise, gList, newLO, e1]
      rw [seq_next a1, seq_next a2]
      clear a1 a2 e1
      generalize ls'.map D.str = z1 at *
      simp [runF, sSeq, sIf, sNext, sDrop, sRet, sRetN, sAsg, ofRes, ofB, bName, bNil, bCons, bTup, bLst, bSubL, mTest, mOp, mVar, mC, mChain, mAnd, mOr, mNot, mIf, mAndV, mOrV, mNotV, mNeg, mCons, mNil, mTup, mLst, newL, mCall, mFn, arity, g1, g2, gLen, gInt, gAbs, gMax2, gMin2, gIx, seqOf, lsqOf, lstOf, Res.bind, ofO, gAdd_ok, gSub_ok, gEq_int, gNe_int, gLt_int, gLe_int, gGt_int, gGe_int, gEq_bl, gNe_bl, gEq_str, gNe_str, mIsi, mIsiT, tyD, kitL, kitTab, atI_c0, atI_c1, atI_c2, atI_c3, atI_c4, sForR1, int1, int2, mMeth, mMake, mFld, sFldM, gIs, gIsNot, isNon_t, sRaise, gList, newLO, hp2, hp3, ne2]
  obtain ⟨y13', y14', O2, e, f⟩ := fin
  refine ⟨LL c zs y5 nt num mn (some (.int (j : Int))) (.lst (ls'.map .str)) t y12 y13' y14', O2, ?_, ⟨⟨_, ls', _, _, _, rfl, rfl, hl', ok'⟩, tk1.fz f⟩⟩
  show sSeq t0 (sSeq t1 (sSeq t2 t3)) (LL c zs y5 nt num mn (some (.int (j : Int))) (.lst (ls.map .str)) t y12 y13 y14) O = _
  rw [seq_next s0, e]
end
end DK.k48
end
section
set_option Elab.async false
set_option linter.all false
set_option autoImplicit false
set_option maxRecDepth 100000
set_option maxHeartbeats 4000000
/-! K48Law: the law holds. -/
namespace DK.k48
open PySem L2 DK DK.Sp DK.Rd DK.Lc DK.Ln
open DK.W (LandAt Wd WOK landO nmsW kindD NAMES STN DKv setT Mins TabAt rowsW rowD optI dicS)
abbrev S5 : List Str := ["ash", "bay", "elm", "fir", "gum"]
abbrev lw1 : SM := (sAsg (mSl false (mLst false (mCons (mC (.str "ash")) (mCons (mC (.str "bay")) (mCons (mC (.str "elm")) (mCons (mC (.str "fir")) (mCons (mC (.str "gum")) mNil)))))) oNone (oSome (mOp (gAdd false) (mC (.int 1)) (mFn (arity 2 f_law_take) [] (mCons (mVar 1) (mCons (mC (.int 5)) mNil)))))) (bName 2))
abbrev lw2 : SM := (sAsg (mMake "Land" (arity 1 f_land_init) [] mNil) (bName 3))
abbrev lw3 : SM := (sAsg mDNew (bName 4))
abbrev lw5 : SM := (sAsg (mMake "Notices" (arity 2 f_notices_init) [] (mCons (mVar 2) mNil)) (bName 6))
abbrev lw6 : SM := (sAsg (mFn (arity 2 f_law_take) [] (mCons (mVar 1) (mCons (mC (.int 3)) mNil))) (bName 7))
abbrev lw7 : SM := (sAsg (mFn (arity 2 f_law_take) [] (mCons (mVar 1) (mCons (mC (.int 3000)) mNil))) (bName 8))
abbrev lw9 : SM := (sAsg (mLst false (mCons (mOp (gAdd false) (mOp (gAdd false) (mOp (gAdd false) (mC (.str "notice ")) (mCall (g1 gStr) (mCons (mVar 7) mNil))) (mC (.str " at "))) (mCall (g1 gStr) (mCons (mVar 8) mNil))) mNil)) (bName 10))
abbrev lcE : EM := (mLcL false (mVar 2) [5] (bName 5) mYes (mOp (gAdd false) (mOp (gAdd false) (mVar 5) (mC (.str " "))) (mIf (mTest (mDIn false (mVar 5) (mVar 4))) (mC (.str "never")) (mCall (DK.g1 gStr) (mCons (mDGet (mVar 4) (mVar 5)) mNil)))))
abbrev lw10 : SM := (sAsg (mOp (gAdd false) (mVar 10) lcE) (bName 10))
abbrev lw11 : SM := sAsg jnE (bName 11)
abbrev rwE : EM := (mLcL false (mVar 2) [5] (bName 5) mYes (mTup (mCons (mVar 5) (mCons (mDGet1 (mVar 4) (mVar 5)) mNil))))
abbrev lw12 : SM := sAsg rwE (bName 12)
abbrev lw13 : SM := (sIf (mOr (mTest (mOp gNe (mMeth "Notices" "text" (arity 2 f_notices_text) [] (mVar 6) (mCons (mVar 7) mNil)) (mVar 11))) (mTest (mOp gNe (mFn (arity 1 f_read_notice) [] (mCons (mVar 11) mNil)) (mTup (mCons (mVar 7) (mCons (mVar 8) (mCons (mVar 12) mNil))))))) (sRet (mC (.bl false))) sNext)
abbrev lw15 : SM := (sRet (mAndV (mOp gEq (mFn (arity 1 f_law_read) [] (mCons (mSl false (mVar 11) oNone (oSome (mNeg (mC (.int 1))))) mNil)) (mLst false (mCons (mOp (gAdd false) (mCall (g1 gLen) (mCons (mVar 2) mNil)) (mC (.int 1))) mNil))) (mOp gEq (mFn (arity 1 f_law_read) [] (mCons (mC (.str "")) mNil)) (mLst false (mCons (mC (.int 1)) mNil)))))
theorem law_is : b_law = sSeq (sAsg (mLst true (mCons (mVar 0) (mCons (mC (.int 0)) (mCons (mC (.int 0)) mNil)))) (bName 1)) (sSeq lw1 (sSeq lw2 (sSeq lw3 (sSeq (sForL (mVar 2) (bName 5) stT) (sSeq lw5 (sSeq lw6 (sSeq lw7 (sSeq (sForR1 (mCons (mOp (gAdd false) (mVar 7) (mC (.int 1))) mNil) (bName 9) pbB) (sSeq lw9 (sSeq lw10 (sSeq lw11 (sSeq lw12 (sSeq lw13 (sSeq (sForR1 (mCons (mC (.int 2)) mNil) (bName 9) tT) lw15)))))))))))))) := rfl
section
variable {O : Store} {b nt : Nat} {S : List Str} {t : Str} {c d : D} {y5 y9 : Option D} {num mn : Int} {τ : Str → Option Int} {kv : List (Key × D)}
abbrev L2 (c : D) (zs : List D) (y5 : Option D) (nt : Nat) (num mn : Int) (y9 d11 d12 d13 : Option D) : Loc := [some c, some (.hdl 0), some (.lst zs), some (.hdl 1), some (.hdl 6), y5, some (.hdl nt), some (.int num), some (.int mn), y9, d11, d12, d13, none, none, none]
theorem lines_ok (hS : S.Sublist STN) (g6 : O[6]? = some (.dct kv)) (dk : DKv τ kv) (bd : ∀ x v, τ x = some v → 0 ≤ v ∧ v ≤ 1000000) {d11 d12 d13 : Option D} : lcE (L2 c (S.map .str) y5 nt num mn y9 d11 d12 d13) O = .ok (.lst ((S.map fun x => lnR (x, τ x)).map .str)) O := by
  have hl6 : S.length ≤ 6 := hS.length_le
  have e := lcS (src := mVar 2) (i := 5) (el := mOp (gAdd false) (mOp (gAdd false) (mVar 5) (mC (.str " "))) (mIf (mTest (mDIn false (mVar 5) (mVar 4))) (mC (.str "never")) (mCall (DK.g1 gStr) (mCons (mDGet (mVar 4) (mVar 5)) mNil)))) (L := L2 c (S.map .str) y5 nt num mn y9 d11 d12 d13) (O := O) (S := S) (g := fun x => .str (lnR (x, τ x))) rfl (by simp) (by omega) fun x hx => by
    have v := dk.v x
    have xl : x.length ≤ 12 := (nameB_len (stn_name x (hS.subset hx))).2
    have b1 := gAdd_str (O := O) (h := false) (a := x) (b := " ") (by show _ + 1 ≤ _; omega)
    have tvl := (tv_line (o := τ x) (fun v hv => bd x v hv)).len
    have b2 := gAdd_str (O := O) (h := false) (a := x ++ " ") (b := tvS (τ x)) (by rw [Str.length_append]; show _ + 1 + _ ≤ _; omega)
    show _ = Res.ok (D.str (x ++ " " ++ tvS (τ x))) O
    cases hτ : τ x with
    | none =>
      rw [hτ] at v b2
      have b2 : gAdd false O (.str (x ++ " ")) (.str "never") = some (.str (x ++ " " ++ "never"), O) := b2
      show _ = Res.ok (D.str (x ++ " " ++ "never")) O
      have v : valD kv (.inr x) = none := v
      generalize S.map D.str = zs at *
      simp [mDIn, mDGet, dctOf, keyD, runF, sSeq, sIf, sNext, sDrop, sRet, sRetN, sAsg, ofRes, ofB, bName, bNil, bCons, bTup, bLst, bSubL, mTest, mOp, mVar, mC, mChain, mAnd, mOr, mNot, mIf, mAndV, mOrV, mNotV, mNeg, mCons, mNil, mTup, mLst, newL, mCall, mFn, arity, g1, g2, gLen, gInt, gAbs, gMax2, gMin2, gIx, seqOf, lsqOf, lstOf, Res.bind, ofO, gAdd_ok, gSub_ok, gEq_int, gNe_int, gLt_int, gLe_int, gGt_int, gGe_int, gEq_bl, gNe_bl, gEq_str, gNe_str, mIsi, mIsiT, tyD, kitL, kitTab, atI_c0, atI_c1, atI_c2, atI_c3, atI_c4, sForR1, int1, int2, mMeth, mMake, mFld, sFldM, gIs, gIsNot, isNon_t, sRaise, gList, newLO, wipeL, g6, v, b1, b2]
    | some w =>
      rw [hτ] at v b2
      have w01 := bd x w hτ
      have s1 := gStr_ok (O := O) w01.1 (by omega)
      have b2 : gAdd false O (.str (x ++ " ")) (.str (strN w)) = some (.str (x ++ " " ++ strN w), O) := b2
      show _ = Res.ok (D.str (x ++ " " ++ strN w)) O
      have v : valD kv (.inr x) = some (.int w) := v
      generalize strN w = sw at *
      generalize S.map D.str = zs at *
      simp [mDIn, mDGet, dctOf, keyD, runF, sSeq, sIf, sNext, sDrop, sRet, sRetN, sAsg, ofRes, ofB, bName, bNil, bCons, bTup, bLst, bSubL, mTest, mOp, mVar, mC, mChain, mAnd, mOr, mNot, mIf, mAndV, mOrV, mNotV, mNeg, mCons, mNil, mTup, mLst, newL, mCall, mFn, arity, g1, g2, gLen, gInt, gAbs, gMax2, gMin2, gIx, seqOf, lsqOf, lstOf, Res.bind, ofO, gAdd_ok, gSub_ok, gEq_int, gNe_int, gLt_int, gLe_int, gGt_int, gGe_int, gEq_bl, gNe_bl, gEq_str, gNe_str, mIsi, mIsiT, tyD, kitL, kitTab, atI_c0, atI_c1, atI_c2, atI_c3, atI_c4, sForR1, int1, int2, mMeth, mMake, mFld, sFldM, gIs, gIsNot, isNon_t, sRaise, gList, newLO, wipeL, g6, v, b1, b2, s1]
  rw [show (S.map fun x => lnR (x, τ x)).map D.str = S.map fun x => D.str (lnR (x, τ x)) by rw [List.map_map]; rfl]
  exact e
theorem rows_ok (hS : S.Sublist STN) (g6 : O[6]? = some (.dct kv)) (dk : DKv τ kv) {d11 d12 d13 : Option D} : rwE (L2 c (S.map .str) y5 nt num mn y9 d11 d12 d13) O = .ok (.lst ((S.map fun x => (x, τ x)).map rnD)) O := by
  have hl6 : S.length ≤ 6 := hS.length_le
  have e := lcS (src := mVar 2) (i := 5) (el := mTup (mCons (mVar 5) (mCons (mDGet1 (mVar 4) (mVar 5)) mNil))) (L := L2 c (S.map .str) y5 nt num mn y9 d11 d12 d13) (O := O) (S := S) (g := fun x => rnD (x, τ x)) rfl (by simp) (by omega) fun x hx => by
    have v := dk.v x
    show _ = Res.ok (D.tup [.str x, optN (τ x)]) O
    cases hτ : τ x with
    | none =>
      rw [hτ] at v
      have v : valD kv (.inr x) = none := v
      generalize S.map D.str = zs at *
      simp [mDGet1, dctOf, keyD, runF, sSeq, sIf, sNext, sDrop, sRet, sRetN, sAsg, ofRes, ofB, bName, bNil, bCons, bTup, bLst, bSubL, mTest, mOp, mVar, mC, mChain, mAnd, mOr, mNot, mIf, mAndV, mOrV, mNotV, mNeg, mCons, mNil, mTup, mLst, newL, mCall, mFn, arity, g1, g2, gLen, gInt, gAbs, gMax2, gMin2, gIx, seqOf, lsqOf, lstOf, Res.bind, ofO, gAdd_ok, gSub_ok, gEq_int, gNe_int, gLt_int, gLe_int, gGt_int, gGe_int, gEq_bl, gNe_bl, gEq_str, gNe_str, mIsi, mIsiT, tyD, kitL, kitTab, atI_c0, atI_c1, atI_c2, atI_c3, atI_c4, sForR1, int1, int2, mMeth, mMake, mFld, sFldM, gIs, gIsNot, isNon_t, sRaise, gList, newLO, wipeL, g6, v, optN]
    | some w =>
      rw [hτ] at v
      have v : valD kv (.inr x) = some (.int w) := v
      generalize S.map D.str = zs at *
      simp [mDGet1, dctOf, keyD, runF, sSeq, sIf, sNext, sDrop, sRet, sRetN, sAsg, ofRes, ofB, bName, bNil, bCons, bTup, bLst, bSubL, mTest, mOp, mVar, mC, mChain, mAnd, mOr, mNot, mIf, mAndV, mOrV, mNotV, mNeg, mCons, mNil, mTup, mLst, newL, mCall, mFn, arity, g1, g2, gLen, gInt, gAbs, gMax2, gMin2, gIx, seqOf, lsqOf, lstOf, Res.bind, ofO, gAdd_ok, gSub_ok, gEq_int, gNe_int, gLt_int, gLe_int, gGt_int, gGe_int, gEq_bl, gNe_bl, gEq_str, gNe_str, mIsi, mIsiT, tyD, kitL, kitTab, atI_c0, atI_c1, atI_c2, atI_c3, atI_c4, sForR1, int1, int2, mMeth, mMake, mFld, sFldM, gIs, gIsNot, isNon_t, sRaise, gList, newLO, wipeL, g6, v, optN]
  rw [show (S.map fun x => (x, τ x)).map rnD = S.map fun x => rnD (x, τ x) by rw [List.map_map]; rfl]
  exact e
theorem asc_rows (hS : S.Sublist STN) : (S.map fun x => ((x, τ x) : RN)).Pairwise fun a b => ltN a b = true := by
  rw [List.pairwise_map]
  have key : STN.Pairwise fun a b => PySem.W.dataLt (.str a) (.str b) = true := by decide +kernel
  exact key.sublist hS
end
theorem law_holds (ns : List Int) (hl : ns.length ≤ 63) : ∃ O, f_law [.rol (ns.map D.int)] [] = .ok (.bl true) O := by
  generalize hcc : D.rol (ns.map D.int) = c
  have tk0 : Take 0 0 [.lst [c, .int 0, .int 0]] := ⟨ns, 0, 0, by rw [← hcc]; rfl, by omega, by omega, by omega, by omega⟩
  have a0 : sAsg (mLst true (mCons (mVar 0) (mCons (mC (.int 0)) (mCons (mC (.int 0)) mNil)))) (bName 1) [some c, none, none, none, none, none, none, none, none, none, none, none, none, none, none, none] [] = .next [some c, some (.hdl 0), none, none, none, none, none, none, none, none, none, none, none, none, none, none] [.lst [c, .int 0, .int 0]] := by simp [runF, sSeq, sIf, sNext, sDrop, sRet, sRetN, sAsg, ofRes, ofB, bName, bNil, bCons, bTup, bLst, bSubL, mTest, mOp, mVar, mC, mChain, mAnd, mOr, mNot, mIf, mAndV, mOrV, mNotV, mNeg, mCons, mNil, mTup, mLst, newL, mCall, mFn, arity, g1, g2, gLen, gInt, gAbs, gMax2, gMin2, gIx, seqOf, lsqOf, lstOf, Res.bind, ofO, gAdd_ok, gSub_ok, gEq_int, gNe_int, gLt_int, gLe_int, gGt_int, gGe_int, gEq_bl, gNe_bl, gEq_str, gNe_str, mIsi, mIsiT, tyD, kitL, kitTab, atI_c0, atI_c1, atI_c2, atI_c3, atI_c4, sForR1, int1, int2, mMeth, mMake, mFld, sFldM, gIs, gIsNot, isNon_t, sRaise, gList, newLO]
  obtain ⟨v, O1, e1, v0, v1, k1, f1, l1⟩ := tk1 (m := 5) tk0 (by omega) (by omega) (by omega)
  rw [← y_take] at e1
  obtain ⟨a, rfl⟩ := Int.eq_ofNat_of_zero_le v0
  obtain ⟨S, hSd⟩ : ∃ S, S = S5.take (1 + a) := ⟨_, rfl⟩
  have hS : S.Sublist STN := by rw [hSd]; exact (List.take_sublist _ _).trans (by decide +kernel)
  have hSl : S.length = 1 + a := by rw [hSd, List.length_take]; show min _ 5 = _; omega
  have S6 : S.length ≤ 6 := hS.length_le
  have a1 : lw1 [some c, some (.hdl 0), none, none, none, none, none, none, none, none, none, none, none, none, none, none] [.lst [c, .int 0, .int 0]] = .next [some c, some (.hdl 0), some (.lst (S.map .str)), none, none, none, none, none, none, none, none, none, none, none, none, none] O1 := by
    have sl := IsL.to (O := O1) (d := .lst (S5.map .str)) (ls := S5) (a := 1 + a) (.inl rfl) (by show _ ≤ 5; omega) (by decide)
    rw [← hSd] at sl
    rw [show ((1 + a : Nat) : Int) = 1 + (a : Int) by omega] at sl
    have sl : gSl false (.lst [.str "ash", .str "bay", .str "elm", .str "fir", .str "gum"]) none (some (1 + (a : Int))) O1 = .ok (.lst (S.map .str)) O1 := sl
    generalize S.map D.str = zs at *
    generalize (a : Int) = ai at *
    simp [mSl, oNone, oSome, runF, sSeq, sIf, sNext, sDrop, sRet, sRetN, sAsg, ofRes, ofB, bName, bNil, bCons, bTup, bLst, bSubL, mTest, mOp, mVar, mC, mChain, mAnd, mOr, mNot, mIf, mAndV, mOrV, mNotV, mNeg, mCons, mNil, mTup, mLst, newL, mCall, mFn, arity, g1, g2, gLen, gInt, gAbs, gMax2, gMin2, gIx, seqOf, lsqOf, lstOf, Res.bind, ofO, gAdd_ok, gSub_ok, gEq_int, gNe_int, gLt_int, gLe_int, gGt_int, gGe_int, gEq_bl, gNe_bl, gEq_str, gNe_str, mIsi, mIsiT, tyD, kitL, kitTab, atI_c0, atI_c1, atI_c2, atI_c3, atI_c4, sForR1, int1, int2, mMeth, mMake, mFld, sFldM, gIs, gIsNot, isNon_t, sRaise, gList, newLO, e1, sl]
  have lO1 : O1.length = 1 := by rw [l1]; rfl
  have a2 : lw2 [some c, some (.hdl 0), some (.lst (S.map .str)), none, none, none, none, none, none, none, none, none, none, none, none, none] O1 = .next [some c, some (.hdl 0), some (.lst (S.map .str)), some (.hdl 1), none, none, none, none, none, none, none, none, none, none, none, none] (O1 ++ [landO 2 3 4 5, .lst [], .dct [], .dct [], .lst []]) := by
    have q := W.init_ok (O := O1)
    rw [← z_linit, lO1] at q
    generalize S.map D.str = zs at *
    simp [runF, sSeq, sIf, sNext, sDrop, sRet, sRetN, sAsg, ofRes, ofB, bName, bNil, bCons, bTup, bLst, bSubL, mTest, mOp, mVar, mC, mChain, mAnd, mOr, mNot, mIf, mAndV, mOrV, mNotV, mNeg, mCons, mNil, mTup, mLst, newL, mCall, mFn, arity, g1, g2, gLen, gInt, gAbs, gMax2, gMin2, gIx, seqOf, lsqOf, lstOf, Res.bind, ofO, gAdd_ok, gSub_ok, gEq_int, gNe_int, gLt_int, gLe_int, gGt_int, gGe_int, gEq_bl, gNe_bl, gEq_str, gNe_str, mIsi, mIsiT, tyD, kitL, kitTab, atI_c0, atI_c1, atI_c2, atI_c3, atI_c4, sForR1, int1, int2, mMeth, mMake, mFld, sFldM, gIs, gIsNot, isNon_t, sRaise, gList, newLO, lO1, q]
  have a3 : lw3 [some c, some (.hdl 0), some (.lst (S.map .str)), some (.hdl 1), none, none, none, none, none, none, none, none, none, none, none, none] (O1 ++ [landO 2 3 4 5, .lst [], .dct [], .dct [], .lst []]) = .next (L16 c S none) ((O1 ++ [landO 2 3 4 5, .lst [], .dct [], .dct [], .lst []]) ++ [.dct []]) := by
    simp [mDNew, runF, sSeq, sIf, sNext, sDrop, sRet, sRetN, sAsg, ofRes, ofB, bName, bNil, bCons, bTup, bLst, bSubL, mTest, mOp, mVar, mC, mChain, mAnd, mOr, mNot, mIf, mAndV, mOrV, mNotV, mNeg, mCons, mNil, mTup, mLst, newL, mCall, mFn, arity, g1, g2, gLen, gInt, gAbs, gMax2, gMin2, gIx, seqOf, lsqOf, lstOf, Res.bind, ofO, gAdd_ok, gSub_ok, gEq_int, gNe_int, gLt_int, gLe_int, gGt_int, gGe_int, gEq_bl, gNe_bl, gEq_str, gNe_str, mIsi, mIsiT, tyD, kitL, kitTab, atI_c0, atI_c1, atI_c2, atI_c3, atI_c4, sForR1, int1, int2, mMeth, mMake, mFld, sFldM, gIs, gIsNot, isNon_t, sRaise, gList, newLO, lO1]
  obtain ⟨O3, hO3⟩ : ∃ O3, O3 = (O1 ++ [landO 2 3 4 5, .lst [], .dct [], .dct [], .lst []]) ++ [Ob.dct []] := ⟨_, rfl⟩
  have g3 : ∀ i, O3[1 + i]? = [landO 2 3 4 5, .lst [], .dct [], .dct [], .lst [], Ob.dct []][i]? := fun i => by
    rw [hO3, List.append_assoc, List.getElem?_append_right (by omega), lO1]
    congr 1
    omega
  rw [← hO3] at a3
  have la3 : LandAt 1 2 3 4 5 (WS []) O3 := ⟨g3 0, g3 1, g3 2, g3 3, g3 4, by omega, by omega, by omega⟩
  have k3 : Take 1 0 O3 := by rw [hO3]; exact (k1.fz fz_app).fz fz_app
  obtain ⟨L4, O4, e4, si⟩ := st_loop (c := c) (S := S) hS (by omega) la3 (g3 5) (by rw [hO3, List.length_append, List.length_append, lO1]; simp) k3
  obtain ⟨⟨s, y5, τ, kv, rfl, la4, hs, g6, dk, dm, bnd, hkv⟩, ln4, k4⟩ := si
  rw [List.take_length] at la4 dm
  have a5 : lw5 [some c, some (.hdl 0), some (.lst (S.map .str)), some (.hdl 1), some (.hdl 6), y5, none, none, none, none, none, none, none, none, none, none] O4 = .next [some c, some (.hdl 0), some (.lst (S.map .str)), some (.hdl 1), some (.hdl 6), y5, some (.hdl O4.length), none, none, none, none, none, none, none, none, none] (O4 ++ [ntO (S.map .str) (O4.length + 1), .lst []]) := by
    have q := ninit_ok (O := O4) hS (by omega)
    generalize S.map D.str = zs at *
    simp [runF, sSeq, sIf, sNext, sDrop, sRet, sRetN, sAsg, ofRes, ofB, bName, bNil, bCons, bTup, bLst, bSubL, mTest, mOp, mVar, mC, mChain, mAnd, mOr, mNot, mIf, mAndV, mOrV, mNotV, mNeg, mCons, mNil, mTup, mLst, newL, mCall, mFn, arity, g1, g2, gLen, gInt, gAbs, gMax2, gMin2, gIx, seqOf, lsqOf, lstOf, Res.bind, ofO, gAdd_ok, gSub_ok, gEq_int, gNe_int, gLt_int, gLe_int, gGt_int, gGe_int, gEq_bl, gNe_bl, gEq_str, gNe_str, mIsi, mIsiT, tyD, kitL, kitTab, atI_c0, atI_c1, atI_c2, atI_c3, atI_c4, sForR1, int1, int2, mMeth, mMake, mFld, sFldM, gIs, gIsNot, isNon_t, sRaise, gList, newLO, q]
  obtain ⟨nt, hnt⟩ : ∃ nt, nt = O4.length := ⟨_, rfl⟩
  rw [← hnt] at a5
  have f5 : Fz O4 (O4 ++ [ntO (S.map .str) (nt + 1), .lst []]) := fz_app
  have k5 := k4.fz f5
  obtain ⟨num, O6, e6, n0, n1, k6, f6, l6⟩ := tk1 (m := 3) k5 (by omega) (by omega) (by omega)
  obtain ⟨mn, O7, e7, m0, m1, k7, f7, l7⟩ := tk1 (m := 3000) k6 (by omega) (by omega) (by omega)
  rw [← y_take] at e6 e7
  have f57 := f6.trans f7
  have N7 : NotAt nt (nt + 1) S mn [] O7 := ⟨f57.at (by omega) (by rw [List.getElem?_append_right (by omega), ← hnt]; simp), f57.at (by omega) (by rw [List.getElem?_append_right (by omega), ← hnt]; simp)⟩
  have la7 := (la4.fr f5.fr).fr f57
  have g67 := f57.at (by omega) (f5.at g6)
  have lts : s < nt := by have := (List.getElem?_eq_some_iff.mp la4.es).1; omega
  have a6 : lw6 [some c, some (.hdl 0), some (.lst (S.map .str)), some (.hdl 1), some (.hdl 6), y5, some (.hdl nt), none, none, none, none, none, none, none, none, none] (O4 ++ [ntO (S.map .str) (nt + 1), .lst []]) = .next [some c, some (.hdl 0), some (.lst (S.map .str)), some (.hdl 1), some (.hdl 6), y5, some (.hdl nt), some (.int num), none, none, none, none, none, none, none, none] O6 := by
    generalize S.map D.str = zs at *
    simp [runF, sSeq, sIf, sNext, sDrop, sRet, sRetN, sAsg, ofRes, ofB, bName, bNil, bCons, bTup, bLst, bSubL, mTest, mOp, mVar, mC, mChain, mAnd, mOr, mNot, mIf, mAndV, mOrV, mNotV, mNeg, mCons, mNil, mTup, mLst, newL, mCall, mFn, arity, g1, g2, gLen, gInt, gAbs, gMax2, gMin2, gIx, seqOf, lsqOf, lstOf, Res.bind, ofO, gAdd_ok, gSub_ok, gEq_int, gNe_int, gLt_int, gLe_int, gGt_int, gGe_int, gEq_bl, gNe_bl, gEq_str, gNe_str, mIsi, mIsiT, tyD, kitL, kitTab, atI_c0, atI_c1, atI_c2, atI_c3, atI_c4, sForR1, int1, int2, mMeth, mMake, mFld, sFldM, gIs, gIsNot, isNon_t, sRaise, gList, newLO, e6]
  have a7 : lw7 [some c, some (.hdl 0), some (.lst (S.map .str)), some (.hdl 1), some (.hdl 6), y5, some (.hdl nt), some (.int num), none, none, none, none, none, none, none, none] O6 = .next (LP c (S.map .str) y5 nt num mn none) O7 := by
    generalize S.map D.str = zs at *
    simp [runF, sSeq, sIf, sNext, sDrop, sRet, sRetN, sAsg, ofRes, ofB, bName, bNil, bCons, bTup, bLst, bSubL, mTest, mOp, mVar, mC, mChain, mAnd, mOr, mNot, mIf, mAndV, mOrV, mNotV, mNeg, mCons, mNil, mTup, mLst, newL, mCall, mFn, arity, g1, g2, gLen, gInt, gAbs, gMax2, gMin2, gIx, seqOf, lsqOf, lstOf, Res.bind, ofO, gAdd_ok, gSub_ok, gEq_int, gNe_int, gLt_int, gLe_int, gGt_int, gGe_int, gEq_bl, gNe_bl, gEq_str, gNe_str, mIsi, mIsiT, tyD, kitL, kitTab, atI_c0, atI_c1, atI_c2, atI_c3, atI_c4, sForR1, int1, int2, mMeth, mMake, mFld, sFldM, gIs, gIsNot, isNon_t, sRaise, gList, newLO, e7]
  obtain ⟨L8, O8, e8, ⟨⟨R, y9, rfl, N8, hR, hk8⟩, la8, g68, k8⟩⟩ := forR1_keeps (t := mCons (mOp (gAdd false) (mVar 7) (mC (.int 1))) mNil) (b := bName 9) (body := pbB) (L := LP c (S.map .str) y5 nt num mn none) (O := O7) (O1 := O7) (j := num + 1) (I := fun j L O => PBI 100 c S y5 nt s num mn τ kv j L O)
    (by
      generalize S.map D.str = zs at *
      simp [runF, sSeq, sIf, sNext, sDrop, sRet, sRetN, sAsg, ofRes, ofB, bName, bNil, bCons, bTup, bLst, bSubL, mTest, mOp, mVar, mC, mChain, mAnd, mOr, mNot, mIf, mAndV, mOrV, mNotV, mNeg, mCons, mNil, mTup, mLst, newL, mCall, mFn, arity, g1, g2, gLen, gInt, gAbs, gMax2, gMin2, gIx, seqOf, lsqOf, lstOf, Res.bind, ofO, gAdd_ok, gSub_ok, gEq_int, gNe_int, gLt_int, gLe_int, gGt_int, gGe_int, gEq_bl, gNe_bl, gEq_str, gNe_str, mIsi, mIsiT, tyD, kitL, kitTab, atI_c0, atI_c1, atI_c2, atI_c3, atI_c4, sForR1, int1, int2, mMeth, mMake, mFld, sFldM, gIs, gIsNot, isNon_t, sRaise, gList, newLO]) (by omega) (by omega) ⟨⟨[], none, rfl, N7, rfl, fun k hk => absurd hk List.not_mem_nil⟩, la7, g67, tmono (by omega) k7⟩ fun j L O hj h => pb_turn hS lts (by omega) m0 (by omega) dk dm bnd (by omega) (by omega) h
  obtain ⟨i, rfl⟩ := Int.eq_ofNat_of_zero_le n0
  have hR : R.length = i + 1 := by rw [hR]; omega
  obtain ⟨k, hki⟩ : ∃ k, R[i]? = some k := ⟨R[i]'(by omega), List.getElem?_eq_getElem _⟩
  have ek := hk8 k (List.mem_of_getElem? hki)
  -- the lines
  have i0 : (0 : Int) ≤ (i : Int) := by omega
  have hdl := head_ln i0 (show (i : Int) ≤ 1000000 by omega) m0 (show mn ≤ 1000000 by omega)
  have hdE : ("notice " : Str) ++ strN (i : Int) ++ " at " ++ strN mn = headLn (i : Int) mn := rfl
  have a9 : lw9 (LP c (S.map .str) y5 nt (i : Int) mn y9) O8 = .next (L2 c (S.map .str) y5 nt (i : Int) mn y9 (some (.lst [.str (headLn (i : Int) mn)])) none none) O8 := by
    have s1 := gStr_ok (O := O8) i0 (by omega)
    have s2 := gStr_ok (O := O8) m0 (by omega)
    have n1 := strN_len i0 (by omega)
    have n2 := strN_len m0 (by omega)
    have ll : ("notice " : Str).length = 7 ∧ (" at " : Str).length = 4 := ⟨rfl, rfl⟩
    have q1 := gAdd_str (O := O8) (h := false) (a := "notice ") (b := strN (i : Int)) (by omega)
    have q2 := gAdd_str (O := O8) (h := false) (a := "notice " ++ strN (i : Int)) (b := " at ") (by rw [Str.length_append]; omega)
    have q3 := gAdd_str (O := O8) (h := false) (a := "notice " ++ strN (i : Int) ++ " at ") (b := strN mn) (by rw [Str.length_append, Str.length_append]; omega)
    rw [hdE] at q3
    generalize S.map D.str = zs at *
    generalize headLn (i : Int) mn = hh at *
    generalize strN (i : Int) = si at *
    generalize strN mn = sm at *
    simp [runF, sSeq, sIf, sNext, sDrop, sRet, sRetN, sAsg, ofRes, ofB, bName, bNil, bCons, bTup, bLst, bSubL, mTest, mOp, mVar, mC, mChain, mAnd, mOr, mNot, mIf, mAndV, mOrV, mNotV, mNeg, mCons, mNil, mTup, mLst, newL, mCall, mFn, arity, g1, g2, gLen, gInt, gAbs, gMax2, gMin2, gIx, seqOf, lsqOf, lstOf, Res.bind, ofO, gAdd_ok, gSub_ok, gEq_int, gNe_int, gLt_int, gLe_int, gGt_int, gGe_int, gEq_bl, gNe_bl, gEq_str, gNe_str, mIsi, mIsiT, tyD, kitL, kitTab, atI_c0, atI_c1, atI_c2, atI_c3, atI_c4, sForR1, int1, int2, mMeth, mMake, mFld, sFldM, gIs, gIsNot, isNon_t, sRaise, gList, newLO, s1, s2, q1, q2, q3]
  obtain ⟨ls, hls⟩ : ∃ ls, ls = headLn (i : Int) mn :: S.map fun x => lnR (x, τ x) := ⟨_, rfl⟩
  have lnl : ∀ x ∈ S, RowOK (x, τ x) := fun x hx => ⟨stn_name x (hS.subset hx), fun v hv => bnd x v hv⟩
  have okl : ∀ p ∈ ls, LineOK 50 p := fun p hp => by
    rw [hls] at hp
    rcases List.mem_cons.mp hp with rfl | hp
    · exact hdl.mono (by omega)
    · obtain ⟨x, hx, rfl⟩ := List.mem_map.mp hp
      exact (row_line (lnl x hx)).mono (by omega)
  have lsl : ls.length = S.length + 1 := by rw [hls, List.length_cons, List.length_map]
  have a10 : lw10 (L2 c (S.map .str) y5 nt (i : Int) mn y9 (some (.lst [.str (headLn (i : Int) mn)])) none none) O8 = .next (L2 c (S.map .str) y5 nt (i : Int) mn y9 (some (.lst (ls.map .str))) none none) O8 := by
    have q := lines_ok (c := c) (y5 := y5) (nt := nt) (num := (i : Int)) (mn := mn) (y9 := y9) (d11 := some (.lst [.str (headLn (i : Int) mn)])) (d12 := none) (d13 := none) hS g68 dk bnd
    have add := addL (O := O8) (xs := [.str (headLn (i : Int) mn)]) (ys := (S.map fun x => lnR (x, τ x)).map .str) (by simp; omega)
    rw [show [D.str (headLn (i : Int) mn)] ++ (S.map fun x => lnR (x, τ x)).map D.str = (headLn (i : Int) mn :: S.map fun x => lnR (x, τ x)).map .str from rfl, ← hls] at add
    show sAsg (mOp (gAdd false) (mVar 10) lcE) (bName 10) _ _ = _
    generalize lcE = lc at *
    generalize (S.map fun x => lnR (x, τ x)).map D.str = zq at *
    generalize ls.map D.str = zr at *
    generalize S.map D.str = zs at *
    generalize headLn (i : Int) mn = hh at *
    simp [runF, sSeq, sIf, sNext, sDrop, sRet, sRetN, sAsg, ofRes, ofB, bName, bNil, bCons, bTup, bLst, bSubL, mTest, mOp, mVar, mC, mChain, mAnd, mOr, mNot, mIf, mAndV, mOrV, mNotV, mNeg, mCons, mNil, mTup, mLst, newL, mCall, mFn, arity, g1, g2, gLen, gInt, gAbs, gMax2, gMin2, gIx, seqOf, lsqOf, lstOf, Res.bind, ofO, gAdd_ok, gSub_ok, gEq_int, gNe_int, gLt_int, gLe_int, gGt_int, gGe_int, gEq_bl, gNe_bl, gEq_str, gNe_str, mIsi, mIsiT, tyD, kitL, kitTab, atI_c0, atI_c1, atI_c2, atI_c3, atI_c4, sForR1, int1, int2, mMeth, mMake, mFld, sFldM, gIs, gIsNot, isNon_t, sRaise, gList, newLO, q, add]
  have il8 : IsL O8 (.lst (ls.map .str)) ls := .inl rfl
  have a11 : lw11 (L2 c (S.map .str) y5 nt (i : Int) mn y9 (some (.lst (ls.map .str))) none none) O8 = .next (L2 c (S.map .str) y5 nt (i : Int) mn y9 (some (.lst (ls.map .str))) (some (.str (txt ls))) none) O8 := by
    have q : jnE (L2 c (S.map .str) y5 nt (i : Int) mn y9 (some (.lst (ls.map .str))) none none) O8 = .ok (.str (txt ls)) O8 := nl_ok (d := .lst (ls.map .str)) (src := mVar 10) (i := 15) rfl il8 (by simp) (by omega) okl (by omega)
    show sAsg jnE (bName 11) _ _ = _
    generalize jnE = jj at *
    generalize ls.map D.str = zr at *
    generalize S.map D.str = zs at *
    simp [runF, sSeq, sIf, sNext, sDrop, sRet, sRetN, sAsg, ofRes, ofB, bName, bNil, bCons, bTup, bLst, bSubL, mTest, mOp, mVar, mC, mChain, mAnd, mOr, mNot, mIf, mAndV, mOrV, mNotV, mNeg, mCons, mNil, mTup, mLst, newL, mCall, mFn, arity, g1, g2, gLen, gInt, gAbs, gMax2, gMin2, gIx, seqOf, lsqOf, lstOf, Res.bind, ofO, gAdd_ok, gSub_ok, gEq_int, gNe_int, gLt_int, gLe_int, gGt_int, gGe_int, gEq_bl, gNe_bl, gEq_str, gNe_str, mIsi, mIsiT, tyD, kitL, kitTab, atI_c0, atI_c1, atI_c2, atI_c3, atI_c4, sForR1, int1, int2, mMeth, mMake, mFld, sFldM, gIs, gIsNot, isNon_t, sRaise, gList, newLO, q]
  have a12 : lw12 (L2 c (S.map .str) y5 nt (i : Int) mn y9 (some (.lst (ls.map .str))) (some (.str (txt ls))) none) O8 = .next (L2 c (S.map .str) y5 nt (i : Int) mn y9 (some (.lst (ls.map .str))) (some (.str (txt ls))) (some (.lst ((S.map fun x => (x, τ x)).map rnD)))) O8 := by
    have q := rows_ok (c := c) (y5 := y5) (nt := nt) (num := (i : Int)) (mn := mn) (y9 := y9) (d11 := some (.lst (ls.map .str))) (d12 := some (.str (txt ls))) (d13 := none) hS g68 dk
    show sAsg rwE (bName 12) _ _ = _
    generalize rwE = jj at *
    generalize (S.map fun x => ((x, τ x) : RN)).map rnD = zq at *
    generalize ls.map D.str = zr at *
    generalize S.map D.str = zs at *
    simp [runF, sSeq, sIf, sNext, sDrop, sRet, sRetN, sAsg, ofRes, ofB, bName, bNil, bCons, bTup, bLst, bSubL, mTest, mOp, mVar, mC, mChain, mAnd, mOr, mNot, mIf, mAndV, mOrV, mNotV, mNeg, mCons, mNil, mTup, mLst, newL, mCall, mFn, arity, g1, g2, gLen, gInt, gAbs, gMax2, gMin2, gIx, seqOf, lsqOf, lstOf, Res.bind, ofO, gAdd_ok, gSub_ok, gEq_int, gNe_int, gLt_int, gLe_int, gGt_int, gGe_int, gEq_bl, gNe_bl, gEq_str, gNe_str, mIsi, mIsiT, tyD, kitL, kitTab, atI_c0, atI_c1, atI_c2, atI_c3, atI_c4, sForR1, int1, int2, mMeth, mMake, mFld, sFldM, gIs, gIsNot, isNon_t, sRaise, gList, newLO, q]
  -- the text, told and read
  have RN1 : RowsN (S.map fun x => (x, τ x)) := ⟨fun r hr => by obtain ⟨x, hx, rfl⟩ := List.mem_map.mp hr; exact lnl x hx, asc_rows hS⟩
  obtain ⟨fine, hh, hrr⟩ := fine_rows (rows := S.map fun x => (x, τ x)) i0 (show (i : Int) ≤ 1000000 by omega) m0 (show mn ≤ 1000000 by omega) RN1
  have hls2 : headLn (i : Int) mn :: (S.map fun x => ((x, τ x) : RN)).map lnR = ls := by rw [hls, List.map_map]; rfl
  rw [hls2] at fine hh hrr
  have tx := text_ok hS N8 (by omega) hki ek m0 (by omega) bnd (by omega)
  rw [← hls] at tx
  have rd : f_read_notice [.str (txt ls)] O8 = .ok (.tup [.int (i : Int), .int mn, .hdl O8.length]) (O8 ++ [.lst ((S.map fun x => (x, τ x)).map rnD)]) := by
    rcases read_ln (O := O8) okl (by omega) (by omega) with ⟨_, e, _⟩ | ⟨k, O', bk, _⟩
    · rw [hh, hrr] at e
      exact e
    · exact absurd fine (fun f => bad_fine bk f)
  have ne13 := neNotice (O := O8 ++ [.lst ((S.map fun x => (x, τ x)).map rnD)]) (p := O8.length) (a := (i : Int)) (d := mn) (rows := S.map fun x => (x, τ x)) (by simp) fun r hr => by
    obtain ⟨x, hx, rfl⟩ := List.mem_map.mp hr
    exact (name_sg (lnl x hx).nm).ok
  have a13 : lw13 (L2 c (S.map .str) y5 nt (i : Int) mn y9 (some (.lst (ls.map .str))) (some (.str (txt ls))) (some (.lst ((S.map fun x => (x, τ x)).map rnD)))) O8 = .next (LL c (S.map .str) y5 nt (i : Int) mn y9 (.lst (ls.map .str)) (txt ls) (some (.lst ((S.map fun x => (x, τ x)).map rnD))) none none) (O8 ++ [.lst ((S.map fun x => (x, τ x)).map rnD)]) := by
    have eo8 := N8.eo
    have lkt : ∀ a d : D, List.lookup ("text" : Str) [(("_stations" : Str), a), (("_rows" : Str), d)] = none := fun _ _ => rfl
    clear a0 a1 a2 a3 e4 a5 a6 a7 e8 a9 a10 a11 a12 hls2 hrr hh fine RN1 il8
    generalize O8 ++ [Ob.lst ((S.map fun x => ((x, τ x) : RN)).map rnD)] = Q at *
    generalize (S.map fun x => ((x, τ x) : RN)).map rnD = zq at *
    generalize ls.map D.str = zr at *
    generalize S.map D.str = zs at *
    generalize O8.length = p at *
    generalize txt ls = tt at *
    generalize (i : Int) = ii at *
    simp [runF, sSeq, sIf, sNext, sDrop, sRet, sRetN, sAsg, ofRes, ofB, bName, bNil, bCons, bTup, bLst, bSubL, mTest, mOp, mVar, mC, mChain, mAnd, mOr, mNot, mIf, mAndV, mOrV, mNotV, mNeg, mCons, mNil, mTup, mLst, newL, mCall, mFn, arity, g1, g2, gLen, gInt, gAbs, gMax2, gMin2, gIx, seqOf, lsqOf, lstOf, Res.bind, ofO, gAdd_ok, gSub_ok, gEq_int, gNe_int, gLt_int, gLe_int, gGt_int, gGe_int, gEq_bl, gNe_bl, gEq_str, gNe_str, mIsi, mIsiT, tyD, kitL, kitTab, atI_c0, atI_c1, atI_c2, atI_c3, atI_c4, sForR1, int1, int2, mMeth, mMake, mFld, sFldM, gIs, gIsNot, isNon_t, sRaise, gList, newLO, eo8, lkt, tx, rd, ne13]
  have k13 : Take 100 0 (O8 ++ [.lst ((S.map fun x => (x, τ x)).map rnD)]) := k8.fz fz_app
  obtain ⟨L14, O14, e14, ti⟩ := loopD_keeps (turn := turnOf (bName 9) tT) (I := TI 100 c (S.map .str) y5 nt (i : Int) mn (txt ls) (some (.lst ((S.map fun x => (x, τ x)).map rnD)))) (rangeD 0 2) 0 (LL c (S.map .str) y5 nt (i : Int) mn y9 (.lst (ls.map .str)) (txt ls) (some (.lst ((S.map fun x => (x, τ x)).map rnD))) none none) (O8 ++ [.lst ((S.map fun x => (x, τ x)).map rnD)])
    ⟨⟨_, ls, _, _, _, rfl, rfl, by omega, okl⟩, k13⟩ fun j d L O hd h => by
      obtain ⟨hj, rfl⟩ := range_at hd
      rw [Nat.zero_add] at h ⊢
      rw [Int.zero_add]
      exact law_turn hj (by omega) h
  obtain ⟨⟨d, ls', z9, z13, z14, rfl, rfl, _⟩, _⟩ := ti
  -- the end
  obtain ⟨A, l, hA⟩ : ∃ A l, ls = A ++ [l] := by
    rcases List.eq_nil_or_concat ls with h | ⟨A, l, h⟩
    · rw [h] at lsl; simp at lsl
    · exact ⟨A, l, by rw [h, List.concat_eq_append]⟩
  have l0 : l ≠ "" := fun z => by
    have hm : l ∈ ls := by rw [hA]; simp
    rw [hls] at hm
    rcases List.mem_cons.mp hm with h | h
    · have q := headP_line i0 (show (i : Int) ≤ 1000000 by omega) m0 (show mn ≤ 1000000 by omega)
      rw [← h, z] at q
      exact absurd q (by show headP [("" : Str)] ≠ _; intro q; cases q)
    · obtain ⟨x, hx, e⟩ := List.mem_map.mp h
      have q := rowP_line (lnl x hx)
      rw [e, z] at q
      exact absurd q (by show rowP [("" : Str)] ≠ _; intro q; cases q)
  have ro := read_open (O := O14) (m := 50) (A := A) (l := l) (by rw [← hA]; exact okl) (by omega) (by rw [hA, List.length_append, List.length_singleton] at lsl; omega) l0
  rw [← hA] at ro
  have hAl : A.length + 1 = S.length + 1 := by rw [← lsl, hA, List.length_append, List.length_singleton]
  rw [hAl, show (((S.length + 1 : Nat)) : Int) = (S.length : Int) + 1 by omega] at ro
  obtain ⟨O15, e15, _⟩ := read_nil (O := O14)
  have sl := slice_cut (O := O14) okl (by omega) (by omega)
  have gls : gLen O14 (.lst (S.map .str)) = some (.int (S.length : Int), O14) := by simp [gLen, seqOf, lsqOf, lstOf]
  have q1 := eqLI (O := O14) (v := (S.length : Int) + 1)
  have q2 := eqLI (O := O15) (v := 1)
  have a15 : lw15 (LL c (S.map .str) y5 nt (i : Int) mn z9 (.lst (ls'.map .str)) (txt ls) (some (.lst ((S.map fun x => (x, τ x)).map rnD))) z13 z14) O14 = .ret (.bl true) O15 := by
    clear a0 a1 a2 a3 e4 a5 a6 a7 e8 a9 a10 a11 a12 a13 e14 rd tx ne13
    generalize cutS (txt ls) none (some (-1)) = cx at *
    generalize txt ls = tt at *
    generalize ls'.map D.str = zr at *
    generalize S.map D.str = zs at *
    generalize (S.length : Int) = rn at *
    generalize (S.map fun x => ((x, τ x) : RN)).map rnD = zq at *
    simp [mSl, oNone, oSome, sAsg, sRet, mAndV, truD, mOp, mNeg, mLst, newL, mFn, arity, mCons, mNil, mCall, DK.g1, mVar, mC, ofRes, ofB, ofO, Res.bind, gAdd_ok, sl, ro, gls, q1, q2, e15]
  refine ⟨O15, ?_⟩
  show (match b_law [some c, none, none, none, none, none, none, none, none, none, none, none, none, none, none, none] [] with
    | .next _ O1 => Res.ok D.non O1
    | .ret d O1 => .ok d O1
    | .exc x _ O1 => .exc x O1
    | _ => .bad) = _
  rw [law_is, seq_next a0, seq_next a1, seq_next a2, seq_next a3, seq_next e4, seq_next a5, seq_next a6, seq_next a7, seq_next e8, seq_next a9, seq_next a10, seq_next a11, seq_next a12, seq_next a13, seq_next (show sForR1 (mCons (mC (.int 2)) mNil) (bName 9) tT _ _ = _ from e14), a15]
end DK.k48
end
theorem PySem.Challenge.cw_darkrise_k48_notice_texts_there_and_back_holds : PySem.Challenge.rw_darkrise_k48_notice_texts_there_and_back.Holds := by
  exact DK.k48.core DK.k48.law_holds
