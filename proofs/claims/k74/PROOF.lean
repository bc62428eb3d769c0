import PyProof.Rows.All
import Wide.All
import OpenK.AllK
import Wide.FinOn
import HandS.ForMost
import HandS.Wide
import HandS.Gcd
import HandS.SetFor
import HandS.IsInst
import HandS.Deep
import HandS.TupAny
import PyProof.ReprRoads
import KE.GoesMore
import KE.GoesEnum
import PyProof.ReprLen
import PyProof.Rows.RegStrFacts
import PySem.Challenge.RW_surehedge_k74_balances
set_option Elab.async false
set_option exponentiation.threshold 20000
set_option linter.all false
set_option maxRecDepth 100000
set_option maxHeartbeats 2000000
namespace G
open PySem PySem.Spec PyProof.Rows L2

/-! ### data over a frozen heap -/
def Ex (H H' : Hp) : Prop := ∀ a o, H a = some o → H' a = some o
theorem Ex.refl (H : Hp) : Ex H H := fun _ _ h => h
theorem Ex.trans {H H1 H2 : Hp} (a : Ex H H1) (b : Ex H1 H2) : Ex H H2 := fun x o h => b x o (a x o h)
theorem Ex.new {H : Hp} {p : Addr} {o : HO} (h : H p = none) : Ex H (upd H p o) := fun a u e => by
  rw [upd_ne (ne_of_none e h)]
  exact e
theorem Ex.rd {F H : Hp} {a : Addr} {u : HO} (e : Ex F H) (h : Rd F a u) : Rd H a u := by
  rcases h with h | ⟨o, h⟩
  · exact .inl (e a _ h)
  · exact .inr ⟨o, e a _ h⟩
theorem Ex.sqT {K : PySem.W.Frag} {F H : Hp} {a : Addr} {xs : List V} (e : Ex F H) (h : SqT K F a xs) : SqT K H a xs := by
  rcases h with h | h
  · exact .inl (e.rd h)
  · exact .inr h
theorem Ex.sqL {K : PySem.W.Frag} {F H : Hp} {a : Addr} {xs : List V} (e : Ex F H) (h : SqL K F a xs) : SqL K H a xs := by
  rcases h with h | h
  · exact .inl (e.rd h)
  · exact .inr h

mutual
inductive Rp (K : PySem.W.Frag) (F : Hp) : V → PyData → Prop
  | non : Rp K F .non .none
  | bl (b : Bool) : Rp K F (.bl b) (.bool b)
  | int (i : Int) : Rp K F (.int i) (.int i)
  | str (x : Str) : Rp K F (.str x) (.str x)
  | lst {a : Addr} {xs : List V} {ds : List PyData} : F a = some (.lst xs) → RpAll K F xs ds → Rp K F (.ref a) (.list ds)
  | tup {a : Addr} {xs : List V} {ds : List PyData} : SqT K F a xs → RpAll K F xs ds → Rp K F (.ref a) (.tuple ds)
inductive RpAll (K : PySem.W.Frag) (F : Hp) : List V → List PyData → Prop
  | nil : RpAll K F [] []
  | cons {v : V} {vs : List V} {d : PyData} {ds : List PyData} : Rp K F v d → RpAll K F vs ds → RpAll K F (v :: vs) (d :: ds)
end
section
variable {K : PySem.W.Frag} {F F' : Hp}
mutual
theorem Rp.mono (e : Ex F F') : ∀ (d : PyData) (v : V), Rp K F v d → Rp K F' v d
  | .none, _, h => by cases h; exact .non
  | .bool b, _, h => by cases h; exact .bl b
  | .int i, _, h => by cases h; exact .int i
  | .str x, _, h => by cases h; exact .str x
  | .list ds, _, h => by
    cases h with
    | lst h1 h2 => exact .lst (e _ _ h1) (RpAll.mono e ds _ h2)
  | .tuple ds, _, h => by
    cases h with
    | tup h1 h2 => exact .tup (e.sqT h1) (RpAll.mono e ds _ h2)
  | .dict _, _, h => by cases h
theorem RpAll.mono (e : Ex F F') : ∀ (ds : List PyData) (vs : List V), RpAll K F vs ds → RpAll K F' vs ds
  | [], _, h => by cases h; exact .nil
  | d :: ds, _, h => by
    cases h with
    | cons h1 h2 => exact .cons (Rp.mono e d _ h1) (RpAll.mono e ds _ h2)
end
mutual
theorem Rp.dp : ∀ (d : PyData) (v : V), Rp K F v d → Dp K F v d
  | .none, _, h => by cases h; exact .non
  | .bool b, _, h => by cases h; exact .bl b
  | .int i, _, h => by cases h; exact .int i
  | .str x, _, h => by cases h; exact .str x
  | .list ds, _, h => by
    cases h with
    | lst h1 h2 => exact .lst (SqL.of h1) (RpAll.dp ds _ h2)
  | .tuple ds, _, h => by
    cases h with
    | tup h1 h2 => exact .tup h1 (RpAll.dp ds _ h2)
  | .dict _, _, h => by cases h
theorem RpAll.dp : ∀ (ds : List PyData) (vs : List V), RpAll K F vs ds → DpAll K F vs ds
  | [], _, h => by cases h; exact .nil
  | d :: ds, _, h => by
    cases h with
    | cons h1 h2 => exact .cons (Rp.dp d _ h1) (RpAll.dp ds _ h2)
end
theorem RpAll.length : ∀ {vs : List V} {ds : List PyData}, RpAll K F vs ds → vs.length = ds.length
  | [], [], _ => rfl
  | _ :: _, _ :: _, .cons _ h => congrArg (· + 1) h.length
theorem RpAll.get : ∀ {vs : List V} {ds : List PyData} {i : Nat} {d : PyData}, RpAll K F vs ds → ds[i]? = some d → ∃ v, vs[i]? = some v ∧ Rp K F v d
  | _, _, _, _, .nil, e => by simp at e
  | _, _, 0, _, .cons r _, e => by simp at e; subst e; exact ⟨_, rfl, r⟩
  | _, _, i + 1, x, .cons _ t, e => by
    obtain ⟨u, h1, h2⟩ := RpAll.get (i := i) (d := x) t (by simpa using e)
    exact ⟨u, by simpa using h1, h2⟩
theorem RpAll.append : ∀ {vs ws : List V} {ds es : List PyData}, RpAll K F vs ds → RpAll K F ws es → RpAll K F (vs ++ ws) (ds ++ es)
  | _, _, _, _, .nil, h => h
  | _, _, _, _, .cons a b, h => .cons a (b.append h)
theorem RpAll.take : ∀ {vs : List V} {ds : List PyData} (n : Nat), RpAll K F vs ds → RpAll K F (vs.take n) (ds.take n)
  | _, _, 0, _ => .nil
  | _, _, _ + 1, .nil => .nil
  | _, _, n + 1, .cons a b => .cons a (b.take n)
theorem RpAll.drop : ∀ {vs : List V} {ds : List PyData} (n : Nat), RpAll K F vs ds → RpAll K F (vs.drop n) (ds.drop n)
  | _, _, 0, h => h
  | _, _, _ + 1, .nil => .nil
  | _, _, n + 1, .cons _ b => b.drop n
end

/-! ### words of the state: slots, mutable objects -/
inductive W where
  | un
  | d (x : PyData)
  | m (k : Nat)
  | s (ns : List Int)
inductive MO where
  | lst (ws : List W)
  | dead
def RW (K : PySem.W.Frag) (F : Hp) (as : List Addr) : W → V → Prop
  | .un, _ => False
  | .d x, v => Rp K F v x
  | .m k, v => ∃ a, as[k]? = some a ∧ v = .ref a
  | .s ns, v => ∃ a, v = .ref a ∧ SqL K F a (ns.map V.int)
def RWs (K : PySem.W.Frag) (F : Hp) (as : List Addr) : List W → List V → Prop
  | [], [] => True
  | w :: ws, v :: vs => RW K F as w v ∧ RWs K F as ws vs
  | _, _ => False
def RS (K : PySem.W.Frag) (F : Hp) (as : List Addr) : List W → L2.St → Prop
  | [], [] => True
  | w :: ws, o :: os => (w = .un ∨ ∃ v, o = some v ∧ RW K F as w v) ∧ RS K F as ws os
  | _, _ => False
def MOk (K : PySem.W.Frag) (F H : Hp) (as : List Addr) (a : Addr) : MO → Prop
  | .lst ws => F a = none ∧ ∃ xs, H a = some (.lst xs) ∧ RWs K F as ws xs
  | .dead => ∃ o, H a = some o
structure Rel (K : PySem.W.Frag) (F H : Hp) (as : List Addr) (om : List MO) : Prop where
  ex : Ex F H
  nd : as.Nodup
  len : as.length = om.length
  obj : ∀ (k : Nat) (a : Addr) (mo : MO), as[k]? = some a → om[k]? = some mo → MOk K F H as a mo
structure Stp (F H : Hp) (as : List Addr) (F' H' : Hp) (as' : List Addr) : Prop where
  exF : Ex F F'
  pre : as <+: as'
  keep : ∀ a o, H a = some o → a ∉ as → H' a = some o
  newF : ∀ a o, F' a = some o → F a = some o ∨ H a = none ∨ a ∈ as
  newA : ∀ a ∈ as', a ∈ as ∨ H a = none
section
variable {K : PySem.W.Frag} {F F' F'' H H' H'' : Hp} {as as' as'' : List Addr} {om om' : List MO}
theorem Stp.refl : Stp F H as F H as := ⟨Ex.refl _, List.prefix_refl _, fun _ _ h _ => h, fun _ _ h => .inl h, fun _ h => .inl h⟩
theorem Stp.trans (p : Stp F H as F' H' as') (q : Stp F' H' as' F'' H'' as'') : Stp F H as F'' H'' as'' := by
  have key : ∀ a o, H a = some o → a ∉ as → a ∉ as' := fun a o h n hm => by
    rcases p.newA a hm with z | z
    · exact n z
    · rw [h] at z; cases z
  have cl : ∀ a, H' a = none → H a = none ∨ a ∈ as := fun a h => by
    cases e : H a with
    | none => exact .inl rfl
    | some o =>
      by_cases hm : a ∈ as
      · exact .inr hm
      · have := p.keep a o e hm
        rw [h] at this; cases this
  refine ⟨p.exF.trans q.exF, p.pre.trans q.pre, fun a o h n => q.keep a o (p.keep a o h n) (key a o h n), fun a o h => ?_, fun a h => ?_⟩
  · rcases q.newF a o h with z | z | z
    · exact p.newF a o z
    · rcases cl a z with y | y
      · exact .inr (.inl y)
      · exact .inr (.inr y)
    · rcases p.newA a z with y | y
      · exact .inr (.inr y)
      · exact .inr (.inl y)
  · rcases q.newA a h with z | z
    · exact p.newA a z
    · rcases cl a z with y | y
      · exact .inr y
      · exact .inl y
theorem pre_get {a : Addr} {k : Nat} (p : as <+: as') (h : as[k]? = some a) : as'[k]? = some a := by
  obtain ⟨t, rfl⟩ := p
  rw [List.getElem?_append_left]
  · exact h
  · exact (List.getElem?_eq_some_iff.mp h).1
theorem RW.mono {w : W} {v : V} (e : Ex F F') (p : as <+: as') (h : RW K F as w v) : RW K F' as' w v := by
  cases w with
  | un => exact h.elim
  | d x => exact Rp.mono e _ _ h
  | m k => obtain ⟨a, h1, h2⟩ := h; exact ⟨a, pre_get p h1, h2⟩
  | s ns => obtain ⟨a, h1, h2⟩ := h; exact ⟨a, h1, e.sqL h2⟩
theorem RWs.mono (e : Ex F F') (p : as <+: as') : ∀ {ws : List W} {vs : List V}, RWs K F as ws vs → RWs K F' as' ws vs
  | [], [], _ => trivial
  | _ :: _, _ :: _, h => ⟨RW.mono e p h.1, RWs.mono e p h.2⟩
  | [], _ :: _, h => h.elim
  | _ :: _, [], h => h.elim
theorem RS.mono (e : Ex F F') (p : as <+: as') : ∀ {ws : List W} {os : L2.St}, RS K F as ws os → RS K F' as' ws os
  | [], [], _ => trivial
  | _ :: _, _ :: _, h => ⟨h.1.imp id fun ⟨v, h1, h2⟩ => ⟨v, h1, RW.mono e p h2⟩, RS.mono e p h.2⟩
  | [], _ :: _, h => h.elim
  | _ :: _, [], h => h.elim
theorem RWs.length : ∀ {ws : List W} {vs : List V}, RWs K F as ws vs → ws.length = vs.length
  | [], [], _ => rfl
  | _ :: _, _ :: _, h => congrArg (· + 1) (RWs.length h.2)
  | [], _ :: _, h => h.elim
  | _ :: _, [], h => h.elim
theorem RWs.get : ∀ {ws : List W} {vs : List V} {i : Nat} {w : W}, RWs K F as ws vs → ws[i]? = some w → ∃ v, vs[i]? = some v ∧ RW K F as w v
  | [], [], _, _, _, e => by simp at e
  | _ :: _, _ :: _, 0, _, h, e => by simp at e; subst e; exact ⟨_, rfl, h.1⟩
  | _ :: _, _ :: _, i + 1, w, h, e => by
    obtain ⟨v, h1, h2⟩ := RWs.get (i := i) (w := w) h.2 (by simpa using e)
    exact ⟨v, by simpa using h1, h2⟩
  | [], _ :: _, _, _, h, _ => h.elim
  | _ :: _, [], _, _, h, _ => h.elim
theorem RWs.append : ∀ {ws : List W} {vs : List V} {ws' : List W} {vs' : List V}, RWs K F as ws vs → RWs K F as ws' vs' → RWs K F as (ws ++ ws') (vs ++ vs')
  | [], [], _, _, _, h => h
  | _ :: _, _ :: _, _, _, h, h' => ⟨h.1, RWs.append h.2 h'⟩
  | [], _ :: _, _, _, h, _ => h.elim
  | _ :: _, [], _, _, h, _ => h.elim
theorem RWs.set {w : W} {v : V} (r : RW K F as w v) : ∀ {ws : List W} {vs : List V} (i : Nat), RWs K F as ws vs → RWs K F as (ws.set i w) (vs.set i v)
  | [], [], _, _ => trivial
  | _ :: _, _ :: _, 0, h => ⟨r, h.2⟩
  | _ :: _, _ :: _, i + 1, h => ⟨h.1, RWs.set r i h.2⟩
  | [], _ :: _, _, h => h.elim
  | _ :: _, [], _, h => h.elim
theorem RS.get : ∀ {ws : List W} {os : L2.St} {i : Nat} {w : W}, RS K F as ws os → ws[i]? = some w → w ≠ .un → ∃ v, os[i]? = some (some v) ∧ RW K F as w v
  | [], [], _, _, _, e, _ => by simp at e
  | _ :: _, _ :: _, 0, _, h, e, n => by
    simp at e; subst e
    rcases h.1 with z | ⟨v, h1, h2⟩
    · exact (n z).elim
    · exact ⟨v, by simp [h1], h2⟩
  | _ :: _, _ :: _, i + 1, w, h, e, n => by
    obtain ⟨v, h1, h2⟩ := RS.get (i := i) (w := w) h.2 (by simpa using e) n
    exact ⟨v, by simpa using h1, h2⟩
  | [], _ :: _, _, _, h, _, _ => h.elim
  | _ :: _, [], _, _, h, _, _ => h.elim
theorem RS.set {w : W} {v : V} (r : RW K F as w v) : ∀ {ws : List W} {os : L2.St} (i : Nat), RS K F as ws os → RS K F as (ws.set i w) (os.set i (some v))
  | [], [], _, _ => trivial
  | _ :: _, _ :: _, 0, h => ⟨.inr ⟨v, rfl, r⟩, h.2⟩
  | _ :: _, _ :: _, i + 1, h => ⟨h.1, RS.set r i h.2⟩
  | [], _ :: _, _, h => h.elim
  | _ :: _, [], _, h => h.elim
theorem RS.setun {o : Option V} : ∀ {ws : List W} {os : L2.St} (i : Nat), RS K F as ws os → RS K F as (ws.set i .un) (os.set i o)
  | [], [], _, _ => trivial
  | _ :: _, _ :: _, 0, h => ⟨.inl rfl, h.2⟩
  | _ :: _, _ :: _, i + 1, h => ⟨h.1, RS.setun i h.2⟩
  | [], _ :: _, _, h => h.elim
  | _ :: _, [], _, h => h.elim
theorem RWs.ofRp : ∀ {vs : List V} {ds : List PyData}, RpAll K F vs ds → RWs K F as (ds.map W.d) vs
  | [], [], _ => trivial
  | _ :: _, _ :: _, .cons a b => ⟨a, RWs.ofRp b⟩
theorem RWs.toRp : ∀ {vs : List V} {ds : List PyData}, RWs K F as (ds.map W.d) vs → RpAll K F vs ds
  | [], [], _ => .nil
  | _ :: _, _ :: _, h => .cons h.1 (RWs.toRp h.2)
  | [], _ :: _, h => h.elim
  | _ :: _, [], h => h.elim
theorem mem_as {a : Addr} (R : Rel K F H as om) (h : a ∈ as) : ∃ (k : Nat) (mo : MO), as[k]? = some a ∧ om[k]? = some mo ∧ MOk K F H as a mo := by
  obtain ⟨k, hk, rfl⟩ := List.getElem_of_mem h
  have h1 : as[k]? = some as[k] := List.getElem?_eq_getElem hk
  have h2 : om[k]? = some (om[k]'(by rw [← R.len]; exact hk)) := List.getElem?_eq_getElem _
  exact ⟨k, _, h1, h2, R.obj k _ _ h1 h2⟩
theorem Rel.has {a : Addr} (R : Rel K F H as om) (h : a ∈ as) : ∃ o, H a = some o := by
  obtain ⟨k, mo, _, _, m⟩ := mem_as R h
  cases mo with
  | lst ws => obtain ⟨_, xs, e, _⟩ := m; exact ⟨_, e⟩
  | dead => exact m
theorem Rel.fresh {p : Addr} (R : Rel K F H as om) (h : H p = none) : p ∉ as ∧ F p = none := by
  refine ⟨fun z => ?_, ?_⟩
  · obtain ⟨o, e⟩ := R.has z
    rw [h] at e; cases e
  · cases e : F p with
    | none => rfl
    | some o => have := R.ex p o e; rw [h] at this; cases this
theorem MOk.mono {a : Addr} {mo : MO} (e : Ex F F') (p : as <+: as') (hk : ∀ o, H a = some o → H' a = some o) (hF : F a = none → F' a = none) (h : MOk K F H as a mo) : MOk K F' H' as' a mo := by
  cases mo with
  | lst ws => obtain ⟨h0, xs, h1, h2⟩ := h; exact ⟨hF h0, xs, hk _ h1, RWs.mono e p h2⟩
  | dead => obtain ⟨o, h1⟩ := h; exact ⟨o, hk _ h1⟩
/-- a new frozen object -/
theorem Rel.newF {p : Addr} {o : HO} (R : Rel K F H as om) (h : H p = none) : Rel K (upd F p o) (upd H p o) as om ∧ Stp F H as (upd F p o) (upd H p o) as := by
  obtain ⟨n1, n2⟩ := R.fresh h
  have eF : Ex F (upd F p o) := Ex.new n2
  refine ⟨⟨fun a u e => ?_, R.nd, R.len, fun k a mo h1 h2 => ?_⟩, eF, List.prefix_refl _, fun a u e _ => Ex.new h a u e, fun a u e => ?_, fun a h => .inl h⟩
  · by_cases z : a = p
    · subst z; rw [upd_same] at e ⊢; exact e
    · rw [upd_ne z] at e ⊢; exact R.ex a u e
  · have ne : a ≠ p := fun z => n1 (z ▸ List.mem_of_getElem? h1)
    exact MOk.mono eF (List.prefix_refl _) (fun u e => by rw [upd_ne ne]; exact e) (fun e => by rw [upd_ne ne]; exact e) (R.obj k a mo h1 h2)
  · by_cases z : a = p
    · subst z; exact .inr (.inl h)
    · rw [upd_ne z] at e; exact .inl e
/-- a new mutable list -/
theorem Rel.newM {p : Addr} {xs : List V} {ws : List W} (R : Rel K F H as om) (h : H p = none) (r : RWs K F as ws xs) :
    Rel K F (upd H p (.lst xs)) (as ++ [p]) (om ++ [.lst ws]) ∧ Stp F H as F (upd H p (.lst xs)) (as ++ [p]) := by
  obtain ⟨n1, n2⟩ := R.fresh h
  have pr : as <+: as ++ [p] := List.prefix_append _ _
  refine ⟨⟨fun a u e => Ex.new h a u (R.ex a u e), ?_, by simp [R.len], fun k a mo h1 h2 => ?_⟩, Ex.refl _, pr, fun a u e _ => Ex.new h a u e, fun a u e => .inl e, fun a hm => ?_⟩
  · refine List.nodup_append.mpr ⟨R.nd, by simp, fun a ha b hb => ?_⟩
    rw [List.mem_singleton] at hb
    subst hb
    exact fun z => n1 (z ▸ ha)
  · by_cases hk : k < as.length
    · rw [List.getElem?_append_left hk] at h1
      rw [List.getElem?_append_left (by rw [← R.len]; exact hk)] at h2
      have ne : a ≠ p := fun z => n1 (z ▸ List.mem_of_getElem? h1)
      exact MOk.mono (Ex.refl _) pr (fun u e => by rw [upd_ne ne]; exact e) (fun e => e) (R.obj k a mo h1 h2)
    · have hk' : as.length ≤ k := Nat.le_of_not_lt hk
      rw [List.getElem?_append_right hk'] at h1
      rw [List.getElem?_append_right (by rw [← R.len]; exact hk')] at h2
      have e0 : k - as.length = 0 := by
        cases q : k - as.length with
        | zero => rfl
        | succ n => rw [q] at h1; simp at h1
      rw [e0] at h1
      rw [← R.len, e0] at h2
      simp at h1 h2
      subst h1; subst h2
      exact ⟨n2, xs, upd_same, RWs.mono (Ex.refl _) pr r⟩
  · rcases List.mem_append.mp hm with z | z
    · exact .inl z
    · rw [List.mem_singleton] at z; subst z; exact .inr h
/-- a mutable list is written -/
theorem Rel.write {a : Addr} {k : Nat} {xs : List V} {ws : List W} (R : Rel K F H as om) (hk : as[k]? = some a) (hF : F a = none) (r : RWs K F as ws xs) :
    Rel K F (upd H a (.lst xs)) as (om.set k (.lst ws)) ∧ Stp F H as F (upd H a (.lst xs)) as := by
  have hm : a ∈ as := List.mem_of_getElem? hk
  refine ⟨⟨fun b u e => ?_, R.nd, by simp [R.len], fun j b mo h1 h2 => ?_⟩, Ex.refl _, List.prefix_refl _, fun b u e n => ?_, fun b u e => .inl e, fun b h => .inl h⟩
  · have ne : b ≠ a := fun z => by rw [z, hF] at e; cases e
    rw [upd_ne ne]; exact R.ex b u e
  · by_cases hj : j = k
    · subst hj
      rw [hk] at h1; cases h1
      have hl : j < om.length := by rw [← R.len]; exact (List.getElem?_eq_some_iff.mp hk).1
      rw [List.getElem?_set_self hl] at h2
      cases h2
      exact ⟨hF, xs, upd_same, r⟩
    · rw [List.getElem?_set_ne (Ne.symm hj)] at h2
      have ne : b ≠ a := fun z => by
        subst z
        have l1 := (List.getElem?_eq_some_iff.mp h1)
        have l2 := (List.getElem?_eq_some_iff.mp hk)
        obtain ⟨p1, q1⟩ := l1
        obtain ⟨p2, q2⟩ := l2
        exact hj ((List.getElem_inj R.nd).mp (q1.trans q2.symm))
      exact MOk.mono (Ex.refl _) (List.prefix_refl _) (fun u e => by rw [upd_ne ne]; exact e) (fun e => e) (R.obj j b mo h1 h2)
  · have ne : b ≠ a := fun z => n (z ▸ hm)
    rw [upd_ne ne]; exact e
end

/-! ### judgements -/
section
variable (X : Cx)
structure wpE (e : Expr) (σ : L2.St) (H : Hp) (Q : VK) : Prop where
  go : ∀ (pins : List (Addr × Obj)) (s : Shared), Inv X pins σ H s → wpAny (model X.prog X.w) X.A (eval e X.env) (EP X pins σ Q) X.xe s
structure wpT (e : Expr) (σ : L2.St) (H : Hp) (Q : Bool → Hp → Prop) : Prop where
  go : ∀ (pins : List (Addr × Obj)) (s : Shared), Inv X pins σ H s → wpAny (model X.prog X.w) X.A (isTrue e X.env (eval e X.env)) (TP X pins σ Q) X.xe s
structure wpW (e : Expr) (σ : L2.St) (H : Hp) (Q : Bool → Hp → Prop) : Prop where
  go : ∀ (whole : Sem Value) (pins : List (Addr × Obj)) (s : Shared), Inv X pins σ H s → wpAny (model X.prog X.w) X.A (isTrue e X.env whole) (TP X pins σ Q) X.xe s
structure wpA (es : List Expr) (σ : L2.St) (H : Hp) (Q : List V → Hp → Prop) : Prop where
  go : ∀ (pos : Pos) (pins : List (Addr × Obj)) (s : Shared), Inv X pins σ H s → wpAny (model X.prog X.w) X.A (spliced (backTo pos (starEach es X.env))) (AP X pins σ Q) X.xe s
structure wpSs (st : List Stmt) (D : Ends) (σ : L2.St) (H : Hp) : Prop where
  go : ∀ (pins : List (Addr × Obj)) (s : Shared), Inv X pins σ H s → wpAny (model X.prog X.w) X.A (execs st X.env) (SP X pins D) X.xe s
structure wpS (st : Stmt) (D : Ends) (σ : L2.St) (H : Hp) : Prop where
  go : ∀ (pins : List (Addr × Obj)) (s : Shared), Inv X pins σ H s → wpAny (model X.prog X.w) X.A (exec st X.env) (SP X pins D) X.xe s
structure wpG (tg : Expr) (v : V) (σ : L2.St) (H : Hp) (Q : L2.St → Hp → Prop) : Prop where
  go : ∀ (pins : List (Addr × Obj)) (s : Shared) (u : Value), Inv X pins σ H s → RelV v u → wpAny (model X.prog X.w) X.A (assign tg X.env u) (fun _ s' => ∃ σ' H', Inv X pins σ' H' s' ∧ Q σ' H') X.xe s
structure wpI (tg iter : Expr) (σ : L2.St) (H : Hp) (R : It → Hp → Prop) : Prop where
  go : ∀ (pins : List (Addr × Obj)) (s : Shared), Inv X pins σ H s →
    wpAny (model X.prog X.w) X.A (eval iter X.env) (fun v s1 => wpAny (model X.prog X.w) X.A (pyIter v) (PIE X pins σ tg R) X.xe s1) X.xe s
variable {X}
theorem pe_wp {e : Expr} : PE X e (wpE X e) := ⟨fun pins s _ _ _ I h => h.go pins s I⟩
theorem pt_wp {e : Expr} : PT X e (wpT X e) := ⟨fun pins s _ _ _ I h => h.go pins s I⟩
theorem pw_wp {e : Expr} : PW X e (wpW X e) := ⟨fun whole pins s _ _ _ I h => h.go whole pins s I⟩
theorem pa_wp {es : List Expr} : PA X es (wpA X es) := ⟨fun pos pins s _ _ _ I h => h.go pos pins s I⟩
theorem pss_wp {st : List Stmt} : PSs X st (wpSs X st) := ⟨fun pins s _ _ _ I h => h.go pins s I⟩
theorem ps_wp {st : Stmt} : PS X st (wpS X st) := ⟨fun pins s _ _ _ I h => h.go pins s I⟩
theorem pg_wp {tg : Expr} : PG X tg (wpG X tg) := ⟨fun pins s _ _ _ u _ I r h => h.go pins s u I r⟩
theorem pi_wp {tg iter : Expr} : PI X tg iter (wpI X tg iter) := ⟨fun pins s _ _ _ I h => h.go pins s I⟩
theorem wpE_of {e : Expr} {t : TE} (p : PE X e t) {σ : L2.St} {H : Hp} {Q : VK} (h : t σ H Q) : wpE X e σ H Q := ⟨fun pins s I => p.run pins s σ H Q I h⟩
theorem wpT_of {e : Expr} {t : TT} (p : PT X e t) {σ : L2.St} {H : Hp} {Q : Bool → Hp → Prop} (h : t σ H Q) : wpT X e σ H Q := ⟨fun pins s I => p.run pins s σ H Q I h⟩
theorem wpW_of {e : Expr} {t : TT} (p : PW X e t) {σ : L2.St} {H : Hp} {Q : Bool → Hp → Prop} (h : t σ H Q) : wpW X e σ H Q := ⟨fun whole pins s I => p.run whole pins s σ H Q I h⟩
theorem wpA_of {es : List Expr} {t : TA} (p : PA X es t) {σ : L2.St} {H : Hp} {Q : List V → Hp → Prop} (h : t σ H Q) : wpA X es σ H Q := ⟨fun pos pins s I => p.run pos pins s σ H Q I h⟩
theorem wpSs_of {st : List Stmt} {t : TS} (p : PSs X st t) {σ : L2.St} {H : Hp} {D : Ends} (h : t D σ H) : wpSs X st D σ H := ⟨fun pins s I => p.run pins s σ H D I h⟩
theorem wpS_of {st : Stmt} {t : TS} (p : PS X st t) {σ : L2.St} {H : Hp} {D : Ends} (h : t D σ H) : wpS X st D σ H := ⟨fun pins s I => p.run pins s σ H D I h⟩
theorem wpG_of {tg : Expr} {t : TG} (p : PG X tg t) {v : V} {σ : L2.St} {H : Hp} {Q : L2.St → Hp → Prop} (h : t v σ H Q) : wpG X tg v σ H Q := ⟨fun pins s u I r => p.run pins s σ H v u Q I r h⟩
theorem wpI_of {tg iter : Expr} {t : TI} (p : PI X tg iter t) {σ : L2.St} {H : Hp} {R : It → Hp → Prop} (h : t σ H R) : wpI X tg iter σ H R := ⟨fun pins s I => p.run pins s σ H R I h⟩
end

/-- how a word goes on: the wish behind -/
def Go (K : PySem.W.Frag) (F H : Hp) (as : List Addr) (w : W) (om' : List MO) (Q : VK) : Prop :=
  ∀ v F' H' as', Stp F H as F' H' as' → Rel K F' H' as' om' → RW K F' as' w v → Q v H'
def EvS (X : Cx) (e : Expr) (rho : List W) (om : List MO) (w : W) (om' : List MO) : Prop :=
  ∀ F H as σ (Q : VK), Rel X.K F H as om → RS X.K F as rho σ → Go X.K F H as w om' Q → wpE X e σ H Q
def GoT (K : PySem.W.Frag) (F H : Hp) (as : List Addr) (b : Bool) (om' : List MO) (Q : Bool → Hp → Prop) : Prop :=
  ∀ F' H' as', Stp F H as F' H' as' → Rel K F' H' as' om' → Q b H'
def EvT (X : Cx) (e : Expr) (rho : List W) (om : List MO) (b : Bool) (om' : List MO) : Prop :=
  ∀ F H as σ (Q : Bool → Hp → Prop), Rel X.K F H as om → RS X.K F as rho σ → GoT X.K F H as b om' Q → wpT X e σ H Q
def EvW (X : Cx) (e : Expr) (rho : List W) (om : List MO) (b : Bool) (om' : List MO) : Prop :=
  ∀ F H as σ (Q : Bool → Hp → Prop), Rel X.K F H as om → RS X.K F as rho σ → GoT X.K F H as b om' Q → wpW X e σ H Q
def GoA (K : PySem.W.Frag) (F H : Hp) (as : List Addr) (ws : List W) (om' : List MO) (Q : List V → Hp → Prop) : Prop :=
  ∀ vs F' H' as', Stp F H as F' H' as' → Rel K F' H' as' om' → RWs K F' as' ws vs → Q vs H'
def EvA (X : Cx) (es : List Expr) (rho : List W) (om : List MO) (ws : List W) (om' : List MO) : Prop :=
  ∀ F H as σ (Q : List V → Hp → Prop), Rel X.K F H as om → RS X.K F as rho σ → GoA X.K F H as ws om' Q → wpA X es σ H Q
/-- a target takes a word -/
def TgS (X : Cx) (tg : Expr) (w : W) (rho rho' : List W) : Prop :=
  ∀ F H as om σ v (Q : L2.St → Hp → Prop), Rel X.K F H as om → RS X.K F as rho σ → RW X.K F as w v → (∀ σ', RS X.K F as rho' σ' → Q σ' H) → wpG X tg v σ H Q

/-- a result known by a word alone -/
def EvP (X : Cx) (e : Expr) (rho : List W) (om : List MO) (Phi : W → List MO → Prop) : Prop :=
  ∀ F H as σ (Q : VK), Rel X.K F H as om → RS X.K F as rho σ → (∀ w om', Phi w om' → Go X.K F H as w om' Q) → wpE X e σ H Q
theorem EvS.toP {X : Cx} {e : Expr} {rho : List W} {om om1 : List MO} {w : W} {Phi : W → List MO → Prop} (h : EvS X e rho om w om1) (k : Phi w om1) : EvP X e rho om Phi := fun F H as σ Q R S g => h F H as σ Q R S (g w om1 k)
theorem EvP.imp {X : Cx} {e : Expr} {rho : List W} {om : List MO} {Phi Psi : W → List MO → Prop} (h : EvP X e rho om Phi) (k : ∀ w o, Phi w o → Psi w o) : EvP X e rho om Psi := fun F H as σ Q R S g => h F H as σ Q R S fun w o z => g w o (k w o z)

structure Post where
  nx : List W → List MO → Prop
  rt : W → List MO → Prop
  bk : List W → List MO → Prop := fun _ _ => False
  ct : List W → List MO → Prop := fun _ _ => False
def GoS (K : PySem.W.Frag) (F H : Hp) (as : List Addr) (P : List W → List MO → Prop) (Q : L2.St → Hp → Prop) : Prop :=
  ∀ σ' F' H' as' rho' om', Stp F H as F' H' as' → Rel K F' H' as' om' → RS K F' as' rho' σ' → P rho' om' → Q σ' H'
def GoR (K : PySem.W.Frag) (F H : Hp) (as : List Addr) (P : W → List MO → Prop) (Q : VK) : Prop :=
  ∀ v F' H' as' w om', Stp F H as F' H' as' → Rel K F' H' as' om' → RW K F' as' w v → P w om' → Q v H'
structure GoP (K : PySem.W.Frag) (F H : Hp) (as : List Addr) (P : Post) (D : Ends) : Prop where
  nx : GoS K F H as P.nx D.nx
  rt : GoR K F H as P.rt D.rt
  bk : GoS K F H as P.bk D.bk
  ct : GoS K F H as P.ct D.ct
def Wp (X : Cx) (st : List Stmt) (rho : List W) (om : List MO) (P : Post) : Prop :=
  ∀ F H as σ (D : Ends), Rel X.K F H as om → RS X.K F as rho σ → GoP X.K F H as P D → wpSs X st D σ H
def Wp1 (X : Cx) (st : Stmt) (rho : List W) (om : List MO) (P : Post) : Prop :=
  ∀ F H as σ (D : Ends), Rel X.K F H as om → RS X.K F as rho σ → GoP X.K F H as P D → wpS X st D σ H

section
variable {K : PySem.W.Frag} {F F' H H' : Hp} {as as' : List Addr}
theorem Go.step {w : W} {om' : List MO} {Q : VK} (g : Go K F H as w om' Q) (p : Stp F H as F' H' as') : Go K F' H' as' w om' Q :=
  fun v F2 H2 as2 q R r => g v F2 H2 as2 (p.trans q) R r
theorem GoT.step {b : Bool} {om' : List MO} {Q : Bool → Hp → Prop} (g : GoT K F H as b om' Q) (p : Stp F H as F' H' as') : GoT K F' H' as' b om' Q :=
  fun F2 H2 as2 q R => g F2 H2 as2 (p.trans q) R
theorem GoA.step {ws : List W} {om' : List MO} {Q : List V → Hp → Prop} (g : GoA K F H as ws om' Q) (p : Stp F H as F' H' as') : GoA K F' H' as' ws om' Q :=
  fun v F2 H2 as2 q R r => g v F2 H2 as2 (p.trans q) R r
theorem GoS.step {P : List W → List MO → Prop} {Q : L2.St → Hp → Prop} (g : GoS K F H as P Q) (p : Stp F H as F' H' as') : GoS K F' H' as' P Q :=
  fun σ' F2 H2 as2 rho om q R r => g σ' F2 H2 as2 rho om (p.trans q) R r
theorem GoR.step {P : W → List MO → Prop} {Q : VK} (g : GoR K F H as P Q) (p : Stp F H as F' H' as') : GoR K F' H' as' P Q :=
  fun v F2 H2 as2 w om q R r => g v F2 H2 as2 w om (p.trans q) R r
theorem GoP.step {P : Post} {D : Ends} (g : GoP K F H as P D) (p : Stp F H as F' H' as') : GoP K F' H' as' P D :=
  ⟨g.nx.step p, g.rt.step p, g.bk.step p, g.ct.step p⟩
theorem GoS.imp {P P' : List W → List MO → Prop} {Q : L2.St → Hp → Prop} (g : GoS K F H as P Q) (h : ∀ r o, P' r o → P r o) : GoS K F H as P' Q :=
  fun σ' F2 H2 as2 rho om q R r z => g σ' F2 H2 as2 rho om q R r (h _ _ z)
theorem RS.step {rho : List W} {σ : L2.St} (r : RS K F as rho σ) (p : Stp F H as F' H' as') : RS K F' as' rho σ := RS.mono p.exF p.pre r
theorem RW.step {w : W} {v : V} (r : RW K F as w v) (p : Stp F H as F' H' as') : RW K F' as' w v := RW.mono p.exF p.pre r
theorem RWs.step {w : List W} {v : List V} (r : RWs K F as w v) (p : Stp F H as F' H' as') : RWs K F' as' w v := RWs.mono p.exF p.pre r
end
end G

set_option Elab.async false
set_option linter.all false
set_option maxRecDepth 100000
set_option maxHeartbeats 2000000
namespace G
open PySem PySem.Spec PyProof.Rows L2

def W.ok : W → Bool
  | .un => false
  | _ => true
theorem W.ne_un {w : W} (h : w.ok = true) : w ≠ .un := fun e => by rw [e] at h; cases h

section
variable {X : Cx} {rho : List W} {om om1 om2 om3 : List MO} {a b e : Expr} {es : List Expr} {w w1 w2 : W} {ws : List W} {pos : Pos}

theorem go_same {K : PySem.W.Frag} {F H : Hp} {as : List Addr} {Q : VK} {v : V} (R : Rel K F H as om) (g : Go K F H as w om Q) (r : RW K F as w v) : Q v H := g v F H as Stp.refl R r

/-! ### names, constants -/
theorem ev_v (i : Nat) {x : Str} (h : rho[i]? = some w) (n : w.ok = true := by rfl) (hN : X.N[i]? = some x := by rfl) (hv : Vis X.env.scope x := by first | exact Or.inl rfl | exact Or.inr (Or.inl rfl) | exact Or.inr (Or.inr rfl))
    (hd : (x == ("__debug__" : Str)) = false := by decide) (hcd : (x == ("__classdict__" : Str)) = false := by decide) : EvS X (.Name x pos) rho om w om := fun F H as σ Q R S g => by
  obtain ⟨v, h1, h2⟩ := S.get h (W.ne_un n)
  exact wpE_of (pe_var hN hv hd hcd) ⟨v, h1, go_same R g h2⟩
theorem ev_c {v : V} {x : PyData} (p : PE X e (tC v)) (h : ∀ F, Rp X.K F v x) : EvS X e rho om (.d x) om := fun F H as σ Q R S g => wpE_of p (go_same R g (h F))
theorem ev_int {i j} : EvS X (.Constant (.int i) j pos) rho om (.d (.int i)) om := ev_c pe_int fun _ => .int i
theorem ev_bl {i j} : EvS X (.Constant (.bool i) j pos) rho om (.d (.bool i)) om := ev_c pe_bl fun _ => .bl i
theorem ev_non {j} : EvS X (.Constant .none j pos) rho om (.d .none) om := ev_c pe_non fun _ => .non
theorem ev_str {i j} : EvS X (.Constant (.str i) j pos) rho om (.d (.str i)) om := ev_c pe_str fun _ => .str i
/-- a constant of the module -/
def Cst (K : PySem.W.Frag) (mg : Str → Option Value) (x : Str) (d : PyData) : Prop := ∃ v u, mg x = some u ∧ RelV v u ∧ ∀ F, Rp K F v d
theorem ev_g {x : Str} {d : PyData} (h : Cst X.K X.mg x d) (hg : Gl X x := by rfl) (hd : (x == ("__debug__" : Str)) = false := by decide) : EvS X (.Name x pos) rho om (.d d) om := by
  obtain ⟨v, u, h1, h2, h3⟩ := h
  exact ev_c (pe_glob hg h1 h2 hd) h3
theorem cst_int {K : PySem.W.Frag} {mg : Str → Option Value} {x : Str} {i : Int} {t : Tok} (h : mg x = some (.int i t)) : Cst K mg x (.int i) := ⟨.int i, _, h, ⟨t, rfl⟩, fun _ => .int i⟩

/-! ### operators -/
def OpD (K : PySem.W.Frag) (r : R2) (w1 w2 : W) (om : List MO) (w : W) (om' : List MO) : Prop :=
  ∀ F H as x y (Q : VK), Rel K F H as om → RW K F as w1 x → RW K F as w2 y → Go K F H as w om' Q → r x y H Q
theorem ev_bin {op : Operator} {r : R2} (ho : OpR X (binaryOp op) r) (ha : EvS X a rho om w1 om1) (hb : EvS X b rho om1 w2 om2) (hr : OpD X.K r w1 w2 om2 w om3) : EvS X (.BinOp a op b pos) rho om w om3 := fun F H as σ Q R S g =>
  wpE_of (pe_op ho pe_wp pe_wp) (ha F H as σ _ R S fun x F1 H1 as1 p1 R1 r1 => hb F1 H1 as1 σ _ R1 (S.step p1) fun y F2 H2 as2 p2 R2 r2 =>
    hr F2 H2 as2 x y Q R2 (r1.step p2) r2 (g.step (p1.trans p2)))
theorem ev_cmp {op : CmpOp} {r : R2} (ho : OpR X (compareOp op) r) (ha : EvS X a rho om w1 om1) (hb : EvS X b rho om1 w2 om2) (hr : OpD X.K r w1 w2 om2 w om3) (hm : behindInMarks op b = false) : EvS X (.Compare a [op] [b] pos) rho om w om3 := fun F H as σ Q R S g =>
  wpE_of (pe_cmpR ho pe_wp pe_wp hm) (ha F H as σ _ R S fun x F1 H1 as1 p1 R1 r1 => hb F1 H1 as1 σ _ R1 (S.step p1) fun y F2 H2 as2 p2 R2 r2 =>
    hr F2 H2 as2 x y Q R2 (r1.step p2) r2 (g.step (p1.trans p2)))
theorem evt_cmp {op : CmpOp} {r : R2} {p : Bool} (ho : OpR X (compareOp op) r) (ha : EvS X a rho om w1 om1) (hb : EvS X b rho om1 w2 om2) (hr : OpD X.K r w1 w2 om2 (.d (.bool p)) om3) (hm : behindInMarks op b = false) : EvT X (.Compare a [op] [b] pos) rho om p om3 := fun F H as σ Q R S g =>
  wpT_of (pt_cmpR ho pe_wp pe_wp hm) (ha F H as σ _ R S fun x F1 H1 as1 p1 R1 r1 => hb F1 H1 as1 σ _ R1 (S.step p1) fun y F2 H2 as2 p2 R2 r2 =>
    hr F2 H2 as2 x y _ R2 (r1.step p2) r2 fun v F3 H3 as3 p3 R3 r3 => by
      have r3 : Rp X.K F3 v (.bool p) := r3
      cases r3
      exact ⟨p, rfl, g F3 H3 as3 ((p1.trans p2).trans p3) R3⟩)
theorem ev_un {op : UnaryOp} {r : V → Hp → VK → Prop} (ho : UnR X (unaryOp op) r) (ha : EvS X a rho om w1 om1)
    (hr : ∀ F H as x (Q : VK), Rel X.K F H as om1 → RW X.K F as w1 x → Go X.K F H as w om2 Q → r x H Q) : EvS X (.UnaryOp op a pos) rho om w om2 := fun F H as σ Q R S g =>
  wpE_of (pe_un ho pe_wp) (ha F H as σ _ R S fun x F1 H1 as1 p1 R1 r1 => hr F1 H1 as1 x Q R1 r1 (g.step p1))
section
variable {K : PySem.W.Frag} {i j : Int}
theorem od_I0 {g : Int → Int → Int} : OpD K (rI0 fun i j => .int (g i j)) (.d (.int i)) (.d (.int j)) om (.d (.int (g i j))) om := fun F H as x y Q R rx ry go => by
  have rx : Rp K F x (.int i) := rx
  have ry : Rp K F y (.int j) := ry
  cases rx; cases ry
  exact ⟨i, j, rfl, rfl, go_same R go (Rp.int _)⟩
theorem od_B0 {g : Int → Int → Bool} : OpD K (rI0 fun i j => .bl (g i j)) (.d (.int i)) (.d (.int j)) om (.d (.bool (g i j))) om := fun F H as x y Q R rx ry go => by
  have rx : Rp K F x (.int i) := rx
  have ry : Rp K F y (.int j) := ry
  cases rx; cases ry
  exact ⟨i, j, rfl, rfl, go_same R go (Rp.bl _)⟩
theorem od_I {C : Int → Int → Prop} {g : Int → Int → Int} (hc : C i j) : OpD K (rI C fun i j => .int (g i j)) (.d (.int i)) (.d (.int j)) om (.d (.int (g i j))) om := fun F H as x y Q R rx ry go => by
  have rx : Rp K F x (.int i) := rx
  have ry : Rp K F y (.int j) := ry
  cases rx; cases ry
  exact ⟨i, j, rfl, rfl, hc, go_same R go (Rp.int _)⟩
theorem dec_V (i j : Int) : decide (V.int i = V.int j) = decide (i = j) := by
  by_cases h : i = j
  · subst h; simp
  · rw [decide_eq_false h, decide_eq_false]; intro z; cases z; exact h rfl
theorem dec_S (i j : Str) : decide (V.str i = V.str j) = decide (i = j) := by
  by_cases h : i = j
  · subst h; simp
  · rw [decide_eq_false h, decide_eq_false]; intro z; cases z; exact h rfl
theorem od_eqI : OpD K rEq (.d (.int i)) (.d (.int j)) om (.d (.bool (decide (i = j)))) om := fun F H as x y Q R rx ry go => by
  have rx : Rp K F x (.int i) := rx
  have ry : Rp K F y (.int j) := ry
  cases rx; cases ry
  exact ⟨rfl, go_same R go (by rw [dec_V]; exact Rp.bl _)⟩
theorem od_neI : OpD K rNe (.d (.int i)) (.d (.int j)) om (.d (.bool (!decide (i = j)))) om := fun F H as x y Q R rx ry go => by
  have rx : Rp K F x (.int i) := rx
  have ry : Rp K F y (.int j) := ry
  cases rx; cases ry
  exact ⟨rfl, go_same R go (by rw [dec_V]; exact Rp.bl _)⟩
theorem od_eqS {i j : Str} : OpD K rEq (.d (.str i)) (.d (.str j)) om (.d (.bool (decide (i = j)))) om := fun F H as x y Q R rx ry go => by
  have rx : Rp K F x (.str i) := rx
  have ry : Rp K F y (.str j) := ry
  cases rx; cases ry
  exact ⟨rfl, go_same R go (by rw [dec_S]; exact Rp.bl _)⟩
theorem od_neS {i j : Str} : OpD K rNe (.d (.str i)) (.d (.str j)) om (.d (.bool (!decide (i = j)))) om := fun F H as x y Q R rx ry go => by
  have rx : Rp K F x (.str i) := rx
  have ry : Rp K F y (.str j) := ry
  cases rx; cases ry
  exact ⟨rfl, go_same R go (by rw [dec_S]; exact Rp.bl _)⟩
theorem od_neB {i j : Bool} : OpD K rNe (.d (.bool i)) (.d (.bool j)) om (.d (.bool (i != j))) om := fun F H as x y Q R rx ry go => by
  have rx : Rp K F x (.bool i) := rx
  have ry : Rp K F y (.bool j) := ry
  cases rx; cases ry
  refine ⟨rfl, go_same R go ?_⟩
  rw [dec_bl]
  exact Rp.bl _
theorem od_eqB {i j : Bool} : OpD K rEq (.d (.bool i)) (.d (.bool j)) om (.d (.bool (i == j))) om := fun F H as x y Q R rx ry go => by
  have rx : Rp K F x (.bool i) := rx
  have ry : Rp K F y (.bool j) := ry
  cases rx; cases ry
  refine ⟨rfl, go_same R go ?_⟩
  rw [dec_bl]
  exact Rp.bl _
theorem od_eqD {x y : PyData} (hx : SeqAt.shaped x = true) (hy : SeqAt.shaped y = true) : OpD K (rEqD K) (.d x) (.d y) om (.d (.bool (PyData.eqv x y))) om := fun F H as v u Q R rx ry go =>
  ⟨x, y, Rp.dp _ _ (Rp.mono R.ex _ _ rx), Rp.dp _ _ (Rp.mono R.ex _ _ ry), hx, hy, go_same R go (Rp.bl _)⟩
theorem od_neD {x y : PyData} (hx : SeqAt.shaped x = true) (hy : SeqAt.shaped y = true) : OpD K (rNeD K) (.d x) (.d y) om (.d (.bool (!PyData.eqv x y))) om := fun F H as v u Q R rx ry go =>
  ⟨x, y, Rp.dp _ _ (Rp.mono R.ex _ _ rx), Rp.dp _ _ (Rp.mono R.ex _ _ ry), hx, hy, go_same R go (Rp.bl _)⟩
end
variable {i j : Int} {ta tb : W}
theorem ev_add (ha : EvS X a rho om (.d (.int i)) om1) (hb : EvS X b rho om1 (.d (.int j)) om2) : EvS X (.BinOp a .Add b pos) rho om (.d (.int (i + j))) om2 := ev_bin op_add ha hb od_I0
theorem ev_sub (ha : EvS X a rho om (.d (.int i)) om1) (hb : EvS X b rho om1 (.d (.int j)) om2) : EvS X (.BinOp a .Sub b pos) rho om (.d (.int (i - j))) om2 := ev_bin op_sub ha hb od_I0
theorem ev_mul (ha : EvS X a rho om (.d (.int i)) om1) (hb : EvS X b rho om1 (.d (.int j)) om2) (hc : CMulW i j) : EvS X (.BinOp a .Mult b pos) rho om (.d (.int (i * j))) om2 := ev_bin op_mulW ha hb (od_I hc)
theorem ev_div (ha : EvS X a rho om (.d (.int i)) om1) (hb : EvS X b rho om1 (.d (.int j)) om2) (hc : CDivW i j) : EvS X (.BinOp a .FloorDiv b pos) rho om (.d (.int (i / j))) om2 := ev_bin op_fdivW ha hb (od_I hc)
theorem ev_mod (ha : EvS X a rho om (.d (.int i)) om1) (hb : EvS X b rho om1 (.d (.int j)) om2) (hc : 0 < j) : EvS X (.BinOp a .Mod b pos) rho om (.d (.int (i % j))) om2 := ev_bin op_mod ha hb (od_I hc)
theorem ev_pow (ha : EvS X a rho om (.d (.int i)) om1) (hb : EvS X b rho om1 (.d (.int j)) om2) (hc : CPow i j) : EvS X (.BinOp a .Pow b pos) rho om (.d (.int (i ^ j.toNat))) om2 := ev_bin op_pow ha hb (od_I hc)
theorem ev_neg (ha : EvS X a rho om (.d (.int i)) om1) : EvS X (.UnaryOp .USub a pos) rho om (.d (.int (-i))) om1 := ev_un un_neg ha fun F H as x Q R r g => by
  have r : Rp X.K F x (.int i) := r
  cases r
  exact ⟨i, rfl, go_same R g (Rp.int _)⟩
theorem ev_lt (ha : EvS X a rho om (.d (.int i)) om1) (hb : EvS X b rho om1 (.d (.int j)) om2) : EvS X (.Compare a [.Lt] [b] pos) rho om (.d (.bool (decide (i < j)))) om2 := ev_cmp op_lt ha hb od_B0 (nomark _)
theorem ev_le (ha : EvS X a rho om (.d (.int i)) om1) (hb : EvS X b rho om1 (.d (.int j)) om2) : EvS X (.Compare a [.LtE] [b] pos) rho om (.d (.bool (decide (i ≤ j)))) om2 := ev_cmp op_le ha hb od_B0 (nomark _)
theorem ev_gt (ha : EvS X a rho om (.d (.int i)) om1) (hb : EvS X b rho om1 (.d (.int j)) om2) : EvS X (.Compare a [.Gt] [b] pos) rho om (.d (.bool (decide (j < i)))) om2 := ev_cmp op_gt ha hb od_B0 (nomark _)
theorem ev_ge (ha : EvS X a rho om (.d (.int i)) om1) (hb : EvS X b rho om1 (.d (.int j)) om2) : EvS X (.Compare a [.GtE] [b] pos) rho om (.d (.bool (decide (j ≤ i)))) om2 := ev_cmp op_ge ha hb od_B0 (nomark _)
theorem ev_eqI (ha : EvS X a rho om (.d (.int i)) om1) (hb : EvS X b rho om1 (.d (.int j)) om2) : EvS X (.Compare a [.Eq] [b] pos) rho om (.d (.bool (decide (i = j)))) om2 := ev_cmp op_eq ha hb od_eqI (nomark _)
theorem ev_neI (ha : EvS X a rho om (.d (.int i)) om1) (hb : EvS X b rho om1 (.d (.int j)) om2) : EvS X (.Compare a [.NotEq] [b] pos) rho om (.d (.bool (!decide (i = j)))) om2 := ev_cmp op_ne ha hb od_neI (nomark _)
theorem ev_eqS {i j : Str} (ha : EvS X a rho om (.d (.str i)) om1) (hb : EvS X b rho om1 (.d (.str j)) om2) : EvS X (.Compare a [.Eq] [b] pos) rho om (.d (.bool (decide (i = j)))) om2 := ev_cmp op_eq ha hb od_eqS (nomark _)
theorem ev_neS {i j : Str} (ha : EvS X a rho om (.d (.str i)) om1) (hb : EvS X b rho om1 (.d (.str j)) om2) : EvS X (.Compare a [.NotEq] [b] pos) rho om (.d (.bool (!decide (i = j)))) om2 := ev_cmp op_ne ha hb od_neS (nomark _)
theorem ev_eqD {x y : PyData} (hu : X.A.units + 64 < cLine) (ha : EvS X a rho om (.d x) om1) (hb : EvS X b rho om1 (.d y) om2) (hx : SeqAt.shaped x = true) (hy : SeqAt.shaped y = true) : EvS X (.Compare a [.Eq] [b] pos) rho om (.d (.bool (PyData.eqv x y))) om2 := ev_cmp (op_eqD hu) ha hb (od_eqD hx hy) (nomark _)
theorem ev_neD {x y : PyData} (hu : X.A.units + 64 < cLine) (ha : EvS X a rho om (.d x) om1) (hb : EvS X b rho om1 (.d y) om2) (hx : SeqAt.shaped x = true) (hy : SeqAt.shaped y = true) : EvS X (.Compare a [.NotEq] [b] pos) rho om (.d (.bool (!PyData.eqv x y))) om2 := ev_cmp (op_neD hu) ha hb (od_neD hx hy) (nomark _)

/-! ### tests -/
theorem evt_lt (ha : EvS X a rho om (.d (.int i)) om1) (hb : EvS X b rho om1 (.d (.int j)) om2) : EvT X (.Compare a [.Lt] [b] pos) rho om (decide (i < j)) om2 := evt_cmp op_lt ha hb od_B0 (nomark _)
theorem evt_le (ha : EvS X a rho om (.d (.int i)) om1) (hb : EvS X b rho om1 (.d (.int j)) om2) : EvT X (.Compare a [.LtE] [b] pos) rho om (decide (i ≤ j)) om2 := evt_cmp op_le ha hb od_B0 (nomark _)
theorem evt_gt (ha : EvS X a rho om (.d (.int i)) om1) (hb : EvS X b rho om1 (.d (.int j)) om2) : EvT X (.Compare a [.Gt] [b] pos) rho om (decide (j < i)) om2 := evt_cmp op_gt ha hb od_B0 (nomark _)
theorem evt_ge (ha : EvS X a rho om (.d (.int i)) om1) (hb : EvS X b rho om1 (.d (.int j)) om2) : EvT X (.Compare a [.GtE] [b] pos) rho om (decide (j ≤ i)) om2 := evt_cmp op_ge ha hb od_B0 (nomark _)
theorem evt_eqI (ha : EvS X a rho om (.d (.int i)) om1) (hb : EvS X b rho om1 (.d (.int j)) om2) : EvT X (.Compare a [.Eq] [b] pos) rho om (decide (i = j)) om2 := evt_cmp op_eq ha hb od_eqI (nomark _)
theorem evt_neI (ha : EvS X a rho om (.d (.int i)) om1) (hb : EvS X b rho om1 (.d (.int j)) om2) : EvT X (.Compare a [.NotEq] [b] pos) rho om (!decide (i = j)) om2 := evt_cmp op_ne ha hb od_neI (nomark _)
theorem evt_eqS {i j : Str} (ha : EvS X a rho om (.d (.str i)) om1) (hb : EvS X b rho om1 (.d (.str j)) om2) : EvT X (.Compare a [.Eq] [b] pos) rho om (decide (i = j)) om2 := evt_cmp op_eq ha hb od_eqS (nomark _)
theorem evt_neS {i j : Str} (ha : EvS X a rho om (.d (.str i)) om1) (hb : EvS X b rho om1 (.d (.str j)) om2) : EvT X (.Compare a [.NotEq] [b] pos) rho om (!decide (i = j)) om2 := evt_cmp op_ne ha hb od_neS (nomark _)
theorem evt_neB {i j : Bool} (ha : EvS X a rho om (.d (.bool i)) om1) (hb : EvS X b rho om1 (.d (.bool j)) om2) : EvT X (.Compare a [.NotEq] [b] pos) rho om (i != j) om2 := evt_cmp op_ne ha hb od_neB (nomark _)
theorem evt_eqD {x y : PyData} (hu : X.A.units + 64 < cLine) (ha : EvS X a rho om (.d x) om1) (hb : EvS X b rho om1 (.d y) om2) (hx : SeqAt.shaped x = true) (hy : SeqAt.shaped y = true) : EvT X (.Compare a [.Eq] [b] pos) rho om (PyData.eqv x y) om2 := evt_cmp (op_eqD hu) ha hb (od_eqD hx hy) (nomark _)
theorem evt_neD {x y : PyData} (hu : X.A.units + 64 < cLine) (ha : EvS X a rho om (.d x) om1) (hb : EvS X b rho om1 (.d y) om2) (hx : SeqAt.shaped x = true) (hy : SeqAt.shaped y = true) : EvT X (.Compare a [.NotEq] [b] pos) rho om (!PyData.eqv x y) om2 := evt_cmp (op_neD hu) ha hb (od_neD hx hy) (nomark _)
theorem evw_t {p : Bool} (h : EvW X e rho om p om1) : EvT X e rho om p om1 := fun F H as σ Q R S g => wpT_of pw_wp.pt (h F H as σ Q R S g)
theorem evw_and1 {p : Bool} (h : EvT X a rho om p om1) : EvW X (.BoolOp .And [a] pos) rho om p om1 := fun F H as σ Q R S g => wpW_of (pw_and1 pt_wp) (h F H as σ Q R S g)
theorem evw_or1 {p : Bool} (h : EvT X a rho om p om1) : EvW X (.BoolOp .Or [a] pos) rho om p om1 := fun F H as σ Q R S g => wpW_of (pw_or1 pt_wp) (h F H as σ Q R S g)
theorem evw_and {p q : Bool} (h : EvT X a rho om p om1) (ht : p = true → EvW X (.BoolOp .And (b :: es) pos) rho om1 q om2) (hf : p = false → q = false ∧ om2 = om1) : EvW X (.BoolOp .And (a :: b :: es) pos) rho om q om2 := fun F H as σ Q R S g =>
  wpW_of (pw_and pt_wp pw_wp) (h F H as σ _ R S fun F1 H1 as1 p1 R1 => by
    cases p with
    | true =>
      rw [if_pos rfl]
      exact ht rfl F1 H1 as1 σ Q R1 (S.step p1) (g.step p1)
    | false =>
      rw [if_neg Bool.false_ne_true]
      obtain ⟨rfl, rfl⟩ := hf rfl
      exact g F1 H1 as1 p1 R1)
theorem evw_or {p q : Bool} (h : EvT X a rho om p om1) (ht : p = false → EvW X (.BoolOp .Or (b :: es) pos) rho om1 q om2) (hf : p = true → q = true ∧ om2 = om1) : EvW X (.BoolOp .Or (a :: b :: es) pos) rho om q om2 := fun F H as σ Q R S g =>
  wpW_of (pw_or pt_wp pw_wp) (h F H as σ _ R S fun F1 H1 as1 p1 R1 => by
    cases p with
    | false =>
      rw [if_neg Bool.false_ne_true]
      exact ht rfl F1 H1 as1 σ Q R1 (S.step p1) (g.step p1)
    | true =>
      rw [if_pos rfl]
      obtain ⟨rfl, rfl⟩ := hf rfl
      exact g F1 H1 as1 p1 R1)
/-- without changes -/
theorem evw_andP {p q : Bool} (h : EvT X a rho om p om) (ht : p = true → EvW X (.BoolOp .And (b :: es) pos) rho om q om) : EvW X (.BoolOp .And (a :: b :: es) pos) rho om (p && q) om :=
  evw_and h (fun e => by subst e; exact ht rfl) fun e => by subst e; exact ⟨rfl, rfl⟩
theorem evw_orP {p q : Bool} (h : EvT X a rho om p om) (ht : p = false → EvW X (.BoolOp .Or (b :: es) pos) rho om q om) : EvW X (.BoolOp .Or (a :: b :: es) pos) rho om (p || q) om :=
  evw_or h (fun e => by subst e; exact ht rfl) fun e => by subst e; exact ⟨rfl, rfl⟩
theorem evt_not {p : Bool} (h : EvT X a rho om p om1) : EvT X (.UnaryOp .Not a pos) rho om (!p) om1 := fun F H as σ Q R S g => wpT_of (pt_not pt_wp) (h F H as σ _ R S fun F1 H1 as1 p1 R1 => g F1 H1 as1 p1 R1)
/-- truth of a value -/
def Tru (om : List MO) : W → Bool → Prop
  | .d .none, k => k = false
  | .d (.bool b), k => k = b
  | .d (.int i), k => k = (i != 0)
  | .d (.list ds), k => k = !ds.isEmpty
  | .d (.tuple ds), k => k = !ds.isEmpty
  | .m n, k => ∃ ws, om[n]? = some (.lst ws) ∧ k = !ws.isEmpty
  | _, _ => False
theorem RpAll.isEmpty {K : PySem.W.Frag} {F : Hp} : ∀ {vs : List V} {ds : List PyData}, RpAll K F vs ds → (!ds.isEmpty) = !vs.isEmpty
  | [], [], _ => rfl
  | _ :: _, _ :: _, _ => rfl
theorem RWs.isEmpty {K : PySem.W.Frag} {F : Hp} {as : List Addr} : ∀ {vs : List V} {ds : List W}, RWs K F as ds vs → (!ds.isEmpty) = !vs.isEmpty
  | [], [], _ => rfl
  | _ :: _, _ :: _, _ => rfl
  | [], _ :: _, h => h.elim
  | _ :: _, [], h => h.elim
theorem Rel.lst {K : PySem.W.Frag} {F H : Hp} {as : List Addr} {k : Nat} {a : Addr} (R : Rel K F H as om) (h : as[k]? = some a) (ho : om[k]? = some (.lst ws)) : F a = none ∧ ∃ xs, H a = some (.lst xs) ∧ RWs K F as ws xs := R.obj k a _ h ho
theorem evt_tru {p : Bool} (h : EvS X a rho om w om1) (ht : Tru om1 w p) (he : ∀ whole, isTrue a X.env whole = (do let v ← whole; standAt a.pos; holding [v] (truthy v)) := by intro _; rfl) : EvT X a rho om p om1 := fun F H as σ Q R S g =>
  wpT_of (pt_truth pe_wp he) (h F H as σ _ R S fun x F1 H1 as1 p1 R1 r1 => ⟨p, by
    cases w with
    | un => exact r1.elim
    | s ns => exact ht.elim
    | m n =>
      obtain ⟨ws, h1, rfl⟩ := ht
      obtain ⟨a, h2, rfl⟩ := r1
      obtain ⟨_, xs, h3, h4⟩ := R1.lst h2 h1
      exact Or.inl ⟨xs, SqL.of h3, RWs.isEmpty h4⟩
    | d y =>
      have r1 : Rp X.K F1 x y := r1
      cases r1 with
      | non => exact ht
      | bl b => exact ht
      | int i => exact ht
      | str x => exact ht.elim
      | lst h1 h2 =>
        obtain rfl : p = _ := ht
        exact Or.inl ⟨_, SqL.of (R1.ex _ _ h1), RpAll.isEmpty h2⟩
      | tup h1 h2 =>
        obtain rfl : p = _ := ht
        exact Or.inr (Or.inl ⟨_, R1.ex.sqT h1, RpAll.isEmpty h2⟩), g F1 H1 as1 p1 R1⟩)
theorem evt_b {p : Bool} (h : EvS X a rho om (.d (.bool p)) om1) (he : ∀ whole, isTrue a X.env whole = (do let v ← whole; standAt a.pos; holding [v] (truthy v)) := by intro _; rfl) : EvT X a rho om p om1 := evt_tru h rfl he

/-! ### and, or, not as values; a if t else b -/
theorem ev_one {op} (h : EvS X a rho om w om1) : EvS X (.BoolOp op [a] pos) rho om w om1 := fun F H as σ Q R S g => wpE_of (pe_one pe_wp) (h F H as σ Q R S g)
theorem ev_and {p : Bool} (h : EvS X a rho om (.d (.bool p)) om1) (ht : p = true → EvS X (.BoolOp .And (b :: es) pos) rho om1 w om2) (hf : p = false → w = .d (.bool false) ∧ om2 = om1) : EvS X (.BoolOp .And (a :: b :: es) pos) rho om w om2 := fun F H as σ Q R S g =>
  wpE_of (pe_and pe_wp pe_wp) (h F H as σ _ R S fun x F1 H1 as1 p1 R1 r1 => by
    have r1 : Rp X.K F1 x (.bool p) := r1
    cases r1
    refine ⟨p, rfl, ?_⟩
    cases p with
    | true =>
      rw [if_pos rfl]
      exact ht rfl F1 H1 as1 σ Q R1 (S.step p1) (g.step p1)
    | false =>
      rw [if_neg Bool.false_ne_true]
      obtain ⟨rfl, rfl⟩ := hf rfl
      exact g _ F1 H1 as1 p1 R1 (Rp.bl _))
theorem ev_or {p : Bool} (h : EvS X a rho om (.d (.bool p)) om1) (ht : p = false → EvS X (.BoolOp .Or (b :: es) pos) rho om1 w om2) (hf : p = true → w = .d (.bool true) ∧ om2 = om1) : EvS X (.BoolOp .Or (a :: b :: es) pos) rho om w om2 := fun F H as σ Q R S g =>
  wpE_of (pe_or pe_wp pe_wp) (h F H as σ _ R S fun x F1 H1 as1 p1 R1 r1 => by
    have r1 : Rp X.K F1 x (.bool p) := r1
    cases r1
    refine ⟨p, rfl, ?_⟩
    cases p with
    | false =>
      rw [if_neg Bool.false_ne_true]
      exact ht rfl F1 H1 as1 σ Q R1 (S.step p1) (g.step p1)
    | true =>
      rw [if_pos rfl]
      obtain ⟨rfl, rfl⟩ := hf rfl
      exact g _ F1 H1 as1 p1 R1 (Rp.bl _))
theorem ev_andP {p q : Bool} (h : EvS X a rho om (.d (.bool p)) om) (ht : p = true → EvS X (.BoolOp .And (b :: es) pos) rho om (.d (.bool q)) om) : EvS X (.BoolOp .And (a :: b :: es) pos) rho om (.d (.bool (p && q))) om :=
  ev_and h (fun e => by subst e; exact ht rfl) fun e => by subst e; exact ⟨rfl, rfl⟩
theorem ev_orP {p q : Bool} (h : EvS X a rho om (.d (.bool p)) om) (ht : p = false → EvS X (.BoolOp .Or (b :: es) pos) rho om (.d (.bool q)) om) : EvS X (.BoolOp .Or (a :: b :: es) pos) rho om (.d (.bool (p || q))) om :=
  ev_or h (fun e => by subst e; exact ht rfl) fun e => by subst e; exact ⟨rfl, rfl⟩
theorem ev_not {p : Bool} (h : EvS X a rho om (.d (.bool p)) om1) : EvS X (.UnaryOp .Not a pos) rho om (.d (.bool (!p))) om1 := fun F H as σ Q R S g => wpE_of (pe_not pe_wp) (h F H as σ _ R S fun x F1 H1 as1 p1 R1 r1 => by
  have r1 : Rp X.K F1 x (.bool p) := r1
  cases r1
  exact ⟨p, rfl, g _ F1 H1 as1 p1 R1 (Rp.bl _)⟩)
theorem ev_if {c : Expr} {p : Bool} (h : EvT X c rho om p om1) (ht : p = true → EvS X a rho om1 w om2) (hf : p = false → EvS X b rho om1 w om2) : EvS X (.IfExp c a b pos) rho om w om2 := fun F H as σ Q R S g =>
  wpE_of (pe_ifExp pt_wp pe_wp pe_wp) (h F H as σ _ R S fun F1 H1 as1 p1 R1 => by
    cases p with
    | true => rw [if_pos rfl]; exact ht rfl F1 H1 as1 σ Q R1 (S.step p1) (g.step p1)
    | false => rw [if_neg Bool.false_ne_true]; exact hf rfl F1 H1 as1 σ Q R1 (S.step p1) (g.step p1))

/-! ### argument lists, displays -/
theorem ea_nil : EvA X [] rho om [] om := fun F H as σ Q R S g => wpA_of pa_nil (g [] F H as Stp.refl R trivial)
theorem ea_cons (ha : EvS X e rho om w om1) (hr : EvA X es rho om1 ws om2) (hs : starEach (e :: es) X.env = (false, eval e X.env) :: starEach es X.env := by rfl) : EvA X (e :: es) rho om (w :: ws) om2 := fun F H as σ Q R S g =>
  wpA_of (pa_cons pe_wp pa_wp hs) (ha F H as σ _ R S fun x F1 H1 as1 p1 R1 r1 => hr F1 H1 as1 σ _ R1 (S.step p1) fun xs F2 H2 as2 p2 R2 r2 => g _ F2 H2 as2 (p1.trans p2) R2 ⟨r1.step p2, r2⟩)
theorem ev_tup {x1} {ds : List PyData} (h : EvA X es rho om (ds.map W.d) om1) (hz : ds.length ≤ sizeLine := by simp [sizeLine_eq]) : EvS X (.Tuple es x1 pos) rho om (.d (.tuple ds)) om1 := fun F H as σ Q R S g =>
  wpE_of (pe_tup pa_wp) (h F H as σ _ R S fun xs F1 H1 as1 p1 R1 r1 => by
    have r2 := RWs.toRp r1
    refine ⟨by rw [r2.length]; exact hz, fun p hp => ?_⟩
    obtain ⟨R2, p2⟩ := R1.newF (o := .tup xs) hp
    exact g _ _ _ _ (p1.trans p2) R2 (Rp.tup (SqT.of upd_same) (RpAll.mono p2.exF _ _ r2)))
/-- a new list: what it holds -/
def EvN (X : Cx) (e : Expr) (rho : List W) (om : List MO) (ws : List W) (om' : List MO) : Prop :=
  ∀ F H as σ (Q : VK), Rel X.K F H as om → RS X.K F as rho σ →
    (∀ p xs F' H' as', Stp F H as F' H' as' → Rel X.K F' H' as' om' → RWs X.K F' as' ws xs → H' p = none → Q (.ref p) (upd H' p (.lst xs))) → wpE X e σ H Q
theorem EvN.m (h : EvN X e rho om ws om1) : EvS X e rho om (.m om1.length) (om1 ++ [.lst ws]) := fun F H as σ Q R S g => h F H as σ Q R S fun p xs F1 H1 as1 p1 R1 r1 hp => by
  obtain ⟨R2, p2⟩ := R1.newM hp r1
  exact g _ _ _ _ (p1.trans p2) R2 ⟨p, by rw [← R1.len]; simp, rfl⟩
theorem EvN.d {ds : List PyData} (h : EvN X e rho om (ds.map W.d) om1) : EvS X e rho om (.d (.list ds)) om1 := fun F H as σ Q R S g => h F H as σ Q R S fun p xs F1 H1 as1 p1 R1 r1 hp => by
  obtain ⟨R2, p2⟩ := R1.newF (o := .lst xs) hp
  exact g _ _ _ _ (p1.trans p2) R2 (Rp.lst upd_same (RpAll.mono p2.exF _ _ (RWs.toRp r1)))
theorem en_lst (h : EvA X es rho om ws om1) (hz : ws.length ≤ sizeLine := by simp [sizeLine_eq]) : EvN X (.List es pos) rho om ws om1 := fun F H as σ Q R S g =>
  wpE_of (pe_lst pa_wp) (h F H as σ _ R S fun xs F1 H1 as1 p1 R1 r1 => ⟨by rw [← RWs.length r1]; exact hz, fun p hp => g p xs F1 H1 as1 p1 R1 r1 hp⟩)

/-! ### what may be read as a list, as a tuple -/
def LsT (om : List MO) : W → List W → Prop
  | .d (.list ds), ws => ws = ds.map W.d
  | .m k, ws => om[k]? = some (.lst ws)
  | .s ns, ws => ws = ns.map fun n => W.d (.int n)
  | _, _ => False
theorem rws_ints {K : PySem.W.Frag} {F : Hp} {as : List Addr} : ∀ ns : List Int, RWs K F as (ns.map fun n => W.d (.int n)) (ns.map V.int)
  | [] => trivial
  | n :: ns => ⟨Rp.int n, rws_ints ns⟩
theorem LsT.get {K : PySem.W.Frag} {F H : Hp} {as : List Addr} {v : V} (R : Rel K F H as om) (l : LsT om w ws) (r : RW K F as w v) : ∃ a xs, v = .ref a ∧ SqL K H a xs ∧ RWs K F as ws xs := by
  cases w with
  | un => exact l.elim
  | m k =>
    obtain ⟨a, h1, rfl⟩ := r
    obtain ⟨_, xs, h2, h3⟩ := R.lst h1 l
    exact ⟨a, xs, rfl, SqL.of h2, h3⟩
  | s ns =>
    obtain ⟨a, rfl, h1⟩ := r
    obtain rfl : ws = _ := l
    exact ⟨a, _, rfl, R.ex.sqL h1, rws_ints ns⟩
  | d x =>
    have r : Rp K F v x := r
    cases r with
    | lst h1 h2 =>
      obtain rfl : ws = _ := l
      exact ⟨_, _, rfl, SqL.of (R.ex _ _ h1), RWs.ofRp h2⟩
    | _ => exact l.elim
theorem rws_at {K : PySem.W.Frag} {F : Hp} {as : List Addr} {xs : List V} {i : Int} (r : RWs K F as ws xs) (h : atI ws i = some w) : ∃ v, atI xs i = some v ∧ RW K F as w v := by
  unfold atI at h ⊢
  rw [← RWs.length r]
  cases e : ixN ws.length i with
  | none => rw [e] at h; cases h
  | some j =>
    rw [e] at h
    exact RWs.get r h
theorem rp_at {K : PySem.W.Frag} {F : Hp} {xs : List V} {ds : List PyData} {d : PyData} {i : Int} (r : RpAll K F xs ds) (h : atI ds i = some d) : ∃ v, atI xs i = some v ∧ Rp K F v d := by
  unfold atI at h ⊢
  rw [r.length]
  cases e : ixN ds.length i with
  | none => rw [e] at h; cases h
  | some j =>
    rw [e] at h
    exact RpAll.get r h
theorem atI_map {α β : Type} {f : α → β} {xs : List α} {i : Int} {x : α} (h : atI xs i = some x) : atI (xs.map f) i = some (f x) := by
  unfold atI at h ⊢
  rw [List.length_map]
  cases e : ixN xs.length i with
  | none => rw [e] at h; cases h
  | some j =>
    rw [e] at h
    have h' : xs[j]? = some x := h
    show (xs.map f)[j]? = some (f x)
    rw [List.getElem?_map, h']
    rfl
theorem ev_ix {i : Int} (ha : EvS X a rho om w1 om1) (hb : EvS X b rho om1 (.d (.int i)) om2) (hl : LsT om2 w1 ws) (h : atI ws i = some w) (hs : PlainIx b := by intro _ _; rfl) : EvS X (.Subscript a b pos) rho om w om2 := fun F H as σ Q R S g =>
  wpE_of (pe_ix ix_list pe_wp pe_wp hs) (ha F H as σ _ R S fun x F1 H1 as1 p1 R1 r1 => hb F1 H1 as1 σ _ R1 (S.step p1) fun y F2 H2 as2 p2 R2 r2 => by
    have r2 : Rp X.K F2 y (.int i) := r2
    cases r2
    obtain ⟨a, xs, rfl, hq, hr⟩ := hl.get R2 (r1.step p2)
    obtain ⟨v, hv, rv⟩ := rws_at hr h
    exact ⟨a, xs, i, v, rfl, rfl, hq, hv, g v F2 H2 as2 (p1.trans p2) R2 rv⟩)
/-- data: a list's item, a tuple's -/
theorem ev_ixL {i : Int} {ds : List PyData} {x : PyData} (ha : EvS X a rho om (.d (.list ds)) om1) (hb : EvS X b rho om1 (.d (.int i)) om2) (h : atI ds i = some x) (hs : PlainIx b := by intro _ _; rfl) : EvS X (.Subscript a b pos) rho om (.d x) om2 :=
  ev_ix ha hb (ws := ds.map W.d) rfl (atI_map h) hs
theorem ev_ixT {i : Int} {ds : List PyData} {x : PyData} (ha : EvS X a rho om (.d (.tuple ds)) om1) (hb : EvS X b rho om1 (.d (.int i)) om2) (h : atI ds i = some x) (hs : PlainIx b := by intro _ _; rfl) : EvS X (.Subscript a b pos) rho om (.d x) om2 := fun F H as σ Q R S g =>
  wpE_of (pe_ix ix_tup pe_wp pe_wp hs) (ha F H as σ _ R S fun y F1 H1 as1 p1 R1 r1 => hb F1 H1 as1 σ _ R1 (S.step p1) fun z F2 H2 as2 p2 R2 r2 => by
    have r2 : Rp X.K F2 z (.int i) := r2
    have r1 : Rp X.K F1 y (.tuple ds) := r1
    cases r2
    cases r1 with
    | tup h1 h2 =>
      obtain ⟨v, hv, rv⟩ := rp_at h2 h
      exact ⟨_, _, i, v, rfl, rfl, (p2.exF.trans R2.ex).sqT h1, hv, g v F2 H2 as2 (p1.trans p2) R2 (Rp.mono p2.exF _ _ rv)⟩)
theorem ev_ixM {i : Int} {k : Nat} (ha : EvS X a rho om (.m k) om1) (hb : EvS X b rho om1 (.d (.int i)) om2) (hl : om2[k]? = some (.lst ws)) (h : atI ws i = some w) (hs : PlainIx b := by intro _ _; rfl) : EvS X (.Subscript a b pos) rho om w om2 :=
  ev_ix ha hb (ws := ws) hl h hs
theorem ev_ixS {i n : Int} {ns : List Int} (ha : EvS X a rho om (.s ns) om1) (hb : EvS X b rho om1 (.d (.int i)) om2) (h : atI ns i = some n) (hs : PlainIx b := by intro _ _; rfl) : EvS X (.Subscript a b pos) rho om (.d (.int n)) om2 :=
  ev_ix ha hb (ws := ns.map fun n => W.d (.int n)) rfl (atI_map (f := fun n => W.d (.int n)) h) hs

/-! ### slices -/
def cutA {α : Type} (xs : List α) (lo hi : Option Int) : List α := (xs.drop (HT.sIx xs.length 0 lo)).take (HT.sIx xs.length xs.length hi - HT.sIx xs.length 0 lo)
theorem RWs.take {K : PySem.W.Frag} {F : Hp} {as : List Addr} : ∀ {ws : List W} {vs : List V} (n : Nat), RWs K F as ws vs → RWs K F as (ws.take n) (vs.take n)
  | [], [], 0, _ => trivial
  | [], [], _ + 1, _ => trivial
  | _ :: _, _ :: _, 0, _ => trivial
  | _ :: _, _ :: _, n + 1, h => ⟨h.1, RWs.take n h.2⟩
  | [], _ :: _, _, h => h.elim
  | _ :: _, [], _, h => h.elim
theorem RWs.drop {K : PySem.W.Frag} {F : Hp} {as : List Addr} : ∀ {ws : List W} {vs : List V} (n : Nat), RWs K F as ws vs → RWs K F as (ws.drop n) (vs.drop n)
  | [], [], 0, _ => trivial
  | [], [], _ + 1, _ => trivial
  | _ :: _, _ :: _, 0, h => h
  | _ :: _, _ :: _, n + 1, h => RWs.drop n h.2
  | [], _ :: _, _, h => h.elim
  | _ :: _, [], _, h => h.elim
theorem rws_cut {K : PySem.W.Frag} {F : Hp} {as : List Addr} {vs : List V} {lo hi : Option Int} (r : RWs K F as ws vs) : RWs K F as (cutA ws lo hi) (cutV vs lo hi) := by
  unfold cutA cutV
  rw [RWs.length r]
  exact RWs.take _ (RWs.drop _ r)
theorem cutA_map {α β : Type} (f : α → β) (xs : List α) (lo hi : Option Int) : cutA (xs.map f) lo hi = (cutA xs lo hi).map f := by
  unfold cutA
  rw [List.length_map, List.map_take, List.map_drop]
def GoO (K : PySem.W.Frag) (F H : Hp) (as : List Addr) (o : Option Int) (om' : List MO) (Q : Option Int → Hp → Prop) : Prop :=
  ∀ F' H' as', Stp F H as F' H' as' → Rel K F' H' as' om' → Q o H'
/-- an optional part of a slice -/
def EvO (X : Cx) (o : Option Expr) (rho : List W) (om : List MO) (v : Option Int) (om' : List MO) : Prop :=
  ∃ t, PO X o t ∧ ∀ F H as σ (Q : Option Int → Hp → Prop), Rel X.K F H as om → RS X.K F as rho σ → GoO X.K F H as v om' Q → t σ H Q
theorem eo_none : EvO X none rho om none om := ⟨_, po_none, fun F H as σ Q R S g => g F H as Stp.refl R⟩
theorem eo_some {i : Int} (h : EvS X e rho om (.d (.int i)) om1) : EvO X (some e) rho om (some i) om1 := ⟨_, po_some pe_wp, fun F H as σ Q R S g => h F H as σ _ R S fun v F1 H1 as1 p1 R1 r1 => by
  have r1 : Rp X.K F1 v (.int i) := r1
  cases r1
  exact ⟨i, rfl, g F1 H1 as1 p1 R1⟩⟩
theorem en_sl {lo hi : Option Expr} {p2 : Pos} {l u : Option Int} (ha : EvS X a rho om w om1) (hl : EvO X lo rho om1 l om2) (hh : EvO X hi rho om2 u om3) (ht : LsT om3 w ws) : EvN X (.Subscript a (.Slice lo hi none p2) pos) rho om (cutA ws l u) om3 := by
  obtain ⟨tl, pl, ql⟩ := hl
  obtain ⟨tu, pu, qu⟩ := hh
  exact fun F H as σ Q R S g => wpE_of (pe_slice sl_list pe_wp pl pu) (ha F H as σ _ R S fun x F1 H1 as1 p1 R1 r1 => ql F1 H1 as1 σ _ R1 (S.step p1) fun F2 H2 as2 p2 R2 => qu F2 H2 as2 σ _ R2 (S.step (p1.trans p2)) fun F3 H3 as3 p3 R3 => by
    obtain ⟨a, xs, rfl, hq, hr⟩ := ht.get R3 (r1.step (p2.trans p3))
    exact ⟨a, xs, rfl, hq, fun p hp => g p _ F3 H3 as3 ((p1.trans p2).trans p3) R3 (rws_cut hr) hp⟩)
theorem en_slD {lo hi : Option Expr} {p2 : Pos} {l u : Option Int} {ds : List PyData} (ha : EvS X a rho om (.d (.list ds)) om1) (hl : EvO X lo rho om1 l om2) (hh : EvO X hi rho om2 u om3) : EvN X (.Subscript a (.Slice lo hi none p2) pos) rho om ((cutA ds l u).map W.d) om3 := by
  rw [← cutA_map]
  exact en_sl ha hl hh rfl

/-! ### calls of built-ins -/
def CallD (K : PySem.W.Frag) (r : List V → Hp → VK → Prop) (ws : List W) (om : List MO) (w : W) (om' : List MO) : Prop :=
  ∀ F H as vs (Q : VK), Rel K F H as om → RWs K F as ws vs → Go K F H as w om' Q → r vs H Q
variable {x : Str} {p : Pos} {id : String} {T : String} {r : List V → Hp → VK → Prop}
theorem ev_callB (hc : CallR X (.builtin id) r) (hm : X.mg x = none) (ha : EvA X (e :: es) rho om ws om1) (hr : CallD X.K r ws om1 w om2) (hg : Gl X x := by rfl) (hv : bootBuiltins x = some (.builtin id) := by decide +kernel) (hn : x ≠ "__name__" := by decide) (hdb : (x == ("__debug__" : Str)) = false := by decide)
    (he : starEach (e :: es) X.env = (false, eval e X.env) :: starEach es X.env := by rfl) (hpl : (backTo pos (starEach es X.env)).any (·.1) = false := by rfl) : EvS X (.Call (.Name x p) (e :: es) [] pos) rho om w om2 := fun F H as σ Q R S g =>
  wpE_of (pe_callB hc hg hm hv pa_wp hn hdb he hpl) (ha F H as σ _ R S fun vs F1 H1 as1 p1 R1 r1 => hr F1 H1 as1 vs Q R1 r1 (g.step p1))
theorem ev_callTy (hc : CallR X (.type T) r) (hm : X.mg x = none) (ha : EvA X (e :: es) rho om ws om1) (hr : CallD X.K r ws om1 w om2) (hg : Gl X x := by rfl) (hv : bootBuiltins x = some (.type T) := by decide +kernel) (hn : x ≠ "__name__" := by decide) (hdb : (x == ("__debug__" : Str)) = false := by decide)
    (he : starEach (e :: es) X.env = (false, eval e X.env) :: starEach es X.env := by rfl) (hpl : (backTo pos (starEach es X.env)).any (·.1) = false := by rfl) : EvS X (.Call (.Name x p) (e :: es) [] pos) rho om w om2 := fun F H as σ Q R S g =>
  wpE_of (pe_callTy hc hg hm hv pa_wp hn hdb he hpl) (ha F H as σ _ R S fun vs F1 H1 as1 p1 R1 r1 => hr F1 H1 as1 vs Q R1 r1 (g.step p1))
theorem ev_callF (hc : CallR X (.builtin id) r) (hm : X.mg x = some (.builtin id)) (ha : EvA X (e :: es) rho om ws om1) (hr : CallD X.K r ws om1 w om2) (hg : Gl X x := by rfl) (hdb : (x == ("__debug__" : Str)) = false := by decide)
    (he : starEach (e :: es) X.env = (false, eval e X.env) :: starEach es X.env := by rfl) (hpl : (backTo pos (starEach es X.env)).any (·.1) = false := by rfl) : EvS X (.Call (.Name x p) (e :: es) [] pos) rho om w om2 := fun F H as σ Q R S g =>
  wpE_of (pe_callBfun hc hg hm pa_wp hdb he hpl) (ha F H as σ _ R S fun vs F1 H1 as1 p1 R1 r1 => hr F1 H1 as1 vs Q R1 r1 (g.step p1))
end
end G

set_option Elab.async false
set_option linter.all false
set_option maxRecDepth 100000
set_option maxHeartbeats 2000000
namespace G
open PySem PySem.Spec PyProof.Rows L2

section
variable {X : Cx} {rho rho1 : List W} {om om1 om2 om3 : List MO} {a b e : Expr} {es : List Expr} {st : Stmt} {rest body : List Stmt} {w w1 w2 : W} {ws : List W} {pos : Pos} {P : Post}

/-! ### statements -/
theorem wp_nil (h : P.nx rho om) : Wp X [] rho om P := fun F H as σ D R S g => wpSs_of pss_nil (g.nx σ F H as rho om Stp.refl R S h)
theorem wp_cons (h : Wp1 X st rho om { P with nx := fun r o => Wp X rest r o P }) : Wp X (st :: rest) rho om P := fun F H as σ D R S g =>
  wpSs_of (pss_cons ps_wp pss_wp) (h F H as σ _ R S ⟨fun σ' F' H' as' rho' om' p R' S' q => q F' H' as' σ' D R' S' (g.step p), g.rt, g.bk, g.ct⟩)
theorem wp_one (h : Wp1 X st rho om P) : Wp X [st] rho om P := fun F H as σ D R S g => wpSs_of (pss_one ps_wp) (h F H as σ D R S g)
theorem Wp.imp {P' : Post} (h : Wp X rest rho om P) (h1 : ∀ r o, P.nx r o → P'.nx r o) (h2 : ∀ r o, P.rt r o → P'.rt r o) (h3 : ∀ r o, P.bk r o → P'.bk r o) (h4 : ∀ r o, P.ct r o → P'.ct r o) : Wp X rest rho om P' := fun F H as σ D R S g =>
  h F H as σ D R S ⟨g.nx.imp h1, fun v F' H' as' w om' p R' r' q => g.rt v F' H' as' w om' p R' r' (h2 _ _ q), g.bk.imp h3, g.ct.imp h4⟩
theorem Wp1.imp {P' : Post} (h : Wp1 X st rho om P) (h1 : ∀ r o, P.nx r o → P'.nx r o) (h2 : ∀ r o, P.rt r o → P'.rt r o) (h3 : ∀ r o, P.bk r o → P'.bk r o) (h4 : ∀ r o, P.ct r o → P'.ct r o) : Wp1 X st rho om P' := fun F H as σ D R S g =>
  h F H as σ D R S ⟨g.nx.imp h1, fun v F' H' as' w om' p R' r' q => g.rt v F' H' as' w om' p R' r' (h2 _ _ q), g.bk.imp h3, g.ct.imp h4⟩
/-- name = e -/
theorem wp1_set (i : Nat) {x : Str} {px : Pos} (hc : X.N.Nodup) (he : EvS X e rho om w om1) (k : P.nx (rho.set i w) om1) (hi : X.N[i]? = some x := by rfl) (hx : Loc X.env.scope x := by first | exact Or.inl rfl | exact Or.inr rfl)
    (hs : swapsWith e (some (.Name x px)) pos.line X.env = pure false := by rfl) (hf : X.fn x = true ∨ X.env.scope.names.lookup x = some .local := by first | exact .inl rfl | exact .inr rfl) : Wp1 X (.Assign [.Name x px] e pos) rho om P := fun F H as σ D R S g =>
  wpS_of (ps_set hc hi hx pe_wp hs hf) (he F H as σ _ R S fun v F1 H1 as1 p1 R1 r1 => g.nx _ F1 H1 as1 _ om1 p1 R1 (RS.set r1 i (S.step p1)) k)
/-- any target -/
theorem wp1_asg {tg : Expr} (he : EvS X e rho om w om1) (ht : TgS X tg w rho rho1) (k : P.nx rho1 om1) (hs : swapsWithSole [tg] e pos.line X.env = pure false := by rfl) (hw : swappedStores [tg] e X.env = pure none := by rfl)
    (h1 : (assignEach [tg] X.env).map (·.2) = [assign tg X.env] := by rfl) : Wp1 X (.Assign [tg] e pos) rho om P := fun F H as σ D R S g =>
  wpS_of (ps_asg pe_wp pg_wp hs hw h1) (he F H as σ _ R S fun v F1 H1 as1 p1 R1 r1 => ht F1 H1 as1 om1 σ v _ R1 (S.step p1) r1 fun σ' S' => g.nx σ' F1 H1 as1 rho1 om1 p1 R1 S' k)
/-- a, b = x, y (plain locals) -/
theorem wp1_par (i j : Nat) {x y : Str} {px py pt : Pos} {kt k2 pt2} (hcl : X.calm = true) (hc : X.N.Nodup) (ha : EvA X [a, b] rho om [w1, w2] om1) (k : P.nx ((rho.set i w1).set j w2) om1) (hi : X.N[i]? = some x := by rfl) (hj : X.N[j]? = some y := by rfl) (hij : i ≠ j := by decide)
    (hx : X.env.scope.names.lookup x = some .local := by rfl) (hy : X.env.scope.names.lookup y = some .local := by rfl)
    (hw : swappedStores [.Tuple [.Name x px, .Name y py] kt pt] (.Tuple [a, b] k2 pt2) X.env = pure (some [x, y]) := by rfl)
    (hs : swapsWithSole [.Tuple [.Name x px, .Name y py] kt pt] (.Tuple [a, b] k2 pt2) pos.line X.env = pure false := by rfl) :
    Wp1 X (.Assign [.Tuple [.Name x px, .Name y py] kt pt] (.Tuple [a, b] k2 pt2) pos) rho om P := fun F H as σ D R S g =>
  wpS_of (ps_par hcl hc hi hj hij hx hy pa_wp hw hs) (ha F H as σ _ R S fun vs F1 H1 as1 p1 R1 r1 => by
    match vs, r1 with
    | [v, u], ⟨r1, r2, _⟩ => exact ⟨v, u, rfl, g.nx _ F1 H1 as1 _ om1 p1 R1 (RS.set r2 j (RS.set r1 i (S.step p1))) k⟩)
theorem tg_name (i : Nat) {x : Str} (hc : X.N.Nodup) (hi : X.N[i]? = some x := by rfl) (hx : Loc X.env.scope x := by first | exact Or.inl rfl | exact Or.inr rfl)
    (hf : X.fn x = true ∨ X.env.scope.names.lookup x = some .local := by first | exact .inl rfl | exact .inr rfl) : TgS X (.Name x pos) w rho (rho.set i w) := fun F H as om σ v Q R S r k =>
  wpG_of (pg_name hc hi hx hf) (k _ (RS.set r i S))
/-- several targets -/
def TgSs (X : Cx) (tgs : List Expr) (ds : List PyData) (rho rho' : List W) : Prop :=
  ∃ t, PGs X tgs t ∧ ∀ F H as om σ vs (Q : L2.St → Hp → Prop), Rel X.K F H as om → RS X.K F as rho σ → RpAll X.K F vs ds → (∀ σ', RS X.K F as rho' σ' → Q σ' H) → t vs σ H Q
theorem tgs_nil : TgSs X [] [] rho rho := ⟨_, pgs_nil, fun F H as om σ vs Q R S r k => by cases r; exact ⟨rfl, k _ S⟩⟩
theorem tgs_cons {tg : Expr} {tgs : List Expr} {d : PyData} {ds : List PyData} {rho2 : List W} (h : TgS X tg (.d d) rho rho1) (h2 : TgSs X tgs ds rho1 rho2)
    (hs : (assignEach (tg :: tgs) X.env).map (·.2) = assign tg X.env :: (assignEach tgs X.env).map (·.2) := by rfl) : TgSs X (tg :: tgs) (d :: ds) rho rho2 := by
  obtain ⟨t, p, q⟩ := h2
  exact ⟨_, pgs_cons pg_wp p hs, fun F H as om σ vs Q R S r k => by
    cases r with
    | cons r1 r2 => exact ⟨_, _, rfl, h F H as om σ _ _ R S r1 fun σ1 S1 => q F H as om σ1 _ _ R S1 r2 k⟩⟩
theorem tg_tup {tgs : List Expr} {ds : List PyData} {k : Nat} (hc : X.calm = true) (h : TgSs X tgs ds rho rho1) (hl : (assignEach tgs X.env).length = ds.length := by rfl) (hst : (assignEach tgs X.env).findIdx? (·.1) = none := by rfl) : TgS X (.Tuple tgs k pos) (.d (.tuple ds)) rho rho1 := by
  obtain ⟨t, p, q⟩ := h
  exact fun F H as om σ v Q R S r kk => wpG_of (pg_tup hc p rfl hst) (by
    have r : Rp X.K F v (.tuple ds) := r
    cases r with
    | tup h1 h2 => exact ⟨_, _, rfl, R.ex.sqT h1, by rw [h2.length, hl], q F H as om σ _ _ R S h2 kk⟩)
/-- o[i] = e at a mutable list -/
theorem wp1_setix {o i : Expr} {ps : Pos} {k n : Nat} {j : Int} (he : EvS X e rho om w om1) (ho : EvS X o rho om1 (.m k) om2) (hi : EvS X i rho om2 (.d (.int j)) om3) (hk : om3[k]? = some (.lst ws)) (hn : ixN ws.length j = some n) (q : P.nx rho (om3.set k (.lst (ws.set n w))))
    (ha : ∀ v, assign (.Subscript o i ps) X.env v = (do
      let ov ← holding [v] (eval o X.env)
      let iv ← holding [v, ov] (eval i X.env)
      standAt ps
      holding [v, ov, iv] (setItem ov iv v)
      release [v, ov, iv] []) := by intro _; rfl)
    (hs : swapsWithSole [.Subscript o i ps] e pos.line X.env = pure false := by rfl) (hw : swappedStores [.Subscript o i ps] e X.env = pure none := by rfl)
    (h1 : (assignEach [.Subscript o i ps] X.env).map (·.2) = [assign (.Subscript o i ps) X.env] := by rfl) : Wp1 X (.Assign [.Subscript o i ps] e pos) rho om P := fun F H as σ D R S g =>
  wpS_of (ps_asg pe_wp (pg_sub pe_wp pe_wp set_list ha) hs hw h1) (he F H as σ _ R S fun v F1 H1 as1 p1 R1 r1 => ho F1 H1 as1 σ _ R1 (S.step p1) fun y F2 H2 as2 p2 R2 r2 => hi F2 H2 as2 σ _ R2 (S.step (p1.trans p2)) fun z F3 H3 as3 p3 R3 r3 => by
    have r3 : Rp X.K F3 z (.int j) := r3
    cases r3
    obtain ⟨a, ha, rfl⟩ := r2.step p3
    obtain ⟨hF, xs, hx, hr⟩ := R3.lst ha hk
    obtain ⟨R4, p4⟩ := R3.write ha hF (RWs.set (r1.step (p2.trans p3)) n hr)
    exact ⟨a, xs, j, n, rfl, rfl, hx, by rw [← RWs.length hr]; exact hn, g.nx σ F3 _ as3 rho _ (((p1.trans p2).trans p3).trans p4) R4 (S.step (((p1.trans p2).trans p3).trans p4)) q⟩)
/-- name op= e -/
theorem wp1_aug (i : Nat) {x : Str} {px : Pos} {op : Operator} {f : Int → Int → Int} {m n : Int} (hc : X.N.Nodup) (ho : PIp X op (ipI f)) (hr : rho[i]? = some (.d (.int m))) (he : EvS X e rho om (.d (.int n)) om1) (k : P.nx (rho.set i (.d (.int (f m n)))) om1)
    (hi : X.N[i]? = some x := by rfl) (hx : Loc X.env.scope x := by first | exact Or.inl rfl | exact Or.inr rfl) (hf : X.fn x = true ∨ X.env.scope.names.lookup x = some .local := by first | exact .inl rfl | exact .inr rfl) : Wp1 X (.AugAssign (.Name x px) op e pos) rho om P := fun F H as σ D R S g => by
  obtain ⟨v, h1, h2⟩ := S.get hr (fun z => by cases z)
  have h2 : Rp X.K F v (.int m) := h2
  cases h2
  exact wpS_of (ps_aug hc hi hx pe_wp ho hf) ⟨_, h1, he F H as σ _ R S fun y F1 H1 as1 p1 R1 r1 => by
    have r1 : Rp X.K F1 y (.int n) := r1
    cases r1
    exact ⟨m, n, rfl, rfl, g.nx _ F1 H1 as1 _ om1 p1 R1 (RS.set (w := .d (.int (f m n))) (Rp.int _) i (S.step p1)) k⟩⟩
theorem wp1_ret (he : EvS X e rho om w om1) (k : P.rt w om1) : Wp1 X (.Return (some e) pos) rho om P := fun F H as σ D R S g =>
  wpS_of (ps_ret pe_wp) (he F H as σ _ R S fun v F1 H1 as1 p1 R1 r1 => g.rt v F1 H1 as1 w om1 p1 R1 r1 k)
theorem wp1_retN (k : P.rt (.d .none) om) : Wp1 X (.Return none pos) rho om P := fun F H as σ D R S g =>
  wpS_of ps_retN (g.rt .non F H as (.d .none) om Stp.refl R (show Rp X.K F .non .none from Rp.non) k)
theorem wp1_if {c : Expr} {els : List Stmt} {p : Bool} (hc : EvT X c rho om p om1) (h1 : p = true → Wp X body rho om1 P) (h2 : p = false → Wp X els rho om1 P) : Wp1 X (.If c body els pos) rho om P := fun F H as σ D R S g =>
  wpS_of (ps_if pt_wp pss_wp pss_wp) (hc F H as σ _ R S fun F1 H1 as1 p1 R1 => by
    cases p with
    | true => rw [if_pos rfl]; exact h1 rfl F1 H1 as1 σ D R1 (S.step p1) (g.step p1)
    | false => rw [if_neg Bool.false_ne_true]; exact h2 rfl F1 H1 as1 σ D R1 (S.step p1) (g.step p1))
theorem wp1_expr (he : EvS X e rho om w om1) (k : P.nx rho om1) (hs : swapsWith e none pos.line X.env = pure false := by rfl) : Wp1 X (.Expr e pos) rho om P := fun F H as σ D R S g =>
  wpS_of (ps_expr pe_wp hs) (he F H as σ _ R S fun v F1 H1 as1 p1 R1 r1 => g.nx σ F1 H1 as1 rho om1 p1 R1 (S.step p1) k)
theorem wp1_doc {x j pos pos'} (k : P.nx rho om) : Wp1 X (.Expr (.Constant (.str x) j pos) pos') rho om P := fun F H as σ D R S g =>
  wpS_of ps_doc (g.nx σ F H as rho om Stp.refl R S k)
theorem wp1_break (k : P.bk rho om) : Wp1 X (.Break pos) rho om P := fun F H as σ D R S g => wpS_of ps_break (g.bk σ F H as rho om Stp.refl R S k)
theorem wp1_cont (k : P.ct rho om) : Wp1 X (.Continue pos) rho om P := fun F H as σ D R S g => wpS_of ps_continue (g.ct σ F H as rho om Stp.refl R S k)
theorem wp1_pass (k : P.nx rho om) : Wp1 X (.Pass pos) rho om P := fun F H as σ D R S g => wpS_of ps_pass (g.nx σ F H as rho om Stp.refl R S k)

/-! ### methods of lists -/
/-- o.append(e) -/
theorem ev_append {o : Expr} {apos : Pos} {k : Nat} (ho : EvS X o rho om (.m k) om1) (he : EvA X [e] rho om1 [w] om2) (hk : om2[k]? = some (.lst ws)) (hk1 : ∃ ws', om1[k]? = some (.lst ws')) (hz : ws.length < sizeLine)
    (hbase : attributeBase o "append" X.env (eval o X.env) = eval o X.env := by rfl)
    (hfew : ((backTo pos (starEach [e] X.env)).all (fun x => !x.1) && (backToKw pos (keywordEach [] X.env)).all (fun x => x.1.isSome)
      && decide (([e] : List Expr).length + ([] : List Keyword).length + (if ([] : List Keyword).isEmpty then 0 else 1) < 30)) = true := by rfl)
    (hline : (apos.endLine == pos.line) = true := by rfl) (hs : starEach [e] X.env = (false, eval e X.env) :: starEach [] X.env := by rfl) (hplain : (backTo pos (starEach [] X.env)).any (·.1) = false := by rfl) :
    EvS X (.Call (.Attribute o "append" apos) [e] [] pos) rho om (.d .none) (om2.set k (.lst (ws ++ [w]))) := fun F H as σ Q R S g =>
  wpE_of (pe_bm PySem.F.plainAttrs_list PySem.F.slot_list_append PySem.F.type_list_append mt_append pe_wp pa_wp hbase hfew hline hs hplain) (ho F H as σ _ R S fun x F1 H1 as1 p1 R1 r1 => by
    obtain ⟨a, ha, rfl⟩ := r1
    obtain ⟨ws', hk1⟩ := hk1
    obtain ⟨_, xs', hx', _⟩ := R1.lst ha hk1
    refine ⟨Or.inl ⟨rfl, _, SqL.of hx'⟩, he F1 H1 as1 σ _ R1 (S.step p1) fun ys F2 H2 as2 p2 R2 r2 => ?_⟩
    obtain ⟨y, rfl, r2'⟩ : ∃ y, ys = [y] ∧ RW X.K F2 as2 w y := match ys, r2 with
      | [y], ⟨h, _⟩ => ⟨y, rfl, h⟩
    have ha2 := pre_get p2.pre ha
    obtain ⟨hF, xs, hx, hr⟩ := R2.lst ha2 hk
    have hr' : RWs X.K F2 as2 (ws ++ [w]) (xs ++ [y]) := RWs.append hr ⟨r2', trivial⟩
    obtain ⟨R4, p4⟩ := R2.write ha2 hF hr'
    exact ⟨a, xs, y, rfl, rfl, hx, by rw [← RWs.length hr]; exact hz, g _ F2 _ as2 ((p1.trans p2).trans p4) R4 Rp.non⟩)
/-- o.extend(e), e data -/
theorem ev_extend {o : Expr} {apos : Pos} {k : Nat} {ds : List PyData} (ho : EvS X o rho om (.m k) om1) (he : EvA X [e] rho om1 [.d (.list ds)] om2) (hk : om2[k]? = some (.lst ws)) (hk1 : ∃ ws', om1[k]? = some (.lst ws')) (hz : ws.length + ds.length ≤ sizeLine)
    (hbase : attributeBase o "extend" X.env (eval o X.env) = eval o X.env := by rfl)
    (hfew : ((backTo pos (starEach [e] X.env)).all (fun x => !x.1) && (backToKw pos (keywordEach [] X.env)).all (fun x => x.1.isSome)
      && decide (([e] : List Expr).length + ([] : List Keyword).length + (if ([] : List Keyword).isEmpty then 0 else 1) < 30)) = true := by rfl)
    (hline : (apos.endLine == pos.line) = true := by rfl) (hs : starEach [e] X.env = (false, eval e X.env) :: starEach [] X.env := by rfl) (hplain : (backTo pos (starEach [] X.env)).any (·.1) = false := by rfl) :
    EvS X (.Call (.Attribute o "extend" apos) [e] [] pos) rho om (.d .none) (om2.set k (.lst (ws ++ ds.map W.d))) := fun F H as σ Q R S g =>
  wpE_of (pe_bm PySem.F.plainAttrs_list PySem.F.slot_list_extend PySem.F.type_list_extend mt_extend pe_wp pa_wp hbase hfew hline hs hplain) (ho F H as σ _ R S fun x F1 H1 as1 p1 R1 r1 => by
    obtain ⟨a, ha, rfl⟩ := r1
    obtain ⟨ws', hk1⟩ := hk1
    obtain ⟨_, xs', hx', _⟩ := R1.lst ha hk1
    refine ⟨Or.inl ⟨rfl, _, SqL.of hx'⟩, he F1 H1 as1 σ _ R1 (S.step p1) fun ys F2 H2 as2 p2 R2 r2 => ?_⟩
    obtain ⟨y, rfl, r2'⟩ : ∃ y, ys = [y] ∧ RW X.K F2 as2 (.d (.list ds)) y := match ys, r2 with
      | [y], ⟨h, _⟩ => ⟨y, rfl, h⟩
    have r2 : Rp X.K F2 y (.list ds) := r2'
    cases r2 with
    | lst h1 h2 =>
      have ha2 := pre_get p2.pre ha
      obtain ⟨hF, xs, hx, hr⟩ := R2.lst ha2 hk
      have hr' := RWs.append hr (RWs.ofRp (as := as2) h2)
      obtain ⟨R4, p4⟩ := R2.write ha2 hF hr'
      exact ⟨a, _, xs, _, rfl, rfl, hx, R2.ex _ _ h1, by rw [← RWs.length hr, h2.length]; exact hz, g _ F2 _ as2 ((p1.trans p2).trans p4) R4 Rp.non⟩)

/-! ### while -/
theorem wp1_while {c : Expr} (hp : PassesOwn (model X.prog X.w) X.A X.env X.xe) (I : List W → List MO → Prop) (mu : List W → List MO → Nat) (h0 : I rho om)
    (hs : ∀ r o, I r o → ∃ p o1, EvT X c r o p o1 ∧ (p = true → Wp X body r o1 { P with nx := fun r' o' => I r' o' ∧ mu r' o' < mu r o, ct := fun r' o' => I r' o' ∧ mu r' o' < mu r o, bk := P.nx }) ∧ (p = false → P.nx r o1)) : Wp1 X (.While c body [] pos) rho om P := fun F H as σ D R S g =>
  wpS_of (ps_while hp pt_wp pss_wp) (by
    refine ⟨fun m σ' H' => ∃ F' as' r o, Stp F H as F' H' as' ∧ Rel X.K F' H' as' o ∧ RS X.K F' as' r σ' ∧ I r o ∧ mu r o = m, ⟨_, F, as, rho, om, Stp.refl, R, S, h0, rfl⟩, ?_⟩
    rintro m σ' H' ⟨F', as', r, o, p', R', S', hi, rfl⟩
    obtain ⟨p, o1, hc, ht, hf⟩ := hs r o hi
    refine hc F' H' as' σ' _ R' S' fun F1 H1 as1 p1 R1 => ?_
    cases p with
    | true =>
      rw [if_pos rfl]
      refine ⟨fun σ2 H2 => ∃ m', m' < mu r o ∧ ∃ F2 as2 r2 o2, Stp F H as F2 H2 as2 ∧ Rel X.K F2 H2 as2 o2 ∧ RS X.K F2 as2 r2 σ2 ∧ I r2 o2 ∧ mu r2 o2 = m', fun σ2 H2 h => h, ?_⟩
      have nxt : GoS X.K F1 H1 as1 (fun r' o' => I r' o' ∧ mu r' o' < mu r o) (fun σ2 H2 => ∃ m', m' < mu r o ∧ ∃ F2 as2 r2 o2, Stp F H as F2 H2 as2 ∧ Rel X.K F2 H2 as2 o2 ∧ RS X.K F2 as2 r2 σ2 ∧ I r2 o2 ∧ mu r2 o2 = m') := fun σ2 F2 H2 as2 r2 o2 p2 R2 S2 ⟨hi2, hm⟩ =>
        ⟨_, hm, F2, as2, r2, o2, (p'.trans p1).trans p2, R2, S2, hi2, rfl⟩
      exact ht rfl F1 H1 as1 σ' _ R1 (S'.step p1) ⟨nxt, (g.step (p'.trans p1)).rt, fun σ2 F2 H2 as2 r2 o2 p2 R2 S2 q => g.nx σ2 F2 H2 as2 r2 o2 ((p'.trans p1).trans p2) R2 S2 q, nxt⟩
    | false =>
      rw [if_neg Bool.false_ne_true]
      exact g.nx σ' F1 H1 as1 r o1 (p'.trans p1) R1 (S'.step p1) (hf rfl))

/-! ### what is walked: the words, one a turn (data alone) -/
def ItS (X : Cx) (tg iter : Expr) (rho : List W) (om : List MO) (ds : List W) (om1 : List MO) : Prop :=
  ∀ F H as σ (R : It → Hp → Prop), Rel X.K F H as om → RS X.K F as rho σ →
    (∀ J F1 H1 as1, Stp F H as F1 H1 as1 → Rel X.K F1 H1 as1 om1 →
      (∀ i F2 H2 as2 om2, Stp F1 H1 as1 F2 H2 as2 → Rel X.K F2 H2 as2 om2 → (i = ds.length → J.stop i H2) ∧ ∀ w, ds[i]? = some w → J.go i H2 ∧ ∀ x H3, J.yld i H2 x H3 → ∃ F3, Stp F2 H2 as2 F3 H3 as2 ∧ Rel X.K F3 H3 as2 om2 ∧ RW X.K F3 as2 w x) → R J H1) →
    wpI X tg iter σ H R
/-- a list of data -/
theorem it_list {tg : Expr} {ds : List PyData} (h : EvS X e rho om (.d (.list ds)) om1) : ItS X tg e rho om (ds.map W.d) om1 := fun F H as σ Rr R S g =>
  wpI_of (pi_list pe_wp) (h F H as σ _ R S fun v F1 H1 as1 p1 R1 r1 => by
    have r1 : Rp X.K F1 v (.list ds) := r1
    cases r1 with
    | lst h1 h2 =>
      refine ⟨_, rfl, ⟨_, SqL.of (R1.ex _ _ h1)⟩, g _ F1 H1 as1 p1 R1 fun i F2 H2 as2 om2 p2 R2 => ⟨fun hi => ⟨_, SqL.of (R2.ex _ _ (p2.exF _ _ h1)), by rw [h2.length, hi]; simp⟩, fun w hw => ?_⟩⟩
      rw [List.getElem?_map] at hw
      cases hd : ds[i]? with
      | none => rw [hd] at hw; cases hw
      | some d =>
        rw [hd] at hw
        cases hw
        obtain ⟨v, hv, rv⟩ := h2.get hd
        have hq : SqL X.K H2 _ _ := SqL.of (R2.ex _ _ (p2.exF _ _ h1))
        refine ⟨⟨_, v, hq, hv⟩, fun x H3 hy => ?_⟩
        obtain ⟨rfl, hx⟩ := hy
        have := hx _ hq
        rw [hv] at this
        cases this
        exact ⟨F2, Stp.refl, R2, Rp.mono p2.exF _ _ rv⟩)
theorem it_tup {tg : Expr} {ds : List PyData} (h : EvS X e rho om (.d (.tuple ds)) om1) : ItS X tg e rho om (ds.map W.d) om1 := fun F H as σ Rr R S g =>
  wpI_of (pi_tup pe_wp) (h F H as σ _ R S fun v F1 H1 as1 p1 R1 r1 => by
    have r1 : Rp X.K F1 v (.tuple ds) := r1
    cases r1 with
    | tup h1 h2 =>
      refine ⟨_, rfl, ⟨_, R1.ex.sqT h1⟩, g _ F1 H1 as1 p1 R1 fun i F2 H2 as2 om2 p2 R2 => ⟨fun hi => ⟨_, (p2.exF.trans R2.ex).sqT h1, by rw [h2.length, hi]; simp⟩, fun w hw => ?_⟩⟩
      rw [List.getElem?_map] at hw
      cases hd : ds[i]? with
      | none => rw [hd] at hw; cases hw
      | some d =>
        rw [hd] at hw
        cases hw
        obtain ⟨v, hv, rv⟩ := h2.get hd
        have hq : SqT X.K H2 _ _ := (p2.exF.trans R2.ex).sqT h1
        refine ⟨⟨_, v, hq, hv⟩, fun x H3 hy => ?_⟩
        obtain ⟨rfl, hx⟩ := hy
        have := hx _ hq
        rw [hv] at this
        cases this
        exact ⟨F2, Stp.refl, R2, Rp.mono p2.exF _ _ rv⟩)
def rngW (lo : Int) (n : Nat) : List W := (List.range n).map fun (k : Nat) => W.d (.int (lo + (k : Int)))
theorem it_rng {lo : Int} {n : Nat} {F1 H1 : Hp} {as1 : List Addr} : ∀ (i : Nat) F2 H2 as2 om2, Stp F1 H1 as1 F2 H2 as2 → Rel X.K F2 H2 as2 om2 → (i = (rngW lo n).length → (Itr lo n).stop i H2) ∧ ∀ w, (rngW lo n)[i]? = some w → (Itr lo n).go i H2 ∧ ∀ x H3, (Itr lo n).yld i H2 x H3 → ∃ F3, Stp F2 H2 as2 F3 H3 as2 ∧ Rel X.K F3 H3 as2 om2 ∧ RW X.K F3 as2 w x := by
  intro i F2 H2 as2 om2 p R
  refine ⟨fun hi => ?_, fun w hw => ?_⟩
  · unfold rngW at hi
    rw [List.length_map, List.length_range] at hi
    exact Nat.le_of_eq hi.symm
  · unfold rngW at hw
    rw [List.getElem?_map] at hw
    cases hd : (List.range n)[i]? with
    | none => rw [hd] at hw; cases hw
    | some d =>
      rw [hd] at hw
      cases hw
      obtain ⟨hl, hd'⟩ := List.getElem?_eq_some_iff.mp hd
      rw [List.getElem_range] at hd'
      subst hd'
      rw [List.length_range] at hl
      refine ⟨hl, fun x H3 hy => ?_⟩
      obtain ⟨rfl, rfl⟩ := hy
      exact ⟨F2, Stp.refl, R, Rp.int _⟩
theorem it_range1 {tg : Expr} {p pos : Pos} {n : Int} (hm : X.mg "range" = none) (ha : EvA X [a] rho om [.d (.int n)] om1) (hn : -(2 ^ 62) ≤ n ∧ n < 2 ^ 62) (hg : Gl X "range" := by rfl) (hs : starEach [a] X.env = [(false, eval a X.env)] := by rfl) :
    ItS X tg (.Call (.Name "range" p) [a] [] pos) rho om (rngW 0 n.toNat) om1 := fun F H as σ Rr R S g =>
  wpI_of (pi_range1 hg hm pa_wp hs) (ha F H as σ _ R S fun vs F1 H1 as1 p1 R1 r1 => by
    obtain rfl : vs = [.int n] := match vs, r1 with
      | [v], ⟨h, _⟩ => by
        have h : Rp X.K F1 v (.int n) := h
        cases h
        rfl
    exact ⟨n, rfl, hn.1, hn.2, g _ F1 H1 as1 p1 R1 it_rng⟩)
theorem it_range2 {tg : Expr} {p pos : Pos} {m n : Int} (hm : X.mg "range" = none) (ha : EvA X [a, b] rho om [.d (.int m), .d (.int n)] om2) (hn : -(2 ^ 62) ≤ m ∧ m < 2 ^ 62 ∧ -(2 ^ 62) ≤ n ∧ n < 2 ^ 62) (hg : Gl X "range" := by rfl)
    (hs : starEach [a, b] X.env = [(false, eval a X.env), (false, eval b X.env)] := by rfl) (hs2 : starEach [b] X.env = [(false, eval b X.env)] := by rfl) :
    ItS X tg (.Call (.Name "range" p) [a, b] [] pos) rho om (rngW m (n - m).toNat) om2 := fun F H as σ Rr R S g =>
  wpI_of (pi_range2 hg hm pa_wp hs hs2) (ha F H as σ _ R S fun vs F1 H1 as1 p1 R1 r1 => by
    obtain rfl : vs = [.int m, .int n] := match vs, r1 with
      | [v, u], ⟨h, h2, _⟩ => by
        have h : Rp X.K F1 v (.int m) := h
        have h2 : Rp X.K F1 u (.int n) := h2
        cases h
        cases h2
        rfl
    exact ⟨m, n, rfl, hn, g _ F1 H1 as1 p1 R1 it_rng⟩)

/-! ### for: an invariant by the turn -/
theorem wp1_for {tg iter : Expr} {ds : List W} (hp : PassesOwn (model X.prog X.w) X.A X.env X.xe) (hcl : X.calm = true) (hi : ItS X tg iter rho om ds om1) (I : Nat → List W → List MO → Prop) (h0 : I 0 rho om1)
    (hs : ∀ i w r o, ds[i]? = some w → I i r o → ∃ r1, TgS X tg w r r1 ∧ Wp X body r1 o { P with nx := I (i + 1), ct := I (i + 1), bk := P.nx }) (hd : ∀ r o, I ds.length r o → P.nx r o)
    (hf : ∀ x, foldedSetIterable iter X.env x = pure x := by intro _; rfl) : Wp1 X (.For tg iter body [] pos) rho om P := fun F H as σ D R S g =>
  wpS_of (ps_for hp hcl pi_wp pg_wp pss_wp hf) (hi F H as σ _ R S fun J F1 H1 as1 p1 R1 hJ => by
    refine ⟨fun i m σ' H' => m = ds.length - i ∧ i ≤ ds.length ∧ ∃ F' as' r o, Stp F1 H1 as1 F' H' as' ∧ Rel X.K F' H' as' o ∧ RS X.K F' as' r σ' ∧ I i r o, ⟨_, rfl, Nat.zero_le _, F1, as1, rho, om1, Stp.refl, R1, S.step p1, h0⟩, ?_⟩
    rintro i m σ' H' ⟨rfl, hle, F', as', r, o, p', R', S', hi⟩
    obtain ⟨hst, hgo⟩ := hJ i F' H' as' o p' R'
    by_cases hlt : i < ds.length
    · have hw : ds[i]? = some ds[i] := List.getElem?_eq_getElem hlt
      obtain ⟨r1, ht, hb⟩ := hs i ds[i] r o hw hi
      obtain ⟨g1, g2⟩ := hgo _ hw
      refine .inr ⟨g1, fun σ2 H2 => ∃ F2 as2 r2 o2, Stp F1 H1 as1 F2 H2 as2 ∧ Rel X.K F2 H2 as2 o2 ∧ RS X.K F2 as2 r2 σ2 ∧ I (i + 1) r2 o2, fun σ2 H2 h => ⟨ds.length - (i + 1), by omega, rfl, hlt, h⟩, fun x H3 hy => ?_⟩
      obtain ⟨F3, p3, R3, r3⟩ := g2 x H3 hy
      refine ht F3 H3 as' o σ' x _ R3 (S'.step p3) r3 fun σ4 S4 => ?_
      have nxt : GoS X.K F3 H3 as' (I (i + 1)) (fun σ2 H2 => ∃ F2 as2 r2 o2, Stp F1 H1 as1 F2 H2 as2 ∧ Rel X.K F2 H2 as2 o2 ∧ RS X.K F2 as2 r2 σ2 ∧ I (i + 1) r2 o2) := fun σ5 F5 H5 as5 r5 o5 p5 R5 S5 h5 => ⟨F5, as5, r5, o5, (p'.trans p3).trans p5, R5, S5, h5⟩
      exact hb F3 H3 as' σ4 _ R3 S4 ⟨nxt, (g.step ((p1.trans p').trans p3)).rt, (g.step ((p1.trans p').trans p3)).nx, nxt⟩
    · have e : i = ds.length := by omega
      subst e
      exact .inl ⟨hst rfl, g.nx σ' F' H' as' r o (p1.trans p') R' S' (hd r o hi)⟩)
end
end G

set_option Elab.async false
set_option linter.all false
set_option maxRecDepth 100000
set_option maxHeartbeats 2000000
namespace G
open PySem PySem.Spec PyProof.Rows L2

/-! ### slots forgotten in a comprehension's block -/
def wipeW (rho : List W) : List Nat → List W
  | [] => rho
  | v :: vs => (wipeW rho vs).set v .un
theorem RS.wipe {K : PySem.W.Frag} {F : Hp} {as : List Addr} {rho : List W} {σ : L2.St} (h : RS K F as rho σ) : ∀ vs : List Nat, RS K F as (wipeW rho vs) (L2.wipe σ vs)
  | [] => h
  | v :: vs => RS.setun v (RS.wipe h vs)
theorem wipe_get (σ : L2.St) (j : Nat) : ∀ vs : List Nat, (L2.wipe σ vs)[j]? = if j ∈ vs then (if j < σ.length then some none else none) else σ[j]?
  | [] => by simp [L2.wipe]
  | v :: vs => by
    unfold L2.wipe
    by_cases h : v = j
    · subst h
      rw [if_pos (by simp)]
      by_cases hl : v < σ.length
      · rw [List.getElem?_set_self (by rw [wipe_length]; exact hl), if_pos hl]
      · rw [List.getElem?_eq_none (by rw [List.length_set, wipe_length]; omega), if_neg hl]
    · rw [List.getElem?_set_ne h, wipe_get σ j vs]
      have : j ∈ v :: vs ↔ j ∈ vs := by
        rw [List.mem_cons]
        exact ⟨fun q => q.elim (fun z => (h z.symm).elim) id, .inr⟩
      simp only [this]
theorem wipe_eq {σ σ' : L2.St} {vs : List Nat} (hl : σ.length = σ'.length) (h : ∀ j, j ∉ vs → σ[j]? = σ'[j]?) : L2.wipe σ vs = L2.wipe σ' vs := by
  apply List.ext_getElem?
  intro j
  rw [wipe_get, wipe_get, hl]
  by_cases hj : j ∈ vs
  · rw [if_pos hj, if_pos hj]
  · rw [if_neg hj, if_neg hj, h j hj]
theorem wipe_wipe (σ : L2.St) (vs : List Nat) : L2.wipe (L2.wipe σ vs) vs = L2.wipe σ vs := by
  apply List.ext_getElem?
  intro j
  rw [wipe_get, wipe_get, wipe_length]
  by_cases hj : j ∈ vs
  · rw [if_pos hj, if_pos hj]
  · rw [if_neg hj, if_neg hj]
/-- the target of a comprehension: it stores at slots of vs alone -/
def TgC (X : Cx) (vs : List Nat) (tg : Expr) (w : W) (rho rho' : List W) : Prop :=
  ∀ F H as om σ v (Q : L2.St → Hp → Prop), Rel X.K F H as om → RS X.K F as rho σ → RW X.K F as w v →
    (∀ σ', RS X.K F as rho' σ' → σ'.length = σ.length → (∀ j, j ∉ vs → σ'[j]? = σ[j]?) → Q σ' H) → wpG X tg v σ H Q
def TgCs (X : Cx) (vs : List Nat) (tgs : List Expr) (ds : List PyData) (rho rho' : List W) : Prop :=
  ∃ t, PGs X tgs t ∧ ∀ F H as om σ us (Q : L2.St → Hp → Prop), Rel X.K F H as om → RS X.K F as rho σ → RpAll X.K F us ds →
    (∀ σ', RS X.K F as rho' σ' → σ'.length = σ.length → (∀ j, j ∉ vs → σ'[j]? = σ[j]?) → Q σ' H) → t us σ H Q
section
variable {X : Cx} {rho rho1 rho2 : List W} {om om1 om2 om3 : List MO} {a b e : Expr} {es : List Expr} {w w1 w2 : W} {ws : List W} {pos : Pos} {vs : List Nat}
theorem tc_name (i : Nat) {x : Str} (hv : i ∈ vs) (hc : X.N.Nodup) (hi : X.N[i]? = some x := by rfl) (hx : Loc X.env.scope x := by first | exact Or.inl rfl | exact Or.inr rfl)
    (hf : X.fn x = true ∨ X.env.scope.names.lookup x = some .local := by first | exact .inl rfl | exact .inr rfl) : TgC X vs (.Name x pos) w rho (rho.set i w) := fun F H as om σ v Q R S r k =>
  wpG_of (pg_name hc hi hx hf) (k _ (RS.set r i S) (by rw [List.length_set]) fun j hj => by
    rw [List.getElem?_set_ne]
    intro e
    subst e
    exact hj hv)
theorem tcs_nil : TgCs X vs [] [] rho rho := ⟨_, pgs_nil, fun F H as om σ us Q R S r k => by cases r; exact ⟨rfl, k _ S rfl fun _ _ => rfl⟩⟩
theorem tcs_cons {tg : Expr} {tgs : List Expr} {d : PyData} {ds : List PyData} (h : TgC X vs tg (.d d) rho rho1) (h2 : TgCs X vs tgs ds rho1 rho2)
    (hs : (assignEach (tg :: tgs) X.env).map (·.2) = assign tg X.env :: (assignEach tgs X.env).map (·.2) := by rfl) : TgCs X vs (tg :: tgs) (d :: ds) rho rho2 := by
  obtain ⟨t, p, q⟩ := h2
  exact ⟨_, pgs_cons pg_wp p hs, fun F H as om σ us Q R S r k => by
    cases r with
    | cons r1 r2 => exact ⟨_, _, rfl, h F H as om σ _ _ R S r1 fun σ1 S1 l1 g1 => q F H as om σ1 _ _ R S1 r2 fun σ2 S2 l2 g2 => k σ2 S2 (l2.trans l1) fun j hj => (g2 j hj).trans (g1 j hj)⟩⟩
theorem tc_tup {tgs : List Expr} {ds : List PyData} {k : Nat} (hc : X.calm = true) (h : TgCs X vs tgs ds rho rho1) (hl : (assignEach tgs X.env).length = ds.length := by rfl) (hst : (assignEach tgs X.env).findIdx? (·.1) = none := by rfl) : TgC X vs (.Tuple tgs k pos) (.d (.tuple ds)) rho rho1 := by
  obtain ⟨t, p, q⟩ := h
  exact fun F H as om σ v Q R S r kk => wpG_of (pg_tup hc p rfl hst) (by
    have r : Rp X.K F v (.tuple ds) := r
    cases r with
    | tup h1 h2 => exact ⟨_, _, rfl, R.ex.sqT h1, by rw [h2.length, hl], q F H as om σ _ _ R S h2 kk⟩)
/-- a clause's tests -/
structure wpTs (X : Cx) (ifs : List Expr) (σ : L2.St) (H : Hp) (Q : Bool → Hp → Prop) : Prop where
  go : ∀ (pins : List (Addr × Obj)) (s : Shared), Inv X pins σ H s →
    wpAny (model X.prog X.w) X.A (forIn ifs true fun c r => if r = true then do let ok ← isTrue c X.env (eval c X.env); pure (ForInStep.yield ok) else pure (ForInStep.yield r)) (TP X pins σ Q) X.xe s
theorem pts_wp {ifs : List Expr} : PTs X ifs (wpTs X ifs) := ⟨fun pins s _ _ _ I h => h.go pins s I⟩
def EvI (X : Cx) (ifs : List Expr) (rho : List W) (om : List MO) (b : Bool) (om' : List MO) : Prop :=
  ∀ F H as σ (Q : Bool → Hp → Prop), Rel X.K F H as om → RS X.K F as rho σ → GoT X.K F H as b om' Q → wpTs X ifs σ H Q
theorem ei_nil : EvI X [] rho om true om := fun F H as σ Q R S g => ⟨fun pins s I => pts_nil.run pins s σ H Q I (g F H as Stp.refl R)⟩
theorem ei_one {p : Bool} (h : EvT X e rho om p om1) : EvI X [e] rho om p om1 := fun F H as σ Q R S g => ⟨fun pins s I => (pts_one pt_wp).run pins s σ H Q I (h F H as σ Q R S g)⟩

/-- the heap without one address -/
def rem (H : Hp) (p : Addr) : Hp := fun b => if b = p then none else H b
theorem rem_same {H : Hp} {p : Addr} : rem H p p = none := by unfold rem; rw [if_pos rfl]
theorem rem_ne {H : Hp} {p b : Addr} (h : b ≠ p) : rem H p b = H b := by unfold rem; rw [if_neg h]
theorem upd_rem {H : Hp} {p : Addr} {o : HO} (h : H p = some o) : upd (rem H p) p o = H := by
  funext b
  by_cases e : b = p
  · subst e; rw [upd_same, h]
  · rw [upd_ne e, rem_ne e]
theorem Rel.rem {K : PySem.W.Frag} {F H : Hp} {as : List Addr} {D : Addr} (R : Rel K F H as om) (h1 : D ∉ as) (h2 : F D = none) : Rel K F (rem H D) as om := by
  refine ⟨fun a o e => ?_, R.nd, R.len, fun k a mo e1 e2 => ?_⟩
  · rw [rem_ne (fun z => by rw [z, h2] at e; cases e)]
    exact R.ex a o e
  · have ne : a ≠ D := fun z => h1 (z ▸ List.mem_of_getElem? e1)
    exact MOk.mono (Ex.refl _) (List.prefix_refl _) (fun u e => by rw [rem_ne ne]; exact e) (fun e => e) (R.obj k a mo e1 e2)
/-- an untracked-by-us object beside -/
theorem Rel.side {K : PySem.W.Frag} {F H : Hp} {as : List Addr} {D : Addr} {o : HO} (R : Rel K F H as om) (h1 : D ∉ as) (h2 : F D = none) : Rel K F (upd H D o) as om := by
  refine ⟨fun a u e => ?_, R.nd, R.len, fun k a mo e1 e2 => ?_⟩
  · rw [upd_ne (fun z => by rw [z, h2] at e; cases e)]
    exact R.ex a u e
  · have ne : a ≠ D := fun z => h1 (z ▸ List.mem_of_getElem? e1)
    exact MOk.mono (Ex.refl _) (List.prefix_refl _) (fun u e => by rw [upd_ne ne]; exact e) (fun e => e) (R.obj k a mo e1 e2)

/-- the readings of a comprehension's parts: in every block that it may make -/
def bG (X : Cx) (scope : Scope) (tg : Expr) : TG := fun v σ H Q => ∀ (s0 : Shared) (H0 : Hp) (C : Addr) (cl : List (Str × Addr)) (fp : List Addr), wpG (X.blk s0 H0 scope (compEnvC scope cl C X.env) fp) tg v σ H Q
def bT (X : Cx) (scope : Scope) (ifs : List Expr) : TT := fun σ H Q => ∀ (s0 : Shared) (H0 : Hp) (C : Addr) (cl : List (Str × Addr)) (fp : List Addr), wpTs (X.blk s0 H0 scope (compEnvC scope cl C X.env) fp) ifs σ H Q
def bE (X : Cx) (scope : Scope) (elt : Expr) : TE := fun σ H Q => ∀ (s0 : Shared) (H0 : Hp) (C : Addr) (cl : List (Str × Addr)) (fp : List Addr), wpE (X.blk s0 H0 scope (compEnvC scope cl C X.env) fp) elt σ H Q
/-- a reading that makes a new list -/
def RdN (X : Cx) (t : TE) (rho : List W) (om : List MO) (Phi : List W → List MO → Prop) : Prop :=
  ∀ F H as σ (Q : VK), Rel X.K F H as om → RS X.K F as rho σ →
    (∀ ws om' p xs F' H' as', Phi ws om' → Stp F H as F' H' as' → Rel X.K F' H' as' om' → RWs X.K F' as' ws xs → H' p = none → Q (.ref p) (upd H' p (.lst xs))) → t σ H Q
/-- what a comprehension does, by its parts -/
structure LcP (X : Cx) (elt tg iter : Expr) (ifs : List Expr) (scope : Scope) (own : List (Str × Nat)) (rho : List W) (om : List MO) (Phi : List W → List MO → Prop) : Prop where
  rd : RdN X (tLc (wpI X tg iter) (bG X scope tg) (bT X scope ifs) (bE X scope elt) (own.map (·.2))) rho om Phi
  hc : X.calm = true
  hN : X.N.Nodup
  ok : BlkOk X.N X.env.scope scope own
  hs : ∀ x, foldedSetIterable iter X.env x = pure x
abbrev LcD (X : Cx) (elt tg iter : Expr) (ifs : List Expr) (scope : Scope) (own : List (Str × Nat)) (rho : List W) (om : List MO) (ws : List W) (om2 : List MO) : Prop :=
  LcP X elt tg iter ifs scope own rho om fun acc o => acc = ws ∧ o = om2
/-- [elt for tg in iter if ..] -/
theorem lcp {elt tg iter : Expr} {ifs : List Expr} {scope : Scope} {own : List (Str × Nat)} {ds : List W} (hc : X.calm = true) (hN : X.N.Nodup) (hi : ItS X tg iter rho om ds om1) (ok : BlkOk X.N X.env.scope scope own)
    (J : Nat → List W → List MO → Prop) (h0 : J 0 [] om1) (hz : ds.length ≤ sizeLine)
    (ht : ∀ i w acc o, ds[i]? = some w → J i acc o → ∃ r1 p o1,
      (∀ (s : Shared) (H : Hp) (C : Addr) (cl : List (Str × Addr)) (fp : List Addr), TgC (X.blk s H scope (compEnvC scope cl C X.env) fp) (own.map (·.2)) tg w (wipeW rho (own.map (·.2))) r1) ∧
      (∀ (s : Shared) (H : Hp) (C : Addr) (cl : List (Str × Addr)) (fp : List Addr), EvI (X.blk s H scope (compEnvC scope cl C X.env) fp) ifs r1 o p o1) ∧
      (p = true → ∀ (s : Shared) (H : Hp) (C : Addr) (cl : List (Str × Addr)) (fp : List Addr), EvP (X.blk s H scope (compEnvC scope cl C X.env) fp) elt r1 o1 fun y o2 => J (i + 1) (acc ++ [y]) o2) ∧
      (p = false → J (i + 1) acc o1))
    {Phi : List W → List MO → Prop} (hd : ∀ acc o, J ds.length acc o → Phi acc o) (hs : ∀ x, foldedSetIterable iter X.env x = pure x := by intro _; rfl) : LcP X elt tg iter ifs scope own rho om Phi := ⟨fun F H as σ Q R S g =>
    (hi F H as σ _ R S fun Ji F1 H1 as1 p1 R1 hJ => by
      intro D hD
      obtain ⟨d1, d2⟩ := R1.fresh hD
      refine ⟨fun i m H' => m = ds.length - i ∧ i ≤ ds.length ∧ ∃ F' as' acc o xs, Stp F1 H1 as1 F' H' as' ∧ D ∉ as' ∧ F' D = none ∧ Rel X.K F' H' as' o ∧ H' D = some (.lst xs) ∧ RWs X.K F' as' acc xs ∧ acc.length ≤ i ∧ J i acc o,
        ⟨_, rfl, Nat.zero_le _, F1, as1, [], om1, [], ⟨Ex.refl _, List.prefix_refl _, fun a o e _ => Ex.new hD a o e, fun a o e => .inl e, fun a h => .inl h⟩, d1, d2, R1.side d1 d2, upd_same, trivial, Nat.zero_le _, h0⟩, ?_⟩
      rintro i m H' ⟨rfl, hle, F', as', acc, o, xs, q1, dn, dF, R', hD', ra, hal, hj⟩
      obtain ⟨hst, hgo⟩ := hJ i F' H' as' o q1 R'
      by_cases hlt : i < ds.length
      · have hw : ds[i]? = some ds[i] := List.getElem?_eq_getElem hlt
        obtain ⟨r1, p, o1, htg, hif, hT, hF⟩ := ht i ds[i] acc o hw hj
        obtain ⟨g1, g2⟩ := hgo _ hw
        refine .inr ⟨g1, fun H2 => ∃ F2 as2 acc2 o2 xs2, Stp F1 H1 as1 F2 H2 as2 ∧ D ∉ as2 ∧ F2 D = none ∧ Rel X.K F2 H2 as2 o2 ∧ H2 D = some (.lst xs2) ∧ RWs X.K F2 as2 acc2 xs2 ∧ acc2.length ≤ i + 1 ∧ J (i + 1) acc2 o2,
          fun H2 h => ⟨ds.length - (i + 1), by omega, rfl, hlt, h⟩, fun x H3 hy => ?_⟩
        obtain ⟨F3, p3, R3, r3⟩ := g2 x H3 hy
        have S3 : RS X.K F3 as' (wipeW rho (own.map (·.2))) (L2.wipe σ (own.map (·.2))) := RS.wipe (RS.step (RS.step S p1) (q1.trans p3)) _
        intro s0 H0 C cl fp
        refine htg s0 H0 C cl fp F3 H3 as' o _ x _ R3 S3 r3 fun σ4 S4 l4 g4 => ?_
        refine ⟨?_, ?_⟩
        · rw [← wipe_wipe σ]
          exact wipe_eq l4 g4
        intro s0 H0 C cl fp
        refine hif s0 H0 C cl fp F3 H3 as' σ4 _ R3 S4 fun F5 H5 as5 p5 R5 => ?_
        have keepD : ∀ {Fa Ha asa}, Stp F' H' as' Fa Ha asa → Ha D = some (.lst xs) := fun pa => pa.keep D _ hD' dn
        cases p with
        | true =>
          rw [if_pos rfl]
          intro s0 H0 C cl fp
          refine hT rfl s0 H0 C cl fp F5 H5 as5 σ4 _ R5 (S4.step p5) fun y o2 hj2 v F6 H6 as6 p6 R6 r6 => ?_
          have pp := (p3.trans p5).trans p6
          have hD6 := keepD pp
          have dn6 : D ∉ as6 := fun z => by
            rcases pp.newA D z with y | y
            · exact dn y
            · rw [hD'] at y; cases y
          have dF6 : F6 D = none := by
            cases e : F6 D with
            | none => rfl
            | some u =>
              rcases pp.newF D u e with y | y | y
              · rw [dF] at y; cases y
              · rw [hD'] at y; cases y
              · exact (dn y).elim
          refine ⟨xs, hD6, ?_, F6, as6, acc ++ [y], o2, xs ++ [v], ?_, dn6, dF6, R6.side dn6 dF6, upd_same, RWs.append (RWs.step ra pp) ⟨r6, trivial⟩, ?_, hj2⟩
          · rw [← RWs.length ra]; omega
          · have a1 := q1.trans pp
            refine ⟨a1.exF, a1.pre, fun a u e n => ?_, a1.newF, a1.newA⟩
            have ne : a ≠ D := fun z => by rw [z, hD] at e; cases e
            rw [upd_ne ne]
            exact a1.keep a u e n
          · rw [List.length_append]; simp; omega
        | false =>
          rw [if_neg Bool.false_ne_true]
          have pp := p3.trans p5
          have dn6 : D ∉ as5 := fun z => by
            rcases pp.newA D z with y | y
            · exact dn y
            · rw [hD'] at y; cases y
          have dF6 : F5 D = none := by
            cases e : F5 D with
            | none => rfl
            | some u =>
              rcases pp.newF D u e with y | y | y
              · rw [dF] at y; cases y
              · rw [hD'] at y; cases y
              · exact (dn y).elim
          exact ⟨F5, as5, acc, o1, xs, q1.trans pp, dn6, dF6, R5, keepD pp, RWs.step ra pp, by omega, hF rfl⟩
      · have e : i = ds.length := by omega
        subst e
        refine .inl ⟨hst rfl, ?_⟩
        have := g acc o D xs F' (rem H' D) as' (hd acc o hj) ?_ (R'.rem dn dF) ra rem_same
        · rw [upd_rem hD'] at this
          exact this
        · have a1 := p1.trans q1
          refine ⟨a1.exF, a1.pre, fun a u e n => ?_, a1.newF, a1.newA⟩
          by_cases z : a = D
          · subst z
            have := p1.keep a u e n
            rw [hD] at this; cases this
          · rw [rem_ne z]
            exact a1.keep a u e n), hc, hN, ok, hs⟩
theorem bG_ok {scope : Scope} {tg : Expr} : ∀ (s : Shared) (H : Hp) (C : Addr) (cl : List (Str × Addr)) (fp : List Addr), PG (X.blk s H scope (compEnvC scope cl C X.env) fp) tg (bG X scope tg) := fun s0 H0 C cl fp => ⟨fun pins s σ H v u Q I r h => (h s0 H0 C cl fp).go pins s u I r⟩
theorem bT_ok {scope : Scope} {ifs : List Expr} : ∀ (s : Shared) (H : Hp) (C : Addr) (cl : List (Str × Addr)) (fp : List Addr), PTs (X.blk s H scope (compEnvC scope cl C X.env) fp) ifs (bT X scope ifs) := fun s0 H0 C cl fp => ⟨fun pins s σ H Q I h => (h s0 H0 C cl fp).go pins s I⟩
theorem bE_ok {scope : Scope} {elt : Expr} : ∀ (s : Shared) (H : Hp) (C : Addr) (cl : List (Str × Addr)) (fp : List Addr), PE (X.blk s H scope (compEnvC scope cl C X.env) fp) elt (bE X scope elt) := fun s0 H0 C cl fp => ⟨fun pins s σ H Q I h => (h s0 H0 C cl fp).go pins s I⟩
theorem en_lc {elt tg iter : Expr} {ifs : List Expr} {scope : Scope} {own : List (Str × Nat)} (h : LcD X elt tg iter ifs scope own rho om ws om2) : EvN X (.ListComp elt [⟨tg, iter, ifs, 0⟩] scope pos) rho om ws om2 := fun F H as σ Q R S g =>
  wpE_of (pe_lc h.hc h.hN pi_wp h.ok bG_ok bT_ok bE_ok h.hs) (h.rd F H as σ Q R S fun ws' o' p xs F' H' as' e => by
    obtain ⟨rfl, rfl⟩ := e
    exact g p xs F' H' as')
/-- .. known by a word -/
theorem ep_lc {elt tg iter : Expr} {ifs : List Expr} {scope : Scope} {own : List (Str × Nat)} {Phi : W → List MO → Prop} {Ph : List W → List MO → Prop} (h : LcP X elt tg iter ifs scope own rho om Ph) (k : ∀ acc o, Ph acc o → ∃ ds, acc = ds.map W.d ∧ Phi (.d (.list ds)) o) : EvP X (.ListComp elt [⟨tg, iter, ifs, 0⟩] scope pos) rho om Phi := fun F H as σ Q R S g =>
  wpE_of (pe_lc h.hc h.hN pi_wp h.ok bG_ok bT_ok bE_ok h.hs) (h.rd F H as σ Q R S fun ws' o' p xs F' H' as' e p1 R1 r1 hp => by
    obtain ⟨ds, ew, e'⟩ := k _ _ e
    subst ew
    obtain ⟨R2, p2⟩ := R1.newF (o := .lst xs) hp
    exact g _ o' e' _ _ _ _ (p1.trans p2) R2 (Rp.lst upd_same (RpAll.mono p2.exF _ _ (RWs.toRp r1))))
theorem ep_lcM {elt tg iter : Expr} {ifs : List Expr} {scope : Scope} {own : List (Str × Nat)} {Phi : W → List MO → Prop} {Ph : List W → List MO → Prop} (h : LcP X elt tg iter ifs scope own rho om Ph) (k : ∀ acc o, Ph acc o → Phi (.m o.length) (o ++ [.lst acc])) : EvP X (.ListComp elt [⟨tg, iter, ifs, 0⟩] scope pos) rho om Phi := fun F H as σ Q R S g =>
  wpE_of (pe_lc h.hc h.hN pi_wp h.ok bG_ok bT_ok bE_ok h.hs) (h.rd F H as σ Q R S fun ws' o' p xs F' H' as' e p1 R1 r1 hp => by
    obtain ⟨R2, p2⟩ := R1.newM hp r1
    exact g _ _ (k _ _ e) _ _ _ _ (p1.trans p2) R2 ⟨p, by rw [← R1.len]; simp, rfl⟩)
/-- name = [..] on one line: kept as data; kept to be changed -/
theorem wp1_lcP (i : Nat) {y : Str} {py : Pos} {elt tg iter : Expr} {ifs : List Expr} {scope : Scope} {own : List (Str × Nat)} {pos' : Pos} {P : Post} {Ph : List W → List MO → Prop} (h : LcP X elt tg iter ifs scope own rho om Ph) (k : ∀ acc o, Ph acc o → ∃ rs, acc = rs.map W.d ∧ P.nx (rho.set i (.d (.list rs))) o)
    (hy : X.N[i]? = some y := by rfl) (hyl : X.env.scope.names.lookup y = some .local := by rfl) (hsw : swapsWith (.ListComp elt [⟨tg, iter, ifs, 0⟩] scope pos') (some (.Name y py)) pos.line X.env = pure true := by exact sw_true rfl rfl rfl (by decide +kernel)) :
    Wp1 X (.Assign [.Name y py] (.ListComp elt [⟨tg, iter, ifs, 0⟩] scope pos') pos) rho om P := fun F H as σ D R S g =>
  wpS_of (ps_setLc h.hc h.hN hy hyl hsw pi_wp h.ok bG_ok bT_ok bE_ok h.hs) (h.rd F H as σ _ R S fun ws o p xs F1 H1 as1 e p1 R1 r1 hp => by
    obtain ⟨rs, rfl, k⟩ := k _ _ e
    obtain ⟨R2, p2⟩ := R1.newF (o := .lst xs) hp
    exact g.nx _ _ _ _ _ o (p1.trans p2) R2 (RS.set (w := .d (.list rs)) (Rp.lst upd_same (RpAll.mono p2.exF _ _ (RWs.toRp r1))) i (S.step (p1.trans p2))) k)
theorem wp1_lcMP (i : Nat) {y : Str} {py : Pos} {elt tg iter : Expr} {ifs : List Expr} {scope : Scope} {own : List (Str × Nat)} {pos' : Pos} {P : Post} {Ph : List W → List MO → Prop} (h : LcP X elt tg iter ifs scope own rho om Ph) (k : ∀ acc o, Ph acc o → P.nx (rho.set i (.m o.length)) (o ++ [.lst acc]))
    (hy : X.N[i]? = some y := by rfl) (hyl : X.env.scope.names.lookup y = some .local := by rfl) (hsw : swapsWith (.ListComp elt [⟨tg, iter, ifs, 0⟩] scope pos') (some (.Name y py)) pos.line X.env = pure true := by exact sw_true rfl rfl rfl (by decide +kernel)) :
    Wp1 X (.Assign [.Name y py] (.ListComp elt [⟨tg, iter, ifs, 0⟩] scope pos') pos) rho om P := fun F H as σ D R S g =>
  wpS_of (ps_setLc h.hc h.hN hy hyl hsw pi_wp h.ok bG_ok bT_ok bE_ok h.hs) (h.rd F H as σ _ R S fun ws o p xs F1 H1 as1 e p1 R1 r1 hp => by
    obtain ⟨R2, p2⟩ := R1.newM hp r1
    exact g.nx _ _ _ _ _ _ (p1.trans p2) R2 (RS.set (w := .m o.length) ⟨p, by rw [← R1.len]; simp, rfl⟩ i (S.step (p1.trans p2))) (k _ _ e))
theorem wp1_lcD (i : Nat) {y : Str} {py : Pos} {elt tg iter : Expr} {ifs : List Expr} {scope : Scope} {own : List (Str × Nat)} {pos' : Pos} {P : Post} {rs : List PyData} (h : LcD X elt tg iter ifs scope own rho om (rs.map W.d) om2) (k : P.nx (rho.set i (.d (.list rs))) om2)
    (hy : X.N[i]? = some y := by rfl) (hyl : X.env.scope.names.lookup y = some .local := by rfl) (hsw : swapsWith (.ListComp elt [⟨tg, iter, ifs, 0⟩] scope pos') (some (.Name y py)) pos.line X.env = pure true := by exact sw_true rfl rfl rfl (by decide +kernel)) :
    Wp1 X (.Assign [.Name y py] (.ListComp elt [⟨tg, iter, ifs, 0⟩] scope pos') pos) rho om P :=
  wp1_lcP i h (fun acc o e => by
    obtain ⟨rfl, rfl⟩ := e
    exact ⟨rs, rfl, k⟩) hy hyl hsw
theorem wp1_lcM (i : Nat) {y : Str} {py : Pos} {elt tg iter : Expr} {ifs : List Expr} {scope : Scope} {own : List (Str × Nat)} {pos' : Pos} {P : Post} (h : LcD X elt tg iter ifs scope own rho om ws om2) (k : P.nx (rho.set i (.m om2.length)) (om2 ++ [.lst ws]))
    (hy : X.N[i]? = some y := by rfl) (hyl : X.env.scope.names.lookup y = some .local := by rfl) (hsw : swapsWith (.ListComp elt [⟨tg, iter, ifs, 0⟩] scope pos') (some (.Name y py)) pos.line X.env = pure true := by exact sw_true rfl rfl rfl (by decide +kernel)) :
    Wp1 X (.Assign [.Name y py] (.ListComp elt [⟨tg, iter, ifs, 0⟩] scope pos') pos) rho om P :=
  wp1_lcMP i h (fun acc o e => by
    obtain ⟨rfl, rfl⟩ := e
    exact k) hy hyl hsw
/-- pure: each item a datum by a function of the item, without or with one test -/
theorem lcd_map {elt tg iter : Expr} {scope : Scope} {own : List (Str × Nat)} {ds : List W} {rs : List PyData} (hc : X.calm = true) (hN : X.N.Nodup) (hi : ItS X tg iter rho om ds om1) (ok : BlkOk X.N X.env.scope scope own)
    (hl : ds.length = rs.length) (hz : ds.length ≤ sizeLine)
    (ht : ∀ (i : Nat) (w : W) (r : PyData), ds[i]? = some w → rs[i]? = some r → ∃ r1,
      (∀ (s : Shared) (H : Hp) (C : Addr) (cl : List (Str × Addr)) (fp : List Addr), TgC (X.blk s H scope (compEnvC scope cl C X.env) fp) (own.map (·.2)) tg w (wipeW rho (own.map (·.2))) r1) ∧
      (∀ (s : Shared) (H : Hp) (C : Addr) (cl : List (Str × Addr)) (fp : List Addr), EvS (X.blk s H scope (compEnvC scope cl C X.env) fp) elt r1 om1 (.d r) om1))
    (hs : ∀ x, foldedSetIterable iter X.env x = pure x := by intro _; rfl) : LcD X elt tg iter [] scope own rho om (rs.map W.d) om1 :=
  lcp hc hN hi ok (fun i acc o => acc = (rs.take i).map W.d ∧ o = om1) ⟨rfl, rfl⟩ hz (fun i w acc o hw hj => by
    obtain ⟨rfl, rfl⟩ := hj
    have hi' : i < rs.length := by rw [← hl]; exact (List.getElem?_eq_some_iff.mp hw).1
    have hr : rs[i]? = some rs[i] := List.getElem?_eq_getElem hi'
    obtain ⟨r1, h1, h2⟩ := ht i w _ hw hr
    refine ⟨r1, true, _, h1, fun _ _ _ _ _ => ei_nil, fun _ s H C cl fp => (h2 s H C cl fp).toP ⟨?_, rfl⟩, fun z => by cases z⟩
    rw [List.take_add_one, hr, List.map_append]
    rfl) (fun acc o hj => by
    obtain ⟨rfl, rfl⟩ := hj
    refine ⟨?_, rfl⟩
    rw [hl, List.take_length]) hs
theorem lcd_filter {elt tg iter c : Expr} {scope : Scope} {own : List (Str × Nat)} {ds : List W} (pw : W → Bool) (fw : W → PyData) (hc : X.calm = true) (hN : X.N.Nodup) (hi : ItS X tg iter rho om ds om1) (ok : BlkOk X.N X.env.scope scope own)
    (hz : ds.length ≤ sizeLine)
    (ht : ∀ w ∈ ds, ∃ r1,
      (∀ (s : Shared) (H : Hp) (C : Addr) (cl : List (Str × Addr)) (fp : List Addr), TgC (X.blk s H scope (compEnvC scope cl C X.env) fp) (own.map (·.2)) tg w (wipeW rho (own.map (·.2))) r1) ∧
      (∀ (s : Shared) (H : Hp) (C : Addr) (cl : List (Str × Addr)) (fp : List Addr), EvT (X.blk s H scope (compEnvC scope cl C X.env) fp) c r1 om1 (pw w) om1) ∧
      (pw w = true → ∀ (s : Shared) (H : Hp) (C : Addr) (cl : List (Str × Addr)) (fp : List Addr), EvS (X.blk s H scope (compEnvC scope cl C X.env) fp) elt r1 om1 (.d (fw w)) om1))
    (hs : ∀ x, foldedSetIterable iter X.env x = pure x := by intro _; rfl) : LcD X elt tg iter [c] scope own rho om (((ds.filter pw).map fw).map W.d) om1 :=
  lcp hc hN hi ok (fun i acc o => acc = (((ds.take i).filter pw).map fw).map W.d ∧ o = om1) ⟨rfl, rfl⟩ hz (fun i w acc o hw hj => by
    obtain ⟨rfl, eo⟩ := hj
    subst eo
    obtain ⟨r1, h1, h2, h3⟩ := ht w (List.mem_of_getElem? hw)
    have e : ds.take (i + 1) = ds.take i ++ [w] := by rw [List.take_add_one, hw]; rfl
    refine ⟨r1, pw w, _, h1, fun s H C cl fp => ei_one (h2 s H C cl fp), fun z s H C cl fp => (h3 z s H C cl fp).toP ⟨?_, rfl⟩, fun z => ⟨?_, rfl⟩⟩
    · rw [e, List.filter_append, List.map_append, List.map_append, List.filter_cons, z]
      rfl
    · rw [e, List.filter_append, List.filter_cons, z]
      simp) (fun acc o hj => by
    obtain ⟨rfl, rfl⟩ := hj
    refine ⟨?_, rfl⟩
    rw [List.take_length]) hs
end
end G

set_option Elab.async false
set_option linter.all false
set_option maxRecDepth 100000
set_option maxHeartbeats 2000000
namespace G
open PySem PySem.Spec PyProof.Rows L2

/-! ### defs: contracts; no repr runs around (guards) -/
structure FnG (P : Program) (w : World) (K : PySem.W.Frag) (mg : Str → Option Value) (base : Heap) (CX : CXT) (k : Nat) (f : Addr) (fd : FuncData) (ps : List Str) (sp : Sp) : Prop where
  len : ∀ vs H Q E, sp vs H Q E → vs.length = ps.length
  run : ∀ (A : Around) (outer : List Env) (s : Shared) (H : Hp) (args : Args) (us : List Value) (vs : List V) (Q : VK) (E : XK), A.guards = some [] → Room k A → Env0 P w K mg base A outer s H →
    BindsTo s fd args (ps.zip us) → Vals vs us → sp vs H Q E → codeAny (model P w) A (.call (.ref f) args) (CR CX outer P w H s Q E) s
theorem FnG.mono {P : Program} {w : World} {K : PySem.W.Frag} {mg : Str → Option Value} {base : Heap} {CX : CXT} {j k : Nat} {f : Addr} {fd : FuncData} {ps : List Str} {sp : Sp} (F : FnG P w K mg base CX j f fd ps sp) (h : j ≤ k) :
    FnG P w K mg base CX k f fd ps sp :=
  ⟨F.len, fun A outer s H args us vs Q E hg hr => F.run A outer s H args us vs Q E hg (hr.mono h)⟩
theorem guards_deeper {A : Around} {env : Env} (h : A.guards = some []) : (A.deeper env).guards = some [] := h

theorem fng_of {CX : CXT} {P : Program} {w : World} {K : PySem.W.Frag} {mg : Str → Option Value} {base : Heap} {k : Nat} {x qual : Str} {st : Stmt} {f : Addr} {fd : FuncData} {N ps : List Str} {sp : Sp}
    (F : Fun K x qual st f fd) (S : FnScope N ps (defScope st)) (len : ∀ vs H Q E, sp vs H Q E → vs.length = ps.length)
    (hbody : ∀ (cdv : Value) (A : Around) (outer : List Env) (s : Shared) (H : Hp) (vs : List V) (Q : VK) (E : XK), A.guards = some [] → Room k (A.deeper (envOfC qual (defScope st) s.heap.objs.size f cdv)) → sp vs H Q E →
      wpSs (cxOf CX P w K mg base N qual (defScope st) f cdv A outer s H E) (defBody st) { nx := fun _ H' => Q .non H', rt := Q } (start N vs) H) : FnG P w K mg base CX (k + 1) f fd ps sp := by
  obtain ⟨oc, od, kV, doc, pm, an, cdv, ct, osl, efd, look, code⟩ := F.ex
  subst efd
  refine ⟨len, ?_⟩
  intro A outer s H args us vs Q E hgd room env0 bnd rel want
  have count := len vs H Q E want
  have inK : K.In s.heap := env0.mod.kin.keeps fun b o e => And.left (env0.bs b o e)
  have free : s.heap.NoLimit := env0.mod.nolimit.keeps fun b o e => And.left (env0.bs b o e)
  refine codeAny_call_function room.depth (inK f _ look) rfl S.co S.gen rfl (PySem.W.codeRec_of inK code) (bnd _ _ _ _ ?_)
  refine wpAny_newFunctionEnv_cells S.kind ?_ ?_
  · rintro ⟨n, v⟩ hy
    have par := S.par n (List.of_mem_zip hy).1
    cases par with
    | inl q => exact Or.inl q
    | inr q => exact Or.inr ⟨q, PySem.W.cellsFrom_some _ _ _ (Or.inl q)⟩
  · intro env eenv s1 entered
    subst eenv
    refine ⟨free.keeps entered.toInCall.keep, codeAny_func ?_⟩
    have I := inv_start (CX := CX) (P := P) (w := w) (mg := mg) (outer := outer) (E := E) S room.hd env0 count rel entered
    have body := (hbody cdv A outer s H vs Q E hgd (room.deeper _) want).go [] s1 I
    refine wpAny_mono body (fun fl s2 q => ?_) fun e s2 q => q
    cases fl with
    | next =>
      obtain ⟨st2, H2, J, q2⟩ := q
      exact ⟨V.non, H2, J.os, J.bare, J.base, J.hok, rfl, q2⟩
    | ret u =>
      obtain ⟨v, st2, H2, J, ru, q2⟩ := q
      exact ⟨v, H2, J.os, J.bare, J.base, J.hok, ru, q2⟩
    | brk =>
      obtain ⟨_, _, _, no⟩ := q
      exact no.elim
    | cont =>
      obtain ⟨_, _, _, no⟩ := q
      exact no.elim

section
variable {X : Cx} {CX : CXT} {k : Nat} {f : Addr} {fd : FuncData} {ps : List Str} {sp : Sp} {E : XK} {x : Str} {p pos : Pos} {e : Expr} {es : List Expr} {t : TA}
theorem fng_runs {pins : List (Addr × Obj)} {σ : L2.St} {H : Hp} {s : Shared} {Q : VK} {us : List Value} {vs : List V} (F : FnG X.prog X.w X.K X.mg X.base CX k f fd ps sp) (hgd : X.A.guards = some []) (hr : Room k X.A) (hb : Binds X.K fd ps [])
    (hx : Passes CX X E) (I : Inv X pins σ H s) (r : Vals vs us) (h : sp vs H Q E) : wpAny (model X.prog X.w) X.A (call (.ref f) us) (EP X pins σ Q) X.xe s := by
  have count : us.length = ps.length := by rw [← r.length]; exact F.len _ _ _ _ h
  have bnd := hb s us I.kIn (by rw [List.append_nil]; exact count)
  rw [List.append_nil] at bnd
  refine wpAny_call (codeAny_mono (F.run X.A X.stack s H ⟨us, []⟩ us vs Q E hgd hr I.env0 bnd r h) ?_)
  intro res s2 q
  match res, q with
  | .error e, q => exact hx pins σ H s e s2 I q
  | .ok (.ret u), q => exact I.after q
  | .ok .next, q => exact False.elim q
  | .ok .brk, q => exact False.elim q
  | .ok .cont, q => exact False.elim q
/-- f(e, ..) -/
theorem pe_callG (F : FnG X.prog X.w X.K X.mg X.base CX k f fd ps sp) (hgd : X.A.guards = some []) (hr : Room k X.A) (hg : Gl X x) (hm : X.mg x = some (.ref f)) (hk : PySem.W.keepIn X.K (.ref f) = true) (hb : Binds X.K fd ps []) (hx : Passes CX X E)
    (ha : PA X (e :: es) t) (hdb : (x == ("__debug__" : Str)) = false := by decide) (he : starEach (e :: es) X.env = (false, eval e X.env) :: starEach es X.env := by rfl) (hpl : (backTo pos (starEach es X.env)).any (·.1) = false := by rfl) :
    PE X (.Call (.Name x p) (e :: es) [] pos) (fun σ H Q => t σ H fun vs H1 => sp vs H1 Q E) := by
  refine ⟨fun pins s σ H Q I h => wpAny_Call_Name_kw (ld_glob I hg hm ?_ hdb)⟩
  refine PySem.W.callWith_K (h₀ := X.base) I.ok.mod.kin hk ?_ he hpl
  refine thn (ha.run pos pins s σ H _ I h) ?_
  rintro us s1 ⟨vs, H1, I1, r, q⟩
  exact ⟨I1.kIn, fng_runs F hgd hr hb hx I1 r q⟩
end

/-! ### contracts over data: pure defs; defs that also change the list that they take first -/
def spP (K : PySem.W.Frag) (n : Nat) (phi : List PyData → PyData → Prop) : Sp := fun vs H Q _ => ∃ F ds r, Ex F H ∧ RpAll K F vs ds ∧ ds.length = n ∧ phi ds r ∧
  ∀ v F' H', Ex F F' → Ex F' H' → Ex H H' → (∀ a o, F' a = some o → F a = some o ∨ H a = none) → Rp K F' v r → Q v H'
def spM (K : PySem.W.Frag) (n : Nat) (phi : List PyData → List PyData → PyData → List PyData → Prop) : Sp := fun vs H Q _ => ∃ F a xs ss ds r ss' us, vs = .ref a :: us ∧ Ex F H ∧ F a = none ∧ H a = some (.lst xs) ∧ RpAll K F xs ss ∧ RpAll K F us ds ∧ ds.length = n ∧ phi ss ds r ss' ∧
  ∀ v F' H' xs', Ex F F' → Ex F' H' → F' a = none → H' a = some (.lst xs') → RpAll K F' xs' ss' → (∀ b o, b ≠ a → H b = some o → H' b = some o) → (∀ b o, F' b = some o → F b = some o ∨ H b = none) → Rp K F' v r → Q v H'
/-- a def of the module, as a call needs it -/
def DfP (P : Program) (w : World) (K : PySem.W.Frag) (mg : Str → Option Value) (base : Heap) (k : Nat) (x : Str) (n : Nat) (phi : List PyData → PyData → Prop) : Prop :=
  ∃ f fd ps, FnG P w K mg base CX0 k f fd ps (spP K n phi) ∧ mg x = some (.ref f) ∧ PySem.W.keepIn K (.ref f) = true ∧ Binds K fd ps []
def DfM (P : Program) (w : World) (K : PySem.W.Frag) (mg : Str → Option Value) (base : Heap) (k : Nat) (x : Str) (n : Nat) (phi : List PyData → List PyData → PyData → List PyData → Prop) : Prop :=
  ∃ f fd ps, FnG P w K mg base CX0 k f fd ps (spM K n phi) ∧ mg x = some (.ref f) ∧ PySem.W.keepIn K (.ref f) = true ∧ Binds K fd ps []
theorem rws_split {K : PySem.W.Frag} {F : Hp} {as : List Addr} {w : W} {ws : List W} {vs : List V} (h : RWs K F as (w :: ws) vs) : ∃ v us, vs = v :: us ∧ RW K F as w v ∧ RWs K F as ws us := match vs, h with
  | v :: us, h => ⟨v, us, rfl, h.1, h.2⟩
section
variable {X : Cx} {j k n : Nat} {x : Str} {p pos : Pos} {e : Expr} {es : List Expr} {rho : List W} {om om1 : List MO} {ds : List PyData} {r : PyData}
theorem ev_call {phi : List PyData → PyData → Prop} (D : DfP X.prog X.w X.K X.mg X.base j x n phi) (hgd : X.A.guards = some []) (hr : Room k X.A) (hjk : j ≤ k) (ha : EvA X (e :: es) rho om (ds.map W.d) om1) (hl : ds.length = n) (hp : phi ds r)
    (hg : Gl X x := by rfl) (hdb : (x == ("__debug__" : Str)) = false := by decide) (he : starEach (e :: es) X.env = (false, eval e X.env) :: starEach es X.env := by rfl) (hpl : (backTo pos (starEach es X.env)).any (·.1) = false := by rfl) :
    EvS X (.Call (.Name x p) (e :: es) [] pos) rho om (.d r) om1 := by
  obtain ⟨f, fd, ps, D1, D2, D3, D4⟩ := D
  exact fun F H as σ Q R S g => wpE_of (pe_callG D1 hgd (hr.mono hjk) hg D2 D3 D4 (pass0 (X := X)) pa_wp hdb he hpl) (ha F H as σ _ R S fun vs F1 H1 as1 p1 R1 r1 =>
    ⟨F1, ds, r, R1.ex, RWs.toRp r1, hl, hp, fun v F2 H2 e1 e2 e3 e4 rv => by
      have pp : Stp F1 H1 as1 F2 H2 as1 := ⟨e1, List.prefix_refl _, fun a o h _ => e3 a o h, fun a o h => (e4 a o h).imp id .inl, fun a h => .inl h⟩
      refine g v F2 H2 as1 (p1.trans pp) ⟨e2, R1.nd, R1.len, fun i a mo h1 h2 => ?_⟩ rv
      refine MOk.mono e1 (List.prefix_refl _) (fun o h => e3 a o h) (fun h => ?_) (R1.obj i a mo h1 h2)
      cases q : F2 a with
      | none => rfl
      | some o =>
        obtain ⟨u, hu⟩ := R1.has (List.mem_of_getElem? h1)
        rcases e4 a o q with z | z
        · rw [h] at z; cases z
        · rw [hu] at z; cases z⟩)
theorem ev_callM {phi : List PyData → List PyData → PyData → List PyData → Prop} {m : Nat} {ss ss' : List PyData} (D : DfM X.prog X.w X.K X.mg X.base j x n phi) (hgd : X.A.guards = some []) (hr : Room k X.A) (hjk : j ≤ k) (ha : EvA X (e :: es) rho om (.m m :: ds.map W.d) om1) (hl : ds.length = n) (hs : om1[m]? = some (.lst (ss.map W.d))) (hp : phi ss ds r ss')
    (hg : Gl X x := by rfl) (hdb : (x == ("__debug__" : Str)) = false := by decide) (he : starEach (e :: es) X.env = (false, eval e X.env) :: starEach es X.env := by rfl) (hpl : (backTo pos (starEach es X.env)).any (·.1) = false := by rfl) :
    EvS X (.Call (.Name x p) (e :: es) [] pos) rho om (.d r) (om1.set m (.lst (ss'.map W.d))) := by
  obtain ⟨f, fd, ps, D1, D2, D3, D4⟩ := D
  exact fun F H as σ Q R S g => wpE_of (pe_callG D1 hgd (hr.mono hjk) hg D2 D3 D4 (pass0 (X := X)) pa_wp hdb he hpl) (ha F H as σ _ R S fun vs F1 H1 as1 p1 R1 r1 => by
    obtain ⟨v0, us, rfl, ⟨a, hma, rfl⟩, rus⟩ := rws_split r1
    obtain ⟨hF, xs, hH, hx⟩ := R1.lst hma hs
    refine ⟨F1, a, xs, ss, ds, r, ss', us, rfl, R1.ex, hF, hH, RWs.toRp hx, RWs.toRp rus, hl, hp, fun v F2 H2 xs' e1 e2 e3 e4 e5 e6 e7 rv => ?_⟩
    have ma : a ∈ as1 := List.mem_of_getElem? hma
    have pp : Stp F1 H1 as1 F2 H2 as1 := ⟨e1, List.prefix_refl _, fun b o h hn => e6 b o (fun z => hn (z ▸ ma)) h, fun a o h => (e7 a o h).imp id .inl, fun a h => .inl h⟩
    refine g v F2 H2 as1 (p1.trans pp) ⟨e2, R1.nd, by rw [List.length_set]; exact R1.len, fun i b mo h1 h2 => ?_⟩ rv
    by_cases hi : i = m
    · subst hi
      rw [hma] at h1
      cases h1
      rw [List.getElem?_set_self (by rw [← R1.len]; exact (List.getElem?_eq_some_iff.mp hma).1)] at h2
      cases h2
      exact ⟨e3, xs', e4, RWs.ofRp e5⟩
    · rw [List.getElem?_set_ne (Ne.symm hi)] at h2
      have ne : b ≠ a := fun z => by
        subst z
        obtain ⟨l1, q1⟩ := List.getElem?_eq_some_iff.mp h1
        obtain ⟨l2, q2⟩ := List.getElem?_eq_some_iff.mp hma
        exact hi ((List.getElem_inj R1.nd).mp (q1.trans q2.symm))
      refine MOk.mono e1 (List.prefix_refl _) (fun o h => e6 b o ne h) (fun h => ?_) (R1.obj i b mo h1 h2)
      cases q : F2 b with
      | none => rfl
      | some o =>
        obtain ⟨u, hu⟩ := R1.has (List.mem_of_getElem? h1)
        rcases e7 b o q with z | z
        · rw [h] at z; cases z
        · rw [hu] at z; cases z)
end

/-! ### a def by its body -/
theorem rs_start {K : PySem.W.Frag} {F : Hp} {as : List Addr} : ∀ {ws : List W} {vs : List V} (m : Nat), RWs K F as ws vs → RS K F as (ws ++ List.replicate m .un) (vs.map some ++ List.replicate m none)
  | [], [], 0, _ => trivial
  | [], [], m + 1, _ => ⟨.inl rfl, rs_start (ws := []) (vs := []) m trivial⟩
  | _ :: _, _ :: _, m, h => ⟨.inr ⟨_, rfl, h.1⟩, rs_start m h.2⟩
  | [], _ :: _, _, h => h.elim
  | _ :: _, [], _, h => h.elim
section
variable {P : Program} {w : World} {K : PySem.W.Frag} {mg : Str → Option Value} {base : Heap} {k : Nat} {x qual : Str} {st : Stmt} {f : Addr} {fd : FuncData} {N ps : List Str} {n : Nat}
/-- the context of a def's body -/
abbrev cxG (P : Program) (w : World) (K : PySem.W.Frag) (mg : Str → Option Value) (base : Heap) (N : List Str) (qual : Str) (st : Stmt) (f : Addr) (cdv : Value) (A : Around) (outer : List Env) (s : Shared) (H : Hp) (E : XK) : Cx := (cxOf CX0 P w K mg base N qual (defScope st) f cdv A outer s H E).nox
theorem wpSs_nox {X : Cx} {st : List Stmt} {D : Ends} {σ : L2.St} {H : Hp} (h : wpSs X.nox st D σ H) : wpSs X st D σ H := ⟨fun pins s I => (PSs.nox pss_wp).run pins s σ H D I h⟩
theorem dfP {phi : List PyData → PyData → Prop} (F : Fun K x qual st f fd) (S : FnScope N ps (defScope st)) (hn : ps.length = n) (hm : mg x = some (.ref f)) (hb : Binds K fd ps [])
    (body : ∀ (cdv : Value) (A : Around) (outer : List Env) (s : Shared) (H : Hp) (E : XK) (ds : List PyData) (r : PyData), A.guards = some [] → Room k (A.deeper (envOfC qual (defScope st) s.heap.objs.size f cdv)) → ds.length = n → phi ds r →
      Wp (cxG P w K mg base N qual st f cdv A outer s H E) (defBody st) (ds.map W.d ++ List.replicate (N.length - n) .un) [] { nx := fun _ _ => r = .none, rt := fun w _ => w = .d r }) : DfP P w K mg base (k + 1) x n phi := by
  refine ⟨f, fd, ps, fng_of F S (fun vs H Q E h => ?_) (fun cdv A outer s H vs Q E hgd hr h => wpSs_nox ?_), hm, F.kp, hb⟩
  · obtain ⟨F, ds, r, _, h1, h2, _⟩ := h
    rw [h1.length, h2, hn]
  · obtain ⟨Fz, ds, r, h0, h1, h2, h3, h4⟩ := h
    have R : Rel K Fz H [] [] := ⟨h0, by simp, rfl, fun k a mo e _ => by simp at e⟩
    have hS : RS K Fz [] (ds.map W.d ++ List.replicate (N.length - n) .un) (start N vs) := by
      unfold L2.start
      rw [h1.length, h2]
      exact rs_start _ (RWs.ofRp h1)
    refine body cdv A outer s H E ds r hgd hr h2 h3 Fz H [] _ _ R hS ⟨fun σ' F' H' as' rho' om' p R' S' e => ?_, fun v F' H' as' w om' p R' r' e => ?_, fun σ' F' H' as' rho' om' p R' S' e => e.elim, fun σ' F' H' as' rho' om' p R' S' e => e.elim⟩
    · have e : r = .none := e
      subst e
      exact h4 .non F' H' p.exF R'.ex (fun a o h => p.keep a o h (by simp)) (fun a o h => (p.newF a o h).imp id fun z => z.elim id (fun y => by simp at y)) .non
    · have e : w = .d r := e
      subst e
      exact h4 v F' H' p.exF R'.ex (fun a o h => p.keep a o h (by simp)) (fun a o h => (p.newF a o h).imp id fun z => z.elim id (fun y => by simp at y)) r'
theorem dfM {phi : List PyData → List PyData → PyData → List PyData → Prop} (F : Fun K x qual st f fd) (S : FnScope N ps (defScope st)) (hn : ps.length = n + 1) (hm : mg x = some (.ref f)) (hb : Binds K fd ps [])
    (body : ∀ (cdv : Value) (A : Around) (outer : List Env) (s : Shared) (H : Hp) (E : XK) (ss ds : List PyData) (r : PyData) (ss' : List PyData), A.guards = some [] → Room k (A.deeper (envOfC qual (defScope st) s.heap.objs.size f cdv)) → ds.length = n → phi ss ds r ss' →
      Wp (cxG P w K mg base N qual st f cdv A outer s H E) (defBody st) (.m 0 :: (ds.map W.d ++ List.replicate (N.length - (n + 1)) .un)) [.lst (ss.map W.d)]
        { nx := fun _ o => r = .none ∧ o[0]? = some (.lst (ss'.map W.d)), rt := fun w o => w = .d r ∧ o[0]? = some (.lst (ss'.map W.d)) }) : DfM P w K mg base (k + 1) x n phi := by
  refine ⟨f, fd, ps, fng_of F S (fun vs H Q E h => ?_) (fun cdv A outer s H vs Q E hgd hr h => wpSs_nox ?_), hm, F.kp, hb⟩
  · obtain ⟨F, a, xs, ss, ds, r, ss', us, rfl, _, _, _, _, h1, h2, _⟩ := h
    rw [List.length_cons, h1.length, h2, hn]
  · obtain ⟨Fz, a, xs, ss, ds, r, ss', us, rfl, h0, hF, hH, hx, h1, h2, h3, h4⟩ := h
    have R : Rel K Fz H [a] [.lst (ss.map W.d)] := ⟨h0, by simp, rfl, fun k b mo e e2 => by
      match k, e, e2 with
      | 0, e, e2 =>
        simp at e e2
        subst e e2
        exact ⟨hF, xs, hH, RWs.ofRp hx⟩
      | k + 1, e, _ => simp at e⟩
    have hS : RS K Fz [a] (.m 0 :: (ds.map W.d ++ List.replicate (N.length - (n + 1)) .un)) (start N (.ref a :: us)) := by
      unfold L2.start
      rw [List.length_cons, h1.length, h2]
      exact ⟨.inr ⟨_, rfl, a, rfl, rfl⟩, rs_start _ (RWs.ofRp h1)⟩
    have fin : ∀ {v F' H' as' om'}, Stp Fz H [a] F' H' as' → Rel K F' H' as' om' → om'[0]? = some (.lst (ss'.map W.d)) → Rp K F' v r → Q v H' := fun {v F' H' as' om'} p R' e rv => by
      have ha' : as'[0]? = some a := pre_get p.pre rfl
      obtain ⟨hF', xs', hH', hx'⟩ := R'.lst ha' e
      refine h4 v F' H' xs' p.exF R'.ex hF' hH' (RWs.toRp hx') (fun b o ne h => p.keep b o h (by simpa using ne)) (fun b o h => ?_) rv
      rcases p.newF b o h with z | z | z
      · exact .inl z
      · exact .inr z
      · rw [List.mem_singleton] at z
        subst z
        rw [hF'] at h; cases h
    refine body cdv A outer s H E ss ds r ss' hgd hr h2 h3 Fz H [a] _ _ R hS ⟨fun σ' F' H' as' rho' om' p R' S' e => ?_, fun v F' H' as' w om' p R' r' e => ?_, fun σ' F' H' as' rho' om' p R' S' e => e.elim, fun σ' F' H' as' rho' om' p R' S' e => e.elim⟩
    · obtain ⟨er, e2⟩ : r = .none ∧ om'[0]? = some (.lst (ss'.map W.d)) := e
      exact fin p R' e2 (by rw [er]; exact .non)
    · obtain ⟨ew, e2⟩ : w = .d r ∧ om'[0]? = some (.lst (ss'.map W.d)) := e
      subst ew
      exact fin p R' e2 r'
end
end G

set_option Elab.async false
set_option linter.all false
set_option maxRecDepth 100000
set_option maxHeartbeats 2000000
namespace G
open PySem PySem.Spec PyProof.Rows L2
section
variable {X : Cx} {rho : List W} {om om1 om2 om3 : List MO} {a b e : Expr} {es : List Expr} {w w1 w2 : W} {ws : List W} {pos p : Pos}

/-! ### built-ins -/
theorem rws1 {K : PySem.W.Frag} {F : Hp} {as : List Addr} {vs : List V} (h : RWs K F as [w] vs) : ∃ v, vs = [v] ∧ RW K F as w v := match vs, h with
  | [v], h => ⟨v, rfl, h.1⟩
theorem rws2 {K : PySem.W.Frag} {F : Hp} {as : List Addr} {vs : List V} (h : RWs K F as [w1, w2] vs) : ∃ v u, vs = [v, u] ∧ RW K F as w1 v ∧ RW K F as w2 u := match vs, h with
  | [v, u], h => ⟨v, u, rfl, h.1, h.2.1⟩
theorem ev_len (hm : X.mg "len" = none) (ha : EvA X [e] rho om [w] om1) (hl : LsT om1 w ws) (hg : Gl X "len" := by rfl) (he : starEach [e] X.env = (false, eval e X.env) :: starEach [] X.env := by rfl) (hpl : (backTo pos (starEach [] X.env)).any (·.1) = false := by rfl) :
    EvS X (.Call (.Name "len" p) [e] [] pos) rho om (.d (.int ws.length)) om1 :=
  ev_callB call_len_seq hm ha (fun F H as vs Q R r g => by
    obtain ⟨v, rfl, r'⟩ := rws1 r
    clear r
    have r := r'
    obtain ⟨a, xs, rfl, h1, h2⟩ := hl.get R r
    refine ⟨a, xs, rfl, .inl h1, ?_⟩
    rw [← RWs.length h2]
    exact go_same R g (Rp.int _)) hg boot_len (by decide) (by decide) he hpl
theorem ev_lenD {ds : List PyData} (hm : X.mg "len" = none) (ha : EvA X [e] rho om [.d (.list ds)] om1) (hg : Gl X "len" := by rfl) (he : starEach [e] X.env = (false, eval e X.env) :: starEach [] X.env := by rfl) (hpl : (backTo pos (starEach [] X.env)).any (·.1) = false := by rfl) :
    EvS X (.Call (.Name "len" p) [e] [] pos) rho om (.d (.int ds.length)) om1 := by
  have := ev_len (ws := ds.map W.d) hm ha rfl hg he hpl (p := p)
  rw [List.length_map] at this
  exact this
theorem ev_lenT {ds : List PyData} (hm : X.mg "len" = none) (ha : EvA X [e] rho om [.d (.tuple ds)] om1) (hg : Gl X "len" := by rfl) (he : starEach [e] X.env = (false, eval e X.env) :: starEach [] X.env := by rfl) (hpl : (backTo pos (starEach [] X.env)).any (·.1) = false := by rfl) :
    EvS X (.Call (.Name "len" p) [e] [] pos) rho om (.d (.int ds.length)) om1 :=
  ev_callB call_len_seq hm ha (fun F H as vs Q R r g => by
    obtain ⟨v, rfl, r'⟩ := rws1 r
    clear r
    have r := r'
    have r : Rp X.K F v (.tuple ds) := r
    cases r with
    | tup h1 h2 =>
      refine ⟨_, _, rfl, .inr (R.ex.sqT h1), ?_⟩
      rw [h2.length]
      exact go_same R g (Rp.int _)) hg boot_len (by decide) (by decide) he hpl
theorem ev_int1 {i : Int} (hm : X.mg "int" = none) (ha : EvA X [e] rho om [.d (.int i)] om1) (hg : Gl X "int" := by rfl) (he : starEach [e] X.env = (false, eval e X.env) :: starEach [] X.env := by rfl) (hpl : (backTo pos (starEach [] X.env)).any (·.1) = false := by rfl) :
    EvS X (.Call (.Name "int" p) [e] [] pos) rho om (.d (.int i)) om1 :=
  ev_callTy call_int1 hm ha (fun F H as vs Q R r g => by
    obtain ⟨v, rfl, r'⟩ := rws1 r
    clear r
    have r := r'
    have r : Rp X.K F v (.int i) := r
    cases r
    exact .inl ⟨i, rfl, go_same R g (Rp.int _)⟩) hg (by decide +kernel) (by decide) (by decide) he hpl
theorem ev_intB {i : Bool} (hm : X.mg "int" = none) (ha : EvA X [e] rho om [.d (.bool i)] om1) (hg : Gl X "int" := by rfl) (he : starEach [e] X.env = (false, eval e X.env) :: starEach [] X.env := by rfl) (hpl : (backTo pos (starEach [] X.env)).any (·.1) = false := by rfl) :
    EvS X (.Call (.Name "int" p) [e] [] pos) rho om (.d (.int (if i then 1 else 0))) om1 :=
  ev_callTy call_int1 hm ha (fun F H as vs Q R r g => by
    obtain ⟨v, rfl, r'⟩ := rws1 r
    clear r
    have r := r'
    have r : Rp X.K F v (.bool i) := r
    cases r
    exact .inr ⟨i, rfl, go_same R g (Rp.int _)⟩) hg (by decide +kernel) (by decide) (by decide) he hpl
theorem ev_abs {i : Int} (hm : X.mg "abs" = none) (ha : EvA X [e] rho om [.d (.int i)] om1) (hg : Gl X "abs" := by rfl) (he : starEach [e] X.env = (false, eval e X.env) :: starEach [] X.env := by rfl) (hpl : (backTo pos (starEach [] X.env)).any (·.1) = false := by rfl) :
    EvS X (.Call (.Name "abs" p) [e] [] pos) rho om (.d (.int i.natAbs)) om1 :=
  ev_callB call_abs hm ha (fun F H as vs Q R r g => by
    obtain ⟨v, rfl, r'⟩ := rws1 r
    clear r
    have r := r'
    have r : Rp X.K F v (.int i) := r
    cases r
    refine ⟨i, rfl, go_same R g ?_⟩
    rw [show (if i < 0 then -i else i) = (i.natAbs : Int) by omega]
    exact Rp.int _) hg (by decide +kernel) (by decide) (by decide) he hpl
theorem ev_gcd {i j : Int} {x : Str} (hm : X.mg x = some (.builtin "math.gcd")) (ha : EvA X [a, b] rho om [.d (.int i), .d (.int j)] om1) (hg : Gl X x := by rfl) (hdb : (x == ("__debug__" : Str)) = false := by decide) (he : starEach [a, b] X.env = (false, eval a X.env) :: starEach [b] X.env := by rfl) (hpl : (backTo pos (starEach [b] X.env)).any (·.1) = false := by rfl) :
    EvS X (.Call (.Name x p) [a, b] [] pos) rho om (.d (.int ((Nat.gcd i.natAbs j.natAbs : Nat) : Int))) om1 :=
  ev_callF cr_gcd hm ha (fun F H as vs Q R r g => by
    obtain ⟨v, u, rfl, r1, r2⟩ := rws2 r
    have r1 : Rp X.K F v (.int i) := r1
    have r2 : Rp X.K F u (.int j) := r2
    cases r1
    cases r2
    exact ⟨i, j, rfl, go_same R g (Rp.int _)⟩) hg hdb he hpl
theorem rp_ints {K : PySem.W.Frag} {F : Hp} : ∀ {ns : List Int} {vs : List V}, RpAll K F vs (ns.map PyData.int) → vs = ns.map V.int
  | [], _, .nil => rfl
  | n :: ns, _, .cons h1 h2 => by
    cases h1
    rw [rp_ints h2]
    rfl
theorem rp_strs {K : PySem.W.Frag} {F : Hp} : ∀ {ns : List Str} {vs : List V}, RpAll K F vs (ns.map PyData.str) → vs = ns.map V.str
  | [], _, .nil => rfl
  | n :: ns, _, .cons h1 h2 => by
    cases h1
    rw [rp_strs h2]
    rfl
theorem rp_bools {K : PySem.W.Frag} {F : Hp} : ∀ {ns : List Bool} {vs : List V}, RpAll K F vs (ns.map PyData.bool) → vs = ns.map V.bl
  | [], _, .nil => rfl
  | n :: ns, _, .cons h1 h2 => by
    cases h1
    rw [rp_bools h2]
    rfl
theorem ev_sum {ns : List Int} (hcl : X.calm = true) (hm : X.mg "sum" = none) (ha : EvA X [e] rho om [.d (.list (ns.map PyData.int))] om1) (hg : Gl X "sum" := by rfl) (he : starEach [e] X.env = (false, eval e X.env) :: starEach [] X.env := by rfl) (hpl : (backTo pos (starEach [] X.env)).any (·.1) = false := by rfl) :
    EvS X (.Call (.Name "sum" p) [e] [] pos) rho om (.d (.int ns.sum)) om1 :=
  ev_callB (cr_sum hcl) hm ha (fun F H as vs Q R r g => by
    obtain ⟨v, rfl, r'⟩ := rws1 r
    clear r
    have r := r'
    have r : Rp X.K F v (.list (ns.map PyData.int)) := r
    cases r with
    | lst h1 h2 =>
      obtain rfl := rp_ints h2
      exact ⟨_, ns, rfl, SqL.of (R.ex _ _ h1), go_same R g (Rp.int _)⟩) hg (by decide +kernel) (by decide) (by decide) he hpl
theorem ev_all {ns : List Bool} (hcl : X.calm = true) (hm : X.mg "all" = none) (ha : EvA X [e] rho om [.d (.list (ns.map PyData.bool))] om1) (hg : Gl X "all" := by rfl) (he : starEach [e] X.env = (false, eval e X.env) :: starEach [] X.env := by rfl) (hpl : (backTo pos (starEach [] X.env)).any (·.1) = false := by rfl) :
    EvS X (.Call (.Name "all" p) [e] [] pos) rho om (.d (.bool (ns.all id))) om1 :=
  ev_callB (cr_all hcl) hm ha (fun F H as vs Q R r g => by
    obtain ⟨v, rfl, r'⟩ := rws1 r
    clear r
    have r := r'
    have r : Rp X.K F v (.list (ns.map PyData.bool)) := r
    cases r with
    | lst h1 h2 =>
      obtain rfl := rp_bools h2
      exact ⟨_, ns, rfl, SqL.of (R.ex _ _ h1), go_same R g (Rp.bl _)⟩) hg (by decide +kernel) (by decide) (by decide) he hpl
theorem ev_any {ns : List Bool} (hcl : X.calm = true) (hm : X.mg "any" = none) (ha : EvA X [e] rho om [.d (.list (ns.map PyData.bool))] om1) (hg : Gl X "any" := by rfl) (he : starEach [e] X.env = (false, eval e X.env) :: starEach [] X.env := by rfl) (hpl : (backTo pos (starEach [] X.env)).any (·.1) = false := by rfl) :
    EvS X (.Call (.Name "any" p) [e] [] pos) rho om (.d (.bool (ns.any id))) om1 :=
  ev_callB (cr_any hcl) hm ha (fun F H as vs Q R r g => by
    obtain ⟨v, rfl, r'⟩ := rws1 r
    clear r
    have r := r'
    have r : Rp X.K F v (.list (ns.map PyData.bool)) := r
    cases r with
    | lst h1 h2 =>
      obtain rfl := rp_bools h2
      exact ⟨_, ns, rfl, SqL.of (R.ex _ _ h1), go_same R g (Rp.bl _)⟩) hg (by decide +kernel) (by decide) (by decide) he hpl
/-- list(x) -/
theorem en_list (hm : X.mg "list" = none) (ha : EvA X [e] rho om [w] om1) (hl : LsT om1 w ws) (hg : Gl X "list" := by rfl) (he : starEach [e] X.env = (false, eval e X.env) :: starEach [] X.env := by rfl) (hpl : (backTo pos (starEach [] X.env)).any (·.1) = false := by rfl) :
    EvN X (.Call (.Name "list" p) [e] [] pos) rho om ws om1 := fun F H as σ Q R S g =>
  wpE_of (pe_callTy call_list_of hg hm (by decide +kernel) pa_wp (by decide) (by decide) he hpl) (ha F H as σ _ R S fun vs F1 H1 as1 p1 R1 r1 => by
    obtain ⟨v, rfl, r⟩ := rws1 r1
    obtain ⟨a, xs, rfl, h1, h2⟩ := hl.get R1 r
    exact ⟨a, xs, rfl, .inl h1, fun l hl => g l xs F1 H1 as1 p1 R1 h2 hl⟩)
/-- [..] * k -/
theorem rep_map {ds : List PyData} {k : Nat} : ((List.replicate k ds).flatten).map W.d = (List.replicate k (ds.map W.d)).flatten := by
  rw [List.map_flatten, List.map_replicate]
theorem rws_rep {K : PySem.W.Frag} {F : Hp} {as : List Addr} {xs : List V} (h : RWs K F as ws xs) : ∀ k : Nat, RWs K F as (List.replicate k ws).flatten (List.replicate k xs).flatten
  | 0 => trivial
  | k + 1 => by
    rw [List.replicate_succ, List.replicate_succ, List.flatten_cons, List.flatten_cons]
    exact RWs.append h (rws_rep h k)
theorem en_rep {ds : List PyData} {k : Int} (ha : EvS X a rho om (.d (.list ds)) om1) (hb : EvS X b rho om1 (.d (.int k)) om2) (h1 : -(2 ^ 63) ≤ k ∧ k < 2 ^ 63) (h2 : ds.length * k.toNat ≤ sizeLine) : EvN X (.BinOp a .Mult b pos) rho om (((List.replicate k.toNat ds).flatten).map W.d) om2 := fun F H as σ Q R S g =>
  wpE_of (pe_op op_rep pe_wp pe_wp) (ha F H as σ _ R S fun x F1 H1 as1 p1 R1 r1 => hb F1 H1 as1 σ _ R1 (S.step p1) fun y F2 H2 as2 p2 R2 r2 => by
    have r2 : Rp X.K F2 y (.int k) := r2
    have r1 : Rp X.K F1 x (.list ds) := r1
    cases r2
    cases r1 with
    | lst q1 q2 =>
      refine ⟨_, k, _, rfl, rfl, R2.ex _ _ (p2.exF _ _ q1), h1.1, h1.2, by rw [q2.length]; exact h2, fun p hp => g p _ F2 H2 as2 (p1.trans p2) R2 ?_ hp⟩
      rw [rep_map]
      exact rws_rep (RWs.step (RWs.ofRp (as := as1) q2) p2) _)
/-- tracked lists: data, or mutable -/
def LsM (om : List MO) : W → List W → Prop
  | .d (.list ds), ws => ws = ds.map W.d
  | .m k, ws => om[k]? = some (.lst ws)
  | _, _ => False
theorem LsM.get {K : PySem.W.Frag} {F H : Hp} {as : List Addr} {v : V} (R : Rel K F H as om) (l : LsM om w ws) (r : RW K F as w v) : ∃ a xs, v = .ref a ∧ H a = some (.lst xs) ∧ RWs K F as ws xs := by
  cases w with
  | un => exact l.elim
  | s ns => exact l.elim
  | m k =>
    obtain ⟨a, h1, rfl⟩ := r
    obtain ⟨_, xs, h2, h3⟩ := R.lst h1 l
    exact ⟨a, xs, rfl, h2, h3⟩
  | d x =>
    have r : Rp K F v x := r
    cases r with
    | lst h1 h2 =>
      obtain rfl : ws = _ := l
      exact ⟨_, _, rfl, R.ex _ _ h1, RWs.ofRp h2⟩
    | _ => exact l.elim
theorem en_cat {ws1 ws2 : List W} (ha : EvS X a rho om w1 om1) (hb : EvS X b rho om1 w2 om2) (h1 : LsM om2 w1 ws1) (h2 : LsM om2 w2 ws2) (hz : ws1.length + ws2.length ≤ sizeLine) : EvN X (.BinOp a .Add b pos) rho om (ws1 ++ ws2) om2 := fun F H as σ Q R S g =>
  wpE_of (pe_op op_cat pe_wp pe_wp) (ha F H as σ _ R S fun x F1 H1 as1 p1 R1 r1 => hb F1 H1 as1 σ _ R1 (S.step p1) fun y F2 H2 as2 p2 R2 r2 => by
    obtain ⟨l1, xs, rfl, q1, q2⟩ := h1.get R2 (r1.step p2)
    obtain ⟨l2, ys, rfl, q3, q4⟩ := h2.get R2 r2
    exact ⟨l1, l2, xs, ys, rfl, rfl, q1, q3, by rw [← RWs.length q2, ← RWs.length q4]; exact hz, fun p hp => g p _ F2 H2 as2 (p1.trans p2) R2 (RWs.append q2 q4) hp⟩)
theorem en_catD {ds es : List PyData} (ha : EvS X a rho om (.d (.list ds)) om1) (hb : EvS X b rho om1 (.d (.list es)) om2) (hz : ds.length + es.length ≤ sizeLine) : EvN X (.BinOp a .Add b pos) rho om ((ds ++ es).map W.d) om2 := by
  rw [List.map_append]
  exact en_cat ha hb rfl rfl (by rw [List.length_map, List.length_map]; exact hz)
/-- tuple + tuple -/
theorem ev_catT {ds es : List PyData} (ha : EvS X a rho om (.d (.tuple ds)) om1) (hb : EvS X b rho om1 (.d (.tuple es)) om2) (hz : ds.length + es.length ≤ sizeLine) : EvS X (.BinOp a .Add b pos) rho om (.d (.tuple (ds ++ es))) om2 :=
  ev_bin op_catA ha hb fun F H as x y Q R r1 r2 g => by
    have r1 : Rp X.K F x (.tuple ds) := r1
    have r2 : Rp X.K F y (.tuple es) := r2
    cases r1 with
    | tup h1 h2 =>
      cases r2 with
      | tup h3 h4 =>
        refine ⟨_, _, _, _, rfl, rfl, R.ex.sqT h1, R.ex.sqT h3, by rw [h2.length, h4.length]; exact hz, fun e => ?_, fun _ e => ?_, fun _ _ p hp => ?_⟩
        · subst e
          cases h2
          exact go_same R g (Rp.tup h3 h4)
        · subst e
          cases h4
          refine go_same R g ?_
          rw [List.append_nil]
          exact Rp.tup h1 h2
        · obtain ⟨R2, p2⟩ := R.newF (o := .tup _) hp
          exact g _ _ _ _ p2 R2 (Rp.tup (SqT.of upd_same) (RpAll.mono p2.exF _ _ (h2.append h4)))

/-! ### in -/
theorem all_flat_ints (ns : List Int) : (ns.map V.int).all flatV = true := by rw [List.all_map]; exact List.all_eq_true.mpr fun _ _ => rfl
theorem all_flat_strs (ns : List Str) : (ns.map V.str).all flatV = true := by rw [List.all_map]; exact List.all_eq_true.mpr fun _ _ => rfl
theorem inV_ints (i : Int) (ns : List Int) : inV (.int i) (ns.map V.int) = decide (i ∈ ns) := by
  rw [Bool.eq_iff_iff, decide_eq_true_iff]
  unfold inV
  rw [List.any_map, List.any_eq_true]
  constructor
  · rintro ⟨x, hx, h⟩
    have h : eqV (.int x) (.int i) = true := h
    have : x = i := by simpa [eqV] using h
    exact this ▸ hx
  · intro h
    exact ⟨i, h, by show eqV (.int i) (.int i) = true; simp [eqV]⟩
theorem inV_strs (i : Str) (ns : List Str) : inV (.str i) (ns.map V.str) = decide (i ∈ ns) := by
  rw [Bool.eq_iff_iff, decide_eq_true_iff]
  unfold inV
  rw [List.any_map, List.any_eq_true]
  constructor
  · rintro ⟨x, hx, h⟩
    have h : eqV (.str x) (.str i) = true := h
    have : x = i := by simpa [eqV] using h
    exact this ▸ hx
  · intro h
    exact ⟨i, h, by show eqV (.str i) (.str i) = true; simp [eqV]⟩
theorem od_inI {K : PySem.W.Frag} {i : Int} {ns : List Int} : OpD K (rIn K false) (.d (.int i)) (.d (.list (ns.map PyData.int))) om (.d (.bool (decide (i ∈ ns)))) om := fun F H as x y Q R r1 r2 g => by
  have r1 : Rp K F x (.int i) := r1
  have r2 : Rp K F y (.list (ns.map PyData.int)) := r2
  cases r1
  cases r2 with
  | lst h1 h2 =>
    obtain rfl := rp_ints h2
    refine ⟨_, _, rfl, .inl (SqL.of (R.ex _ _ h1)), rfl, all_flat_ints ns, go_same R g ?_⟩
    rw [inV_ints]
    exact Rp.bl _
theorem od_ninI {K : PySem.W.Frag} {i : Int} {ns : List Int} : OpD K (rIn K true) (.d (.int i)) (.d (.list (ns.map PyData.int))) om (.d (.bool (!decide (i ∈ ns)))) om := fun F H as x y Q R r1 r2 g => by
  have r1 : Rp K F x (.int i) := r1
  have r2 : Rp K F y (.list (ns.map PyData.int)) := r2
  cases r1
  cases r2 with
  | lst h1 h2 =>
    obtain rfl := rp_ints h2
    refine ⟨_, _, rfl, .inl (SqL.of (R.ex _ _ h1)), rfl, all_flat_ints ns, go_same R g ?_⟩
    rw [inV_ints]
    exact Rp.bl _
theorem od_inST {K : PySem.W.Frag} {i : Str} {ns : List Str} : OpD K (rIn K false) (.d (.str i)) (.d (.tuple (ns.map PyData.str))) om (.d (.bool (decide (i ∈ ns)))) om := fun F H as x y Q R r1 r2 g => by
  have r1 : Rp K F x (.str i) := r1
  have r2 : Rp K F y (.tuple (ns.map PyData.str)) := r2
  cases r1
  cases r2 with
  | tup h1 h2 =>
    obtain rfl := rp_strs h2
    refine ⟨_, _, rfl, .inr (R.ex.sqT h1), rfl, all_flat_strs ns, go_same R g ?_⟩
    rw [inV_strs]
    exact Rp.bl _
theorem od_inSL {K : PySem.W.Frag} {i : Str} {ns : List Str} : OpD K (rIn K false) (.d (.str i)) (.d (.list (ns.map PyData.str))) om (.d (.bool (decide (i ∈ ns)))) om := fun F H as x y Q R r1 r2 g => by
  have r1 : Rp K F x (.str i) := r1
  have r2 : Rp K F y (.list (ns.map PyData.str)) := r2
  cases r1
  cases r2 with
  | lst h1 h2 =>
    obtain rfl := rp_strs h2
    refine ⟨_, _, rfl, .inl (SqL.of (R.ex _ _ h1)), rfl, all_flat_strs ns, go_same R g ?_⟩
    rw [inV_strs]
    exact Rp.bl _
theorem evt_inI {i : Int} {ns : List Int} (ha : EvS X a rho om (.d (.int i)) om1) (hb : EvS X b rho om1 (.d (.list (ns.map PyData.int))) om2) (hm : behindInMarks .In b = false := by with_unfolding_all rfl) : EvT X (.Compare a [.In] [b] pos) rho om (decide (i ∈ ns)) om2 := evt_cmp op_in_seq ha hb od_inI hm
theorem evt_ninI {i : Int} {ns : List Int} (ha : EvS X a rho om (.d (.int i)) om1) (hb : EvS X b rho om1 (.d (.list (ns.map PyData.int))) om2) (hm : behindInMarks .NotIn b = false := by with_unfolding_all rfl) : EvT X (.Compare a [.NotIn] [b] pos) rho om (!decide (i ∈ ns)) om2 := evt_cmp op_notIn_seq ha hb od_ninI hm
theorem evt_inST {i : Str} {ns : List Str} (ha : EvS X a rho om (.d (.str i)) om1) (hb : EvS X b rho om1 (.d (.tuple (ns.map PyData.str))) om2) (hm : behindInMarks .In b = false := by with_unfolding_all rfl) : EvT X (.Compare a [.In] [b] pos) rho om (decide (i ∈ ns)) om2 := evt_cmp op_in_seq ha hb od_inST hm
theorem evt_inSL {i : Str} {ns : List Str} (ha : EvS X a rho om (.d (.str i)) om1) (hb : EvS X b rho om1 (.d (.list (ns.map PyData.str))) om2) (hm : behindInMarks .In b = false := by with_unfolding_all rfl) : EvT X (.Compare a [.In] [b] pos) rho om (decide (i ∈ ns)) om2 := evt_cmp op_in_seq ha hb od_inSL hm

/-! ### methods that read -/
theorem ty_list {K : PySem.W.Frag} {H : Hp} {a : Addr} {xs : List V} (h : H a = some (.lst xs)) : tyV K "list" (.ref a) H := Or.inl ⟨rfl, _, SqL.of h⟩
/-- xs.count(i), ints -/
theorem ev_count {o : Expr} {apos : Pos} {i : Int} {ns : List Int} (ho : EvS X o rho om w om1) (he : EvA X [e] rho om1 [.d (.int i)] om2) (hl1 : LsM om1 w (ns.map fun n => W.d (.int n))) (hl : LsM om2 w (ns.map fun n => W.d (.int n)))
    (hbase : attributeBase o "count" X.env (eval o X.env) = eval o X.env := by rfl)
    (hfew : ((backTo pos (starEach [e] X.env)).all (fun x => !x.1) && (backToKw pos (keywordEach [] X.env)).all (fun x => x.1.isSome)
      && decide (([e] : List Expr).length + ([] : List Keyword).length + (if ([] : List Keyword).isEmpty then 0 else 1) < 30)) = true := by rfl)
    (hline : (apos.endLine == pos.line) = true := by rfl) (hs : starEach [e] X.env = (false, eval e X.env) :: starEach [] X.env := by rfl) (hplain : (backTo pos (starEach [] X.env)).any (·.1) = false := by rfl) :
    EvS X (.Call (.Attribute o "count" apos) [e] [] pos) rho om (.d (.int (ns.count i : Nat))) om2 := fun F H as σ Q R S g =>
  wpE_of (pe_bm PySem.F.plainAttrs_list PySem.F.slot_list_count PySem.F.type_list_count mt_lcount pe_wp pa_wp hbase hfew hline hs hplain) (ho F H as σ _ R S fun x F1 H1 as1 p1 R1 r1 => by
    obtain ⟨a0, xs0, rfl, q0, _⟩ := hl1.get R1 r1
    refine ⟨ty_list q0, he F1 H1 as1 σ _ R1 (S.step p1) fun vs F2 H2 as2 p2 R2 r2 => ?_⟩
    obtain ⟨v, rfl, r2'⟩ := rws1 r2
    clear r2
    have r2 := r2'
    have r2 : Rp X.K F2 v (.int i) := r2
    cases r2
    obtain ⟨a1, xs, e1, q1, q2⟩ := hl.get R2 (r1.step p2)
    cases e1
    have q3 : RWs X.K F2 as2 ((ns.map PyData.int).map W.d) xs := by rw [List.map_map]; exact q2
    have := rp_ints (RWs.toRp q3)
    subst this
    exact ⟨_, ns, i, rfl, rfl, SqL.of q1, g _ F2 H2 as2 (p1.trans p2) R2 (Rp.int _)⟩)
theorem rIndex_ints {K : PySem.W.Frag} {H : Hp} {a : Addr} {ns : List Int} {i : Int} {Q : VK} (h : SqL K H a (ns.map V.int)) (hi : i ∈ ns) (q : Q (.int (ns.idxOf i : Nat)) H) : rIndex K (.ref a) [.int i] H Q := by
  have hl : ns.idxOf i < ns.length := List.idxOf_lt_length_iff.mpr hi
  refine ⟨a, _, .int i, ns.idxOf i, .int i, rfl, rfl, h, rfl, all_flat_ints ns, ?_, by simp [eqV], fun m z hm hz => ?_, q⟩
  · rw [List.getElem?_map, List.getElem?_eq_getElem hl, List.getElem_idxOf hl]
    rfl
  · rw [List.getElem?_map, List.getElem?_eq_getElem (Nat.lt_trans hm hl)] at hz
    cases hz
    have : ns[m]'(Nat.lt_trans hm hl) ≠ i := fun e => by
      have hm : m < ns.findIdx (· == i) := hm
      have := List.not_of_lt_findIdx hm
      simp at this
      exact this e
    show eqV (.int _) (.int i) = false
    simp [eqV, this]
theorem ev_index {o : Expr} {apos : Pos} {i : Int} {ns : List Int} (ho : EvS X o rho om w om1) (he : EvA X [e] rho om1 [.d (.int i)] om2) (hl1 : LsM om1 w (ns.map fun n => W.d (.int n))) (hl : LsM om2 w (ns.map fun n => W.d (.int n))) (hi : i ∈ ns)
    (hbase : attributeBase o "index" X.env (eval o X.env) = eval o X.env := by rfl)
    (hfew : ((backTo pos (starEach [e] X.env)).all (fun x => !x.1) && (backToKw pos (keywordEach [] X.env)).all (fun x => x.1.isSome)
      && decide (([e] : List Expr).length + ([] : List Keyword).length + (if ([] : List Keyword).isEmpty then 0 else 1) < 30)) = true := by rfl)
    (hline : (apos.endLine == pos.line) = true := by rfl) (hs : starEach [e] X.env = (false, eval e X.env) :: starEach [] X.env := by rfl) (hplain : (backTo pos (starEach [] X.env)).any (·.1) = false := by rfl) :
    EvS X (.Call (.Attribute o "index" apos) [e] [] pos) rho om (.d (.int (ns.idxOf i : Nat))) om2 := fun F H as σ Q R S g =>
  wpE_of (pe_bm PySem.F.plainAttrs_list PySem.F.slot_list_index PySem.F.type_list_index mt_index pe_wp pa_wp hbase hfew hline hs hplain) (ho F H as σ _ R S fun x F1 H1 as1 p1 R1 r1 => by
    obtain ⟨a0, xs0, rfl, q0, _⟩ := hl1.get R1 r1
    refine ⟨ty_list q0, he F1 H1 as1 σ _ R1 (S.step p1) fun vs F2 H2 as2 p2 R2 r2 => ?_⟩
    obtain ⟨v, rfl, r2'⟩ := rws1 r2
    clear r2
    have r2 := r2'
    have r2 : Rp X.K F2 v (.int i) := r2
    cases r2
    obtain ⟨a1, xs, e1, q1, q2⟩ := hl.get R2 (r1.step p2)
    cases e1
    have q3 : RWs X.K F2 as2 ((ns.map PyData.int).map W.d) xs := by rw [List.map_map]; exact q2
    have := rp_ints (RWs.toRp q3)
    subst this
    exact rIndex_ints (SqL.of q1) hi (g _ F2 H2 as2 (p1.trans p2) R2 (Rp.int _)))

/-! ### isinstance(x, T) of a bool; repr -/
theorem ev_isiBool {q : Pos} {v : Bool} (hm : X.mg "isinstance" = none) (hm2 : X.mg "bool" = none) (he : EvS X e rho om (.d (.bool v)) om1) (hg : Gl X "isinstance" := by rfl) (hg2 : Gl X "bool" := by rfl)
    (hs : starEach [e, .Name "bool" q] X.env = (false, eval e X.env) :: starEach [.Name "bool" q] X.env := by rfl) (hs2 : starEach [.Name "bool" q] X.env = (false, eval (.Name "bool" q) X.env) :: starEach [] X.env := by rfl) (hpl : (backTo pos (starEach [.Name "bool" q] X.env)).any (·.1) = false := by rfl) :
    EvS X (.Call (.Name "isinstance" p) [e, .Name "bool" q] [] pos) rho om (.d (.bool true)) om1 := fun F H as σ Q R S g =>
  wpE_of (pe_callB call_isi hg hm (by decide +kernel) (pa_cons pe_wp (pa_cons (pe_bltn hg2 hm2 (u := .type "bool") (v := .ty "bool") (by decide +kernel) rfl) pa_nil hs2) hs) (by decide) (by decide) hs hpl) (he F H as σ _ R S fun x F1 H1 as1 p1 R1 r1 => by
    have r1 : Rp X.K F1 x (.bool v) := r1
    cases r1
    exact ⟨_, _, .type "bool", .type "bool", true, rfl, .ty _,   .base (.bl v), kit_ty (by decide +kernel), g _ F1 H1 as1 p1 R1 (Rp.bl _)⟩)
mutual
theorem Rp.noDict {K : PySem.W.Frag} {F : Hp} : ∀ (d : PyData) (v : V), Rp K F v d → d.hasDict = false
  | .none, _, _ => rfl
  | .bool b, _, _ => rfl
  | .int i, _, _ => rfl
  | .str x, _, _ => rfl
  | .list ds, _, h => by
    cases h with
    | lst h1 h2 => simp only [PyData.hasDict]; exact RpAll.noDict ds _ h2
  | .tuple ds, _, h => by
    cases h with
    | tup h1 h2 => simp only [PyData.hasDict]; exact RpAll.noDict ds _ h2
  | .dict _, _, h => by cases h
theorem RpAll.noDict {K : PySem.W.Frag} {F : Hp} : ∀ (ds : List PyData) (vs : List V), RpAll K F vs ds → PyData.hasDictAll ds = false
  | [], _, h => rfl
  | d :: ds, _, h => by
    cases h with
    | cons h1 h2 => simp only [PyData.hasDictAll]; rw [Rp.noDict d _ h1, RpAll.noDict ds _ h2]; rfl
end
/-- repr of a tuple -/
def rRep (K : PySem.W.Frag) : List V → Hp → VK → Prop := fun xs H Q => ∃ a d, xs = [.ref a] ∧ Dp K H (.ref a) d ∧ d.hasDict = false ∧ d.showable = true ∧ d.shown.length ≤ sizeLine ∧ d.depth ≤ 60 ∧ Q (.str d.shown) H
theorem call_repr_dat (hgd : X.A.guards = some []) (hu : X.A.units + 64 < cLine) : CallR X (.builtin "repr") (rRep X.K) := by
  intro pins s σ H xs us Q I r h
  obtain ⟨a, d, rfl, hd, hn, hs, hz, hdp, q⟩ := h
  obtain ⟨u, rfl, ru⟩ := vals1 r
  obtain ⟨as, rd⟩ := Dp.reads I d _ u hd ru
  cases ru
  exact repr_of_reads' rd hs (PyData.noDict_hsm hn) hgd (by omega) (fun _ _ z => z) (fun h' u tk k => ⟨.str d.shown, H, I.kept k, ⟨_, rfl⟩, q⟩) hz
theorem ev_repr {ds : List PyData} (hm : X.mg "repr" = none) (hgd : X.A.guards = some []) (hu : X.A.units + 64 < cLine) (ha : EvA X [e] rho om [.d (.tuple ds)] om1) (hs : (PyData.tuple ds).showable = true) (hz : (PyData.tuple ds).shown.length ≤ sizeLine) (hd : (PyData.tuple ds).depth ≤ 60)
    (hg : Gl X "repr" := by rfl) (he : starEach [e] X.env = (false, eval e X.env) :: starEach [] X.env := by rfl) (hpl : (backTo pos (starEach [] X.env)).any (·.1) = false := by rfl) :
    EvS X (.Call (.Name "repr" p) [e] [] pos) rho om (.d (.str (PyData.tuple ds).shown)) om1 :=
  ev_callB (call_repr_dat hgd hu) hm ha (fun F H as vs Q R r g => by
    obtain ⟨v, rfl, r'⟩ := rws1 r
    clear r
    have r := r'
    have r : Rp X.K F v (.tuple ds) := r
    have hnd := Rp.noDict _ _ r
    have hdp := Rp.dp _ _ (Rp.mono R.ex _ _ r)
    cases r with
    | tup h1 h2 => exact ⟨_, _, rfl, hdp, hnd, hs, hz, hd, go_same R g (Rp.str _)⟩) hg (by decide +kernel) (by decide) (by decide) he hpl

/-! ### walked: enumerate, zip -/
theorem zipw_get {α β γ : Type} {f : α → β → γ} : ∀ {xs : List α} {ys : List β} {i : Nat} {z : γ}, (List.zipWith f xs ys)[i]? = some z → ∃ x y, xs[i]? = some x ∧ ys[i]? = some y ∧ z = f x y := by
  intro xs ys i z h
  rw [List.getElem?_zipWith] at h
  cases hx : xs[i]? with
  | none => rw [hx] at h; simp at h
  | some x =>
    cases hy : ys[i]? with
    | none => rw [hx, hy] at h; simp at h
    | some y =>
      rw [hx, hy] at h
      cases h
      exact ⟨x, y, rfl, rfl, rfl⟩
def zipD (xs ys : List PyData) : List PyData := List.zipWith (fun x y => PyData.tuple [x, y]) xs ys
theorem it_zip {elts : List Expr} {kk : Nat} {tpos : Pos} {xs ys : List PyData} (hm : X.mg "zip" = none) (ha : EvA X [a, b] rho om [.d (.list xs), .d (.list ys)] om1) (hg : Gl X "zip" := by rfl)
    (hs : starEach [a, b] X.env = (false, eval a X.env) :: starEach [b] X.env := by rfl) (hpl : (backTo pos (starEach [b] X.env)).any (·.1) = false := by rfl) :
    ItS X (.Tuple elts kk tpos) (.Call (.Name "zip" p) [a, b] [] pos) rho om ((zipD xs ys).map W.d) om1 := fun F H as σ Rr R S g =>
  wpI_of (pi_zip hg hm pa_wp hs hpl) (ha F H as σ _ R S fun vs F1 H1 as1 p1 R1 r1 => by
    obtain ⟨v, u, rfl, r1, r2⟩ := rws2 r1
    have r1 : Rp X.K F1 v (.list xs) := r1
    have r2 : Rp X.K F1 u (.list ys) := r2
    cases r1 with
    | lst q1 q2 =>
      cases r2 with
      | lst q3 q4 =>
        refine ⟨_, _, _, _, rfl, SqL.of (R1.ex _ _ q1), SqL.of (R1.ex _ _ q3), g _ F1 H1 as1 p1 R1 fun i F2 H2 as2 om2 p2 R2 => ⟨fun hi => ?_, fun w hw => ?_⟩⟩
        · refine ⟨_, _, SqL.of (R2.ex _ _ (p2.exF _ _ q1)), SqL.of (R2.ex _ _ (p2.exF _ _ q3)), ?_⟩
          rw [q2.length, q4.length]
          unfold zipD at hi
          rw [List.length_map, List.length_zipWith] at hi
          omega
        · rw [List.getElem?_map] at hw
          cases hd : (zipD xs ys)[i]? with
          | none => rw [hd] at hw; cases hw
          | some d =>
            rw [hd] at hw
            cases hw
            obtain ⟨x, y, hx, hy, rfl⟩ := zipw_get hd
            obtain ⟨v1, hv1, rv1⟩ := q2.get hx
            obtain ⟨v2, hv2, rv2⟩ := q4.get hy
            have l1 : SqL X.K H2 _ _ := SqL.of (R2.ex _ _ (p2.exF _ _ q1))
            have l2 : SqL X.K H2 _ _ := SqL.of (R2.ex _ _ (p2.exF _ _ q3))
            refine ⟨⟨_, _, v1, v2, l1, l2, hv1, hv2⟩, fun z H3 hz => ?_⟩
            obtain ⟨T, x', y', rfl, hT, rfl, h1, h2⟩ := hz
            have e1 := h1 _ l1
            have e2 := h2 _ l2
            rw [hv1] at e1
            rw [hv2] at e2
            cases e1
            cases e2
            obtain ⟨R3, p3⟩ := R2.newF (o := .tup [v1, v2]) hT
            exact ⟨_, p3, R3, Rp.tup (SqT.of upd_same) (.cons (Rp.mono (p2.exF.trans p3.exF) _ _ rv1) (.cons (Rp.mono (p2.exF.trans p3.exF) _ _ rv2) .nil))⟩)
def enumD (xs : List PyData) : List PyData := xs.mapIdx fun i x => PyData.tuple [.int (i : Nat), x]
theorem it_enum {elts : List Expr} {kk : Nat} {tpos : Pos} {xs : List PyData} (hm : X.mg "enumerate" = none) (ha : EvA X [a] rho om [.d (.list xs)] om1) (hg : Gl X "enumerate" := by rfl)
    (hs : starEach [a] X.env = [(false, eval a X.env)] := by rfl) :
    ItS X (.Tuple elts kk tpos) (.Call (.Name "enumerate" p) [a] [] pos) rho om ((enumD xs).map W.d) om1 := fun F H as σ Rr R S g =>
  wpI_of (pi_enum hg hm pa_wp hs) (ha F H as σ _ R S fun vs F1 H1 as1 p1 R1 r1 => by
    obtain ⟨v, rfl, r1'⟩ := rws1 r1
    clear r1
    have r1 := r1'
    have r1 : Rp X.K F1 v (.list xs) := r1
    cases r1 with
    | lst q1 q2 =>
      refine ⟨_, _, rfl, SqL.of (R1.ex _ _ q1), g _ F1 H1 as1 p1 R1 fun i F2 H2 as2 om2 p2 R2 => ⟨fun hi => ?_, fun w hw => ?_⟩⟩
      · refine ⟨_, SqL.of (R2.ex _ _ (p2.exF _ _ q1)), ?_⟩
        rw [q2.length]
        unfold enumD at hi
        rw [hi]; simp
      · rw [List.getElem?_map] at hw
        cases hd : (enumD xs)[i]? with
        | none => rw [hd] at hw; cases hw
        | some d =>
          rw [hd] at hw
          cases hw
          unfold enumD at hd
          rw [List.getElem?_mapIdx] at hd
          cases hx : xs[i]? with
          | none => rw [hx] at hd; cases hd
          | some x =>
            rw [hx] at hd
            cases hd
            obtain ⟨v1, hv1, rv1⟩ := q2.get hx
            have l1 : SqL X.K H2 _ _ := SqL.of (R2.ex _ _ (p2.exF _ _ q1))
            refine ⟨⟨_, v1, l1, hv1⟩, fun z H3 hz => ?_⟩
            obtain ⟨T, x', rfl, hT, rfl, h1⟩ := hz
            have e1 := h1 _ l1
            rw [hv1] at e1
            cases e1
            obtain ⟨R3, p3⟩ := R2.newF (o := .tup [.int (i : Nat), v1]) hT
            exact ⟨_, p3, R3, Rp.tup (SqT.of upd_same) (.cons (Rp.int _) (.cons (Rp.mono (p2.exF.trans p3.exF) _ _ rv1) .nil))⟩)
end
end G

set_option Elab.async false
set_option linter.all false
set_option maxRecDepth 100000
set_option maxHeartbeats 2000000
namespace G
open PySem PySem.Spec PyProof.Rows L2
section
variable {X : Cx} {rho : List W} {om om1 om2 om3 om4 om5 om6 : List MO} {a b c d e a1 a2 a3 a4 a5 a6 : Expr} {es : List Expr} {w w1 w2 : W} {ws : List W} {pos p : Pos} {st : Stmt} {rest : List Stmt} {P : Post}
theorem wp_seq (N : List W → List MO → Prop) (h : Wp1 X st rho om { P with nx := N }) (k : ∀ r o, N r o → Wp X rest r o P) : Wp X (st :: rest) rho om P :=
  wp_cons (h.imp k (fun _ _ z => z) (fun _ _ z => z) fun _ _ z => z)
theorem ev_t1 {x1} {d1 : PyData} (h1 : EvS X a1 rho om (.d d1) om1) (s1 : starEach [a1] X.env = (false, eval a1 X.env) :: starEach [] X.env := by rfl) : EvS X (.Tuple [a1] x1 pos) rho om (.d (.tuple [d1])) om1 := ev_tup (ds := [d1]) (ea_cons h1 ea_nil s1)
theorem ev_t2 {x1} {d1 d2 : PyData} (h1 : EvS X a1 rho om (.d d1) om1) (h2 : EvS X a2 rho om1 (.d d2) om2) (s1 : starEach [a1, a2] X.env = (false, eval a1 X.env) :: starEach [a2] X.env := by rfl) (s2 : starEach [a2] X.env = (false, eval a2 X.env) :: starEach [] X.env := by rfl) :
    EvS X (.Tuple [a1, a2] x1 pos) rho om (.d (.tuple [d1, d2])) om2 := ev_tup (ds := [d1, d2]) (ea_cons h1 (ea_cons h2 ea_nil s2) s1)
theorem ev_t3 {x1} {d1 d2 d3 : PyData} (h1 : EvS X a1 rho om (.d d1) om1) (h2 : EvS X a2 rho om1 (.d d2) om2) (h3 : EvS X a3 rho om2 (.d d3) om3) (s1 : starEach [a1, a2, a3] X.env = (false, eval a1 X.env) :: starEach [a2, a3] X.env := by rfl) (s2 : starEach [a2, a3] X.env = (false, eval a2 X.env) :: starEach [a3] X.env := by rfl) (s3 : starEach [a3] X.env = (false, eval a3 X.env) :: starEach [] X.env := by rfl) :
    EvS X (.Tuple [a1, a2, a3] x1 pos) rho om (.d (.tuple [d1, d2, d3])) om3 := ev_tup (ds := [d1, d2, d3]) (ea_cons h1 (ea_cons h2 (ea_cons h3 ea_nil s3) s2) s1)
section
variable {j k : Nat} {x : Str} {r d1 d2 d3 d4 : PyData}
theorem ev_call1 {phi : List PyData → PyData → Prop} (D : DfP X.prog X.w X.K X.mg X.base j x 1 phi) (hgd : X.A.guards = some []) (hr : Room k X.A) (hjk : j ≤ k) (h1 : EvS X a1 rho om (.d d1) om1) (hp : phi [d1] r) (hg : Gl X x := by rfl) (hdb : (x == ("__debug__" : Str)) = false := by decide)
    (s1 : starEach [a1] X.env = (false, eval a1 X.env) :: starEach [] X.env := by rfl) (hpl : (backTo pos (starEach [] X.env)).any (·.1) = false := by rfl) : EvS X (.Call (.Name x p) [a1] [] pos) rho om (.d r) om1 :=
  ev_call D hgd hr hjk (ds := [d1]) (ea_cons h1 ea_nil s1) rfl hp hg hdb s1 hpl
theorem ev_call2 {phi : List PyData → PyData → Prop} (D : DfP X.prog X.w X.K X.mg X.base j x 2 phi) (hgd : X.A.guards = some []) (hr : Room k X.A) (hjk : j ≤ k) (h1 : EvS X a1 rho om (.d d1) om1) (h2 : EvS X a2 rho om1 (.d d2) om2) (hp : phi [d1, d2] r) (hg : Gl X x := by rfl) (hdb : (x == ("__debug__" : Str)) = false := by decide)
    (s1 : starEach [a1, a2] X.env = (false, eval a1 X.env) :: starEach [a2] X.env := by rfl) (s2 : starEach [a2] X.env = (false, eval a2 X.env) :: starEach [] X.env := by rfl) (hpl : (backTo pos (starEach [a2] X.env)).any (·.1) = false := by rfl) : EvS X (.Call (.Name x p) [a1, a2] [] pos) rho om (.d r) om2 :=
  ev_call D hgd hr hjk (ds := [d1, d2]) (ea_cons h1 (ea_cons h2 ea_nil s2) s1) rfl hp hg hdb s1 hpl
theorem ev_call3 {phi : List PyData → PyData → Prop} (D : DfP X.prog X.w X.K X.mg X.base j x 3 phi) (hgd : X.A.guards = some []) (hr : Room k X.A) (hjk : j ≤ k) (h1 : EvS X a1 rho om (.d d1) om1) (h2 : EvS X a2 rho om1 (.d d2) om2) (h3 : EvS X a3 rho om2 (.d d3) om3) (hp : phi [d1, d2, d3] r) (hg : Gl X x := by rfl) (hdb : (x == ("__debug__" : Str)) = false := by decide)
    (s1 : starEach [a1, a2, a3] X.env = (false, eval a1 X.env) :: starEach [a2, a3] X.env := by rfl) (s2 : starEach [a2, a3] X.env = (false, eval a2 X.env) :: starEach [a3] X.env := by rfl) (s3 : starEach [a3] X.env = (false, eval a3 X.env) :: starEach [] X.env := by rfl) (hpl : (backTo pos (starEach [a2, a3] X.env)).any (·.1) = false := by rfl) :
    EvS X (.Call (.Name x p) [a1, a2, a3] [] pos) rho om (.d r) om3 :=
  ev_call D hgd hr hjk (ds := [d1, d2, d3]) (ea_cons h1 (ea_cons h2 (ea_cons h3 ea_nil s3) s2) s1) rfl hp hg hdb s1 hpl
theorem ev_call4 {phi : List PyData → PyData → Prop} (D : DfP X.prog X.w X.K X.mg X.base j x 4 phi) (hgd : X.A.guards = some []) (hr : Room k X.A) (hjk : j ≤ k) (h1 : EvS X a1 rho om (.d d1) om1) (h2 : EvS X a2 rho om1 (.d d2) om2) (h3 : EvS X a3 rho om2 (.d d3) om3) (h4 : EvS X a4 rho om3 (.d d4) om4) (hp : phi [d1, d2, d3, d4] r) (hg : Gl X x := by rfl) (hdb : (x == ("__debug__" : Str)) = false := by decide)
    (s1 : starEach [a1, a2, a3, a4] X.env = (false, eval a1 X.env) :: starEach [a2, a3, a4] X.env := by rfl) (s2 : starEach [a2, a3, a4] X.env = (false, eval a2 X.env) :: starEach [a3, a4] X.env := by rfl) (s3 : starEach [a3, a4] X.env = (false, eval a3 X.env) :: starEach [a4] X.env := by rfl) (s4 : starEach [a4] X.env = (false, eval a4 X.env) :: starEach [] X.env := by rfl) (hpl : (backTo pos (starEach [a2, a3, a4] X.env)).any (·.1) = false := by rfl) :
    EvS X (.Call (.Name x p) [a1, a2, a3, a4] [] pos) rho om (.d r) om4 :=
  ev_call D hgd hr hjk (ds := [d1, d2, d3, d4]) (ea_cons h1 (ea_cons h2 (ea_cons h3 (ea_cons h4 ea_nil s4) s3) s2) s1) rfl hp hg hdb s1 hpl
/-- with the list that is changed first -/
theorem ev_callM0 {phi : List PyData → List PyData → PyData → List PyData → Prop} {m : Nat} {ss ss' : List PyData} (D : DfM X.prog X.w X.K X.mg X.base j x 0 phi) (hgd : X.A.guards = some []) (hr : Room k X.A) (hjk : j ≤ k) (h0 : EvS X a1 rho om (.m m) om1) (hs : om1[m]? = some (.lst (ss.map W.d))) (hp : phi ss [] r ss') (hg : Gl X x := by rfl) (hdb : (x == ("__debug__" : Str)) = false := by decide)
    (s1 : starEach [a1] X.env = (false, eval a1 X.env) :: starEach [] X.env := by rfl) (hpl : (backTo pos (starEach [] X.env)).any (·.1) = false := by rfl) : EvS X (.Call (.Name x p) [a1] [] pos) rho om (.d r) (om1.set m (.lst (ss'.map W.d))) :=
  ev_callM D hgd hr hjk (ds := []) (ea_cons h0 ea_nil s1) rfl hs hp hg hdb s1 hpl
theorem ev_callM1 {phi : List PyData → List PyData → PyData → List PyData → Prop} {m : Nat} {ss ss' : List PyData} (D : DfM X.prog X.w X.K X.mg X.base j x 1 phi) (hgd : X.A.guards = some []) (hr : Room k X.A) (hjk : j ≤ k) (h0 : EvS X a1 rho om (.m m) om1) (h1 : EvS X a2 rho om1 (.d d1) om2) (hs : om2[m]? = some (.lst (ss.map W.d))) (hp : phi ss [d1] r ss') (hg : Gl X x := by rfl) (hdb : (x == ("__debug__" : Str)) = false := by decide)
    (s1 : starEach [a1, a2] X.env = (false, eval a1 X.env) :: starEach [a2] X.env := by rfl) (s2 : starEach [a2] X.env = (false, eval a2 X.env) :: starEach [] X.env := by rfl) (hpl : (backTo pos (starEach [a2] X.env)).any (·.1) = false := by rfl) : EvS X (.Call (.Name x p) [a1, a2] [] pos) rho om (.d r) (om2.set m (.lst (ss'.map W.d))) :=
  ev_callM D hgd hr hjk (ds := [d1]) (ea_cons h0 (ea_cons h1 ea_nil s2) s1) rfl hs hp hg hdb s1 hpl
theorem ev_callM2 {phi : List PyData → List PyData → PyData → List PyData → Prop} {m : Nat} {ss ss' : List PyData} (D : DfM X.prog X.w X.K X.mg X.base j x 2 phi) (hgd : X.A.guards = some []) (hr : Room k X.A) (hjk : j ≤ k) (h0 : EvS X a1 rho om (.m m) om1) (h1 : EvS X a2 rho om1 (.d d1) om2) (h2 : EvS X a3 rho om2 (.d d2) om3) (hs : om3[m]? = some (.lst (ss.map W.d))) (hp : phi ss [d1, d2] r ss') (hg : Gl X x := by rfl) (hdb : (x == ("__debug__" : Str)) = false := by decide)
    (s1 : starEach [a1, a2, a3] X.env = (false, eval a1 X.env) :: starEach [a2, a3] X.env := by rfl) (s2 : starEach [a2, a3] X.env = (false, eval a2 X.env) :: starEach [a3] X.env := by rfl) (s3 : starEach [a3] X.env = (false, eval a3 X.env) :: starEach [] X.env := by rfl) (hpl : (backTo pos (starEach [a2, a3] X.env)).any (·.1) = false := by rfl) : EvS X (.Call (.Name x p) [a1, a2, a3] [] pos) rho om (.d r) (om3.set m (.lst (ss'.map W.d))) :=
  ev_callM D hgd hr hjk (ds := [d1, d2]) (ea_cons h0 (ea_cons h1 (ea_cons h2 ea_nil s3) s2) s1) rfl hs hp hg hdb s1 hpl
end

/-! ### zip of three lists -/
def Itz3 (K : PySem.W.Frag) (a b c : Addr) : It :=
  ⟨fun i H => ∃ xs ys zs, SqL K H a xs ∧ SqL K H b ys ∧ SqL K H c zs ∧ i < min (min xs.length ys.length) zs.length,
    fun i H v H' => ∃ T x y z, v = .ref T ∧ H T = none ∧ H' = upd H T (.tup [x, y, z]) ∧ (∀ xs, SqL K H a xs → xs[i]? = some x) ∧ (∀ ys, SqL K H b ys → ys[i]? = some y) ∧ (∀ zs, SqL K H c zs → zs[i]? = some z),
    fun i H => ∃ xs ys zs, SqL K H a xs ∧ SqL K H b ys ∧ SqL K H c zs ∧ i = min (min xs.length ys.length) zs.length⟩
theorem turn_zip3 {P : Program} {w : World} {K : PySem.W.Frag} {elts : List Expr} {kk : Nat} {tpos : Pos} {a b c z TI TO i1 i2 i3 : Addr} (S : ZipSep3 z TI TO i1 i2 i3 [i1, a] [i2, b] [i3, c]) (n1 : a ≠ i1) (n2 : b ≠ i2) (n3 : c ≠ i3) :
    Turn P w K (.Tuple elts kk tpos) (Itz3 K a b c) [z, TI, TO, i1, i2, i3] z (fun i h => IsZip h z TI TO .none ∧ IsTupOf3 h TI (.ref i1) (.ref i2) (.ref i3) ∧ (∃ a1 a2 a3, IsTupOf3 h TO a1 a2 a3) ∧ h.IsListIter i1 a i ∧ h.IsListIter i2 b i ∧ h.IsListIter i3 c i) where
  mem := by simp
  obj := fun i h st d hd => by
    obtain ⟨hz, hTI, ⟨u1, u2, u3, hTO⟩, ⟨o1, q1, _, d1⟩, ⟨o2, q2, _, d2⟩, ⟨o3, q3, _, d3⟩⟩ := st
    have hd' : d = z ∨ d = TI ∨ d = TO ∨ d = i1 ∨ d = i2 ∨ d = i3 := by simpa using hd
    rcases hd' with e | e | e | e | e | e <;> subst e
    · exact ⟨_, hz, fun v q => nomatch q⟩
    · exact ⟨_, hTI, fun v q => nomatch q⟩
    · exact ⟨_, hTO, fun v q => nomatch q⟩
    · exact ⟨o1, q1, fun v q => by rw [d1] at q; cases q⟩
    · exact ⟨o2, q2, fun v q => by rw [d2] at q; cases q⟩
    · exact ⟨o3, q3, fun v q => by rw [d3] at q; cases q⟩
  keep := fun i h h' st k => by
    obtain ⟨hz, hTI, ⟨u1, u2, u3, hTO⟩, q1, q2, q3⟩ := st
    exact ⟨k z (by simp) _ hz, k TI (by simp) _ hTI, ⟨u1, u2, u3, k TO (by simp) _ hTO⟩, q1.at fun o e => k i1 (by simp) o e, q2.at fun o e => k i2 (by simp) o e, q3.at fun o e => k i3 (by simp) o e⟩
  item := by
    intro X hP hw hK hc i pins s σ H E I hf st hg
    subst hP hw hK
    obtain ⟨hz, hTI, hTO, q1, q2, q3⟩ := st
    obtain ⟨xs, ys, zs, la, lb, lc, hlt⟩ := hg
    obtain ⟨ia, va, pa, _⟩ := I.list la
    obtain ⟨ib, vb, pb, _⟩ := I.list lb
    obtain ⟨ic, vc, pc, _⟩ := I.list lc
    have e1 := va.length
    have e2 := vb.length
    have e3 := vc.length
    have hh : X.A.in1.handled = none := I.ok.hd hc
    have Wk := WalksT.zipD3 (A := X.A) S (Draws.list (prog := X.prog) (w := X.w) hh i1 a n1 ia.toArray) (Draws.list hh i2 b n2 ib.toArray) (Draws.list hh i3 c n3 ic.toArray)
    have zl : z < s.heap.objs.size := Heap.lt_size hz
    refine Wk.item i s _ _ (by simp only [List.size_toArray]; omega) ⟨hz, hTI, hTO, ⟨q1, pa.isList⟩, ⟨q2, pb.isList⟩, ⟨q3, pc.isList⟩⟩ fun T vals h' tk hv hT hTup hMid hk => ?_
    refine ⟨_, rfl, Wk.go elts kk tpos i T { s with heap := h', toks := tk } _ _ hMid fun h'' st'' hk'' => ?_⟩
    obtain ⟨u1, u2, u3, f1, f2, f3, rfl⟩ := hv
    have nT := Wk.apart i T h' hMid
    obtain ⟨x, hx, rx⟩ : ∃ x, xs[i]? = some x ∧ RelV x u1 := by
      have hi : i < xs.length := by omega
      obtain ⟨u, hu, ru⟩ := va.get (List.getElem?_eq_getElem hi)
      have f1 : ia.toArray[i]? = some u1 := f1
      rw [List.getElem?_toArray, hu] at f1
      cases f1
      exact ⟨_, List.getElem?_eq_getElem hi, ru⟩
    obtain ⟨y, hy, ry⟩ : ∃ y, ys[i]? = some y ∧ RelV y u2 := by
      have hi : i < ys.length := by omega
      obtain ⟨u, hu, ru⟩ := vb.get (List.getElem?_eq_getElem hi)
      have f2 : ib.toArray[i]? = some u2 := f2
      rw [List.getElem?_toArray, hu] at f2
      cases f2
      exact ⟨_, List.getElem?_eq_getElem hi, ru⟩
    obtain ⟨v, hv, rv⟩ : ∃ v, zs[i]? = some v ∧ RelV v u3 := by
      have hi : i < zs.length := by omega
      obtain ⟨u, hu, ru⟩ := vc.get (List.getElem?_eq_getElem hi)
      have f3 : ic.toArray[i]? = some u3 := f3
      rw [List.getElem?_toArray, hu] at f3
      cases f3
      exact ⟨_, List.getElem?_eq_getElem hi, ru⟩
    obtain ⟨oT, hoT, cT, nn, dT⟩ := hTup
    have hT2 : h''.get? T = some oT := hk'' T oT nT hoT
    have hTn : H T = none := I.hok.fresh hT
    have new : ObjOk X.prog X.w (upd H T (.tup [x, y, v])) h'' T (.tup [x, y, v]) :=
      ⟨by simp [sizeLine_eq], [u1, u2, u3], .cons rx (.cons ry (.cons rv .nil)), ⟨oT, hT2, cT, nn, dT⟩⟩
    have sub : ∀ d ∈ [z, TO, i1, i2, i3], d ∈ [z, TI, TO, i1, i2, i3] := fun d hd => by
      simp only [List.mem_cons, List.not_mem_nil, or_false] at hd ⊢
      rcases hd with e | e | e | e | e <;> simp [e]
    have I1 : Inv X pins σ (upd H T (.tup [x, y, v])) { s with heap := h'', toks := tk } :=
      I.turnedNew (ch := [z, TO, i1, i2, i3]) (fun d o hd e => hk'' d o hd (hk d o hd e)) (fun d hd => hf d (sub d hd)) hT new
    obtain ⟨g1, g2, g3, g4, g5, g6⟩ := st''
    refine ⟨.ref T, _, I1, rfl, ⟨T, x, y, v, rfl, hTn, rfl, fun l hl => by rw [I.list_inj hl la]; exact hx, fun l hl => by rw [I.list_inj hl lb]; exact hy, fun l hl => by rw [I.list_inj hl lc]; exact hv⟩, ⟨g1, g2, g3, g4.1, g5.1, g6.1⟩, fun d hd => ?_⟩
    have ne : d ≠ T := fun e => by
      have : d < s.heap.objs.size := by
        have hd' : d = z ∨ d = TI ∨ d = TO ∨ d = i1 ∨ d = i2 ∨ d = i3 := by simpa using hd
        obtain ⟨w1, w2, w3, hTO'⟩ := hTO
        obtain ⟨o1, y1, _⟩ := q1
        obtain ⟨o2, y2, _⟩ := q2
        obtain ⟨o3, y3, _⟩ := q3
        rcases hd' with e | e | e | e | e | e <;> rw [e]
        · exact zl
        · exact Heap.lt_size hTI
        · exact Heap.lt_size hTO'
        · exact Heap.lt_size y1
        · exact Heap.lt_size y2
        · exact Heap.lt_size y3
      rw [e] at this
      exact absurd (Nat.lt_of_lt_of_le this hT) (Nat.lt_irrefl _)
    rw [upd_ne ne]
    exact (hf d hd).1
  done := by
    intro X hP hw hK hc i pins s σ H E I hf st hg
    subst hP hw hK
    obtain ⟨hz, hTI, hTO, q1, q2, q3⟩ := st
    obtain ⟨xs, ys, zs, la, lb, lc, hlt⟩ := hg
    obtain ⟨ia, va, pa, _⟩ := I.list la
    obtain ⟨ib, vb, pb, _⟩ := I.list lb
    obtain ⟨ic, vc, pc, _⟩ := I.list lc
    have e1 := va.length
    have e2 := vb.length
    have e3 := vc.length
    have hh : X.A.in1.handled = none := I.ok.hd hc
    have Wk := WalksT.zipD3 (A := X.A) S (Draws.list (prog := X.prog) (w := X.w) hh i1 a n1 ia.toArray) (Draws.list hh i2 b n2 ib.toArray) (Draws.list hh i3 c n3 ic.toArray)
    have en : i = min (min ia.toArray.size ib.toArray.size) ic.toArray.size := by simp only [List.size_toArray]; omega
    have sub : ∀ d ∈ [z, TO, i1, i2, i3], d ∈ [z, TI, TO, i1, i2, i3] := fun d hd => by
      simp only [List.mem_cons, List.not_mem_nil, or_false] at hd ⊢
      rcases hd with e | e | e | e | e <;> simp [e]
    refine Wk.done s _ _ (by rw [← en]; exact ⟨hz, hTI, hTO, ⟨q1, pa.isList⟩, ⟨q2, pb.isList⟩, ⟨q3, pc.isList⟩⟩) fun h' tk hk => ⟨rfl, I.turnedL (ch := [z, TO, i1, i2, i3]) hk fun d hd => hf d (sub d hd)⟩
  self := fun A i s Q E st h => wpAny_pyIter_zip st.1 h
def zipD3 (xs ys zs : List PyData) : List PyData := List.zipWith (fun x yz => PyData.tuple [x, yz.1, yz.2]) xs (ys.zip zs)
theorem it_zip3 {elts : List Expr} {kk : Nat} {tpos : Pos} {xs ys zs : List PyData} (hm : X.mg "zip" = none) (ha : EvA X [a, b, c] rho om [.d (.list xs), .d (.list ys), .d (.list zs)] om1) (hg : Gl X "zip" := by rfl)
    (hs : starEach [a, b, c] X.env = (false, eval a X.env) :: starEach [b, c] X.env := by rfl) (hpl : (backTo pos (starEach [b, c] X.env)).any (·.1) = false := by rfl) :
    ItS X (.Tuple elts kk tpos) (.Call (.Name "zip" p) [a, b, c] [] pos) rho om ((zipD3 xs ys zs).map W.d) om1 := fun F H as σ Rr R S g => by
  constructor
  intro pins s I
  refine Call_ (ld_blt I hg hm PyProof.Rows.boot_zip (PyProof.Rows.callWith_type1 (thn ((ha F H as σ (fun vs H1 => ∃ l1 l2 l3 x1 x2 x3, vs = [.ref l1, .ref l2, .ref l3] ∧ SqL X.K H1 l1 x1 ∧ SqL X.K H1 l2 x2 ∧ SqL X.K H1 l3 x3 ∧ Rr (Itz3 X.K l1 l2 l3) H1) R S (fun vs F1 H1 as1 p1 R1 r1 => ?_)).go pos pins s I) fun us s1 h1 => ?_) hs hpl))
  · obtain ⟨v1, vs2, rfl, r1a, r1b⟩ := rws_split r1
    obtain ⟨v2, v3, rfl, r2, r3⟩ := rws2 r1b
    have r1a : Rp X.K F1 v1 (.list xs) := r1a
    have r2 : Rp X.K F1 v2 (.list ys) := r2
    have r3 : Rp X.K F1 v3 (.list zs) := r3
    cases r1a with
    | lst qa qb =>
    cases r2 with
    | lst qc qd =>
    cases r3 with
    | lst qe qf =>
      refine ⟨_, _, _, _, _, _, rfl, SqL.of (R1.ex _ _ qa), SqL.of (R1.ex _ _ qc), SqL.of (R1.ex _ _ qe), g _ F1 H1 as1 p1 R1 fun i F2 H2 as2 om2 p2 R2 => ?_⟩
      have k1 : SqL X.K H2 _ _ := SqL.of (R2.ex _ _ (p2.exF _ _ qa))
      have k2 : SqL X.K H2 _ _ := SqL.of (R2.ex _ _ (p2.exF _ _ qc))
      have k3 : SqL X.K H2 _ _ := SqL.of (R2.ex _ _ (p2.exF _ _ qe))
      refine ⟨fun hi => ⟨_, _, _, k1, k2, k3, ?_⟩, fun w hw => ?_⟩
      · rw [hi, qb.length, qd.length, qf.length]
        unfold zipD3
        simp [Nat.min_assoc]
      · rw [List.getElem?_map] at hw
        cases hd : (zipD3 xs ys zs)[i]? with
        | none => rw [hd] at hw; cases hw
        | some d =>
          rw [hd] at hw
          cases hw
          obtain ⟨x, yz, hx, hyz, rfl⟩ := zipw_get hd
          obtain ⟨y, z⟩ := yz
          obtain ⟨hy, hz⟩ : ys[i]? = some y ∧ zs[i]? = some z := by
            rw [List.getElem?_zip_eq_some] at hyz
            exact hyz
          obtain ⟨w1, hw1, rw1⟩ := qb.get hx
          obtain ⟨w2, hw2, rw2⟩ := qd.get hy
          obtain ⟨w3, hw3, rw3⟩ := qf.get hz
          refine ⟨⟨_, _, _, k1, k2, k3, ?_⟩, fun v H3 hv => ?_⟩
          · have a1 := (List.getElem?_eq_some_iff.mp hw1).1
            have a2 := (List.getElem?_eq_some_iff.mp hw2).1
            have a3 := (List.getElem?_eq_some_iff.mp hw3).1
            omega
          · obtain ⟨T, x', y', z', rfl, hT, rfl, h1, h2, h3⟩ := hv
            have e1 := h1 _ k1
            have e2 := h2 _ k2
            have e3 := h3 _ k3
            rw [hw1] at e1
            rw [hw2] at e2
            rw [hw3] at e3
            cases e1
            cases e2
            cases e3
            obtain ⟨R3, p3⟩ := R2.newF (o := .tup [w1, w2, w3]) hT
            have ex := p2.exF.trans p3.exF
            exact ⟨_, p3, R3, Rp.tup (SqT.of upd_same) (.cons (Rp.mono ex _ _ rw1) (.cons (Rp.mono ex _ _ rw2) (.cons (Rp.mono ex _ _ rw3) .nil)))⟩
  · obtain ⟨vs, H1, I1, rv, l1, l2, l3, x1, x2, x3, rfl, k1, k2, k3, q⟩ := h1
    obtain ⟨ia, va, pa, _⟩ := I1.list k1
    obtain ⟨ib, vb, pb, _⟩ := I1.list k2
    obtain ⟨ic, vc, pc, _⟩ := I1.list k3
    have la : l1 < s1.heap.objs.size := pa.lt
    have lb : l2 < s1.heap.objs.size := pb.lt
    have lc : l3 < s1.heap.objs.size := pc.lt
    cases rv with
    | cons y1 rv =>
    cases rv with
    | cons y2 rv =>
    cases rv with
    | cons y3 rv =>
      cases rv
      cases y1
      cases y2
      cases y3
      refine zip_begins3 (begins_list l1 ia.toArray) (begins_list l2 ib.toArray) (begins_list l3 ic.toArray) pa.isList pb.isList pc.isList fun h' hz hTI hTO h1 h2 h3 hsz hk => wpAny_pyIter_zip hz ?_
      have I2 : Inv X pins σ H1 { s1 with heap := h' } := I1.kept (t' := s1.toks) hk
      have sep : ZipSep3 (s1.heap.objs.size + 5) (s1.heap.objs.size + 3) (s1.heap.objs.size + 4) s1.heap.objs.size (s1.heap.objs.size + 1) (s1.heap.objs.size + 2) [s1.heap.objs.size, l1] [s1.heap.objs.size + 1, l2] [s1.heap.objs.size + 2, l3] :=
        zip_sep3 (fun b hb => by rw [List.mem_singleton] at hb; rw [hb]; exact la) (fun b hb => by rw [List.mem_singleton] at hb; rw [hb]; exact lb) (fun b hb => by rw [List.mem_singleton] at hb; rw [hb]; exact lc)
      refine ⟨s1.heap.objs.size + 5, [s1.heap.objs.size + 5, s1.heap.objs.size + 3, s1.heap.objs.size + 4, s1.heap.objs.size, s1.heap.objs.size + 1, s1.heap.objs.size + 2], _, _, H1, rfl, I2,
        turn_zip3 sep (Nat.ne_of_lt la) (Nat.ne_of_lt (Nat.lt_succ_of_lt lb)) (Nat.ne_of_lt (Nat.lt_succ_of_lt (Nat.lt_succ_of_lt lc))), ⟨hz, hTI, ⟨_, _, _, hTO⟩, ⟨_, h1, rfl, rfl⟩, ⟨_, h2, rfl, rfl⟩, ⟨_, h3, rfl, rfl⟩⟩, fun d hd => ?_, q⟩
      have hle : s1.heap.objs.size ≤ d := by
        have hd' : d = s1.heap.objs.size + 5 ∨ d = s1.heap.objs.size + 3 ∨ d = s1.heap.objs.size + 4 ∨ d = s1.heap.objs.size ∨ d = s1.heap.objs.size + 1 ∨ d = s1.heap.objs.size + 2 := by simpa using hd
        rcases hd' with e | e | e | e | e | e <;> rw [e] <;> first | exact Nat.le_refl _ | exact Nat.le_add_right _ _
      exact I1.fpOk hle (I1.hok.fresh hle)
/-- where a def stands -/
def At (K : PySem.W.Frag) (mg : Str → Option Value) (x : Str) (st : Stmt) (ps : List Str) : Prop := ∃ f fd, Fun K x x st f fd ∧ mg x = some (.ref f) ∧ Binds K fd ps []
end
end G

set_option Elab.async false
set_option linter.all false
set_option maxRecDepth 100000
set_option maxHeartbeats 2000000
/-! what is only known by a word: results under a post-condition -/
namespace G
open PySem PySem.Spec PyProof.Rows L2
section
variable {X : Cx} {rho rho1 : List W} {om om1 om2 om3 : List MO} {a b c e : Expr} {es : List Expr} {w w1 w2 : W} {ws : List W} {pos p : Pos} {st : Stmt} {rest : List Stmt} {P : Post} {Phi Psi : W → List MO → Prop}
theorem wp1_setP (i : Nat) {x : Str} {px : Pos} (hc : X.N.Nodup) (he : EvP X e rho om fun w o => P.nx (rho.set i w) o) (hi : X.N[i]? = some x := by rfl) (hx : Loc X.env.scope x := by first | exact Or.inl rfl | exact Or.inr rfl)
    (hs : swapsWith e (some (.Name x px)) pos.line X.env = pure false := by rfl) (hf : X.fn x = true ∨ X.env.scope.names.lookup x = some .local := by first | exact .inl rfl | exact .inr rfl) : Wp1 X (.Assign [.Name x px] e pos) rho om P := fun F H as σ D R S g =>
  wpS_of (ps_set hc hi hx pe_wp hs hf) (he F H as σ _ R S fun w o k v F1 H1 as1 p1 R1 r1 => g.nx _ F1 H1 as1 _ o p1 R1 (RS.set r1 i (S.step p1)) k)
theorem wp1_asgP {tg : Expr} (he : EvP X e rho om fun w o => ∃ rho1, TgS X tg w rho rho1 ∧ P.nx rho1 o) (hs : swapsWithSole [tg] e pos.line X.env = pure false := by rfl) (hw : swappedStores [tg] e X.env = pure none := by rfl)
    (h1 : (assignEach [tg] X.env).map (·.2) = [assign tg X.env] := by rfl) : Wp1 X (.Assign [tg] e pos) rho om P := fun F H as σ D R S g =>
  wpS_of (ps_asg pe_wp pg_wp hs hw h1) (he F H as σ _ R S fun w o ⟨rho1, ht, k⟩ v F1 H1 as1 p1 R1 r1 => ht F1 H1 as1 o σ v _ R1 (S.step p1) r1 fun σ' S' => g.nx σ' F1 H1 as1 rho1 o p1 R1 S' k)
theorem wp1_retP (he : EvP X e rho om P.rt) : Wp1 X (.Return (some e) pos) rho om P := fun F H as σ D R S g =>
  wpS_of (ps_ret pe_wp) (he F H as σ _ R S fun w o k v F1 H1 as1 p1 R1 r1 => g.rt v F1 H1 as1 w o p1 R1 r1 k)
/-- the first argument, the rest -/
def EvAP (X : Cx) (es : List Expr) (rho : List W) (om : List MO) (Phi : List W → List MO → Prop) : Prop :=
  ∀ F H as σ (Q : List V → Hp → Prop), Rel X.K F H as om → RS X.K F as rho σ → (∀ ws om', Phi ws om' → GoA X.K F H as ws om' Q) → wpA X es σ H Q
theorem eap_nil {Phi : List W → List MO → Prop} (h : Phi [] om) : EvAP X [] rho om Phi := fun F H as σ Q R S g => wpA_of pa_nil (g [] om h [] F H as Stp.refl R trivial)
theorem eap_cons {Phi : List W → List MO → Prop} (ha : EvP X e rho om fun w o => EvAP X es rho o fun ws o2 => Phi (w :: ws) o2) (hs : starEach (e :: es) X.env = (false, eval e X.env) :: starEach es X.env := by rfl) : EvAP X (e :: es) rho om Phi := fun F H as σ Q R S g =>
  wpA_of (pa_cons pe_wp pa_wp hs) (ha F H as σ _ R S fun w o k x F1 H1 as1 p1 R1 r1 => k F1 H1 as1 σ _ R1 (S.step p1) fun ws o2 k2 xs F2 H2 as2 p2 R2 r2 => g (w :: ws) o2 k2 _ F2 H2 as2 (p1.trans p2) R2 ⟨r1.step p2, r2⟩)
theorem EvA.toP {Phi : List W → List MO → Prop} (h : EvA X es rho om ws om1) (k : Phi ws om1) : EvAP X es rho om Phi := fun F H as σ Q R S g => h F H as σ Q R S (g ws om1 k)
/-- a, b = x, y -/
theorem wp1_parP (i j : Nat) {x y : Str} {px py pt : Pos} {kt k2 pt2} (hcl : X.calm = true) (hc : X.N.Nodup) (ha : EvAP X [a, b] rho om fun ws o => ∃ w1 w2, ws = [w1, w2] ∧ P.nx ((rho.set i w1).set j w2) o) (hi : X.N[i]? = some x := by rfl) (hj : X.N[j]? = some y := by rfl) (hij : i ≠ j := by decide)
    (hx : X.env.scope.names.lookup x = some .local := by rfl) (hy : X.env.scope.names.lookup y = some .local := by rfl)
    (hw : swappedStores [.Tuple [.Name x px, .Name y py] kt pt] (.Tuple [a, b] k2 pt2) X.env = pure (some [x, y]) := by rfl)
    (hs : swapsWithSole [.Tuple [.Name x px, .Name y py] kt pt] (.Tuple [a, b] k2 pt2) pos.line X.env = pure false := by rfl) :
    Wp1 X (.Assign [.Tuple [.Name x px, .Name y py] kt pt] (.Tuple [a, b] k2 pt2) pos) rho om P := fun F H as σ D R S g =>
  wpS_of (ps_par hcl hc hi hj hij hx hy pa_wp hw hs) (ha F H as σ _ R S fun ws o ⟨w1, w2, e, k⟩ vs F1 H1 as1 p1 R1 r1 => by
    subst e
    obtain ⟨v, u, rfl, r1', r2⟩ := rws2 r1
    exact ⟨v, u, rfl, g.nx _ F1 H1 as1 _ o p1 R1 (RS.set r2 j (RS.set r1' i (S.step p1))) k⟩)

/-! ### contracts under a word -/
def spPR (K : PySem.W.Frag) (n : Nat) (pre : List PyData → Prop) (R : List PyData → PyData → Prop) : Sp := fun vs H Q _ => ∃ F ds, Ex F H ∧ RpAll K F vs ds ∧ ds.length = n ∧ pre ds ∧
  ∀ r, R ds r → ∀ v F' H', Ex F F' → Ex F' H' → Ex H H' → (∀ a o, F' a = some o → F a = some o ∨ H a = none) → Rp K F' v r → Q v H'
def spMR (K : PySem.W.Frag) (n : Nat) (pre : List PyData → List PyData → Prop) (R : List PyData → List PyData → PyData → List PyData → Prop) : Sp := fun vs H Q _ => ∃ F a xs ss ds us, vs = .ref a :: us ∧ Ex F H ∧ F a = none ∧ H a = some (.lst xs) ∧ RpAll K F xs ss ∧ RpAll K F us ds ∧ ds.length = n ∧ pre ss ds ∧
  ∀ r ss', R ss ds r ss' → ∀ v F' H' xs', Ex F F' → Ex F' H' → F' a = none → H' a = some (.lst xs') → RpAll K F' xs' ss' → (∀ b o, b ≠ a → H b = some o → H' b = some o) → (∀ b o, F' b = some o → F b = some o ∨ H b = none) → Rp K F' v r → Q v H'
def DfPR (P : Program) (w : World) (K : PySem.W.Frag) (mg : Str → Option Value) (base : Heap) (k : Nat) (x : Str) (n : Nat) (pre : List PyData → Prop) (R : List PyData → PyData → Prop) : Prop :=
  ∃ f fd ps, FnG P w K mg base CX0 k f fd ps (spPR K n pre R) ∧ mg x = some (.ref f) ∧ PySem.W.keepIn K (.ref f) = true ∧ Binds K fd ps []
def DfMR (P : Program) (w : World) (K : PySem.W.Frag) (mg : Str → Option Value) (base : Heap) (k : Nat) (x : Str) (n : Nat) (pre : List PyData → List PyData → Prop) (R : List PyData → List PyData → PyData → List PyData → Prop) : Prop :=
  ∃ f fd ps, FnG P w K mg base CX0 k f fd ps (spMR K n pre R) ∧ mg x = some (.ref f) ∧ PySem.W.keepIn K (.ref f) = true ∧ Binds K fd ps []
theorem rel_after {K : PySem.W.Frag} {F1 H1 F2 H2 : Hp} {as1 : List Addr} (R1 : Rel K F1 H1 as1 om1) (e1 : Ex F1 F2) (e2 : Ex F2 H2) (e3 : Ex H1 H2) (e4 : ∀ a o, F2 a = some o → F1 a = some o ∨ H1 a = none) : Rel K F2 H2 as1 om1 ∧ Stp F1 H1 as1 F2 H2 as1 := by
  refine ⟨⟨e2, R1.nd, R1.len, fun i a mo h1 h2 => ?_⟩, e1, List.prefix_refl _, fun a o h _ => e3 a o h, fun a o h => (e4 a o h).imp id .inl, fun a h => .inl h⟩
  refine MOk.mono e1 (List.prefix_refl _) (fun o h => e3 a o h) (fun h => ?_) (R1.obj i a mo h1 h2)
  cases q : F2 a with
  | none => rfl
  | some o =>
    obtain ⟨u, hu⟩ := R1.has (List.mem_of_getElem? h1)
    rcases e4 a o q with z | z
    · rw [h] at z; cases z
    · rw [hu] at z; cases z
theorem rel_afterM {K : PySem.W.Frag} {F1 H1 F2 H2 : Hp} {as1 : List Addr} {a : Addr} {m : Nat} {xs' : List V} {ss' : List PyData} (R1 : Rel K F1 H1 as1 om1) (hma : as1[m]? = some a) (e1 : Ex F1 F2) (e2 : Ex F2 H2) (e3 : F2 a = none) (e4 : H2 a = some (.lst xs')) (e5 : RpAll K F2 xs' ss')
    (e6 : ∀ b o, b ≠ a → H1 b = some o → H2 b = some o) (e7 : ∀ b o, F2 b = some o → F1 b = some o ∨ H1 b = none) : Rel K F2 H2 as1 (om1.set m (.lst (ss'.map W.d))) ∧ Stp F1 H1 as1 F2 H2 as1 := by
  have ma : a ∈ as1 := List.mem_of_getElem? hma
  refine ⟨⟨e2, R1.nd, by rw [List.length_set]; exact R1.len, fun i b mo h1 h2 => ?_⟩, e1, List.prefix_refl _, fun b o h hn => e6 b o (fun z => hn (z ▸ ma)) h, fun a o h => (e7 a o h).imp id .inl, fun a h => .inl h⟩
  by_cases hi : i = m
  · subst hi
    rw [hma] at h1
    cases h1
    rw [List.getElem?_set_self (by rw [← R1.len]; exact (List.getElem?_eq_some_iff.mp hma).1)] at h2
    cases h2
    exact ⟨e3, xs', e4, RWs.ofRp e5⟩
  · rw [List.getElem?_set_ne (Ne.symm hi)] at h2
    have ne : b ≠ a := fun z => by
      subst z
      obtain ⟨l1, q1⟩ := List.getElem?_eq_some_iff.mp h1
      obtain ⟨l2, q2⟩ := List.getElem?_eq_some_iff.mp hma
      exact hi ((List.getElem_inj R1.nd).mp (q1.trans q2.symm))
    refine MOk.mono e1 (List.prefix_refl _) (fun o h => e6 b o ne h) (fun h => ?_) (R1.obj i b mo h1 h2)
    cases q : F2 b with
    | none => rfl
    | some o =>
      obtain ⟨u, hu⟩ := R1.has (List.mem_of_getElem? h1)
      rcases e7 b o q with z | z
      · rw [h] at z; cases z
      · rw [hu] at z; cases z
section
variable {j k n : Nat} {x : Str}
theorem ep_call {pre : List PyData → Prop} {R : List PyData → PyData → Prop} (D : DfPR X.prog X.w X.K X.mg X.base j x n pre R) (hgd : X.A.guards = some []) (hr : Room k X.A) (hjk : j ≤ k)
    (ha : EvAP X (e :: es) rho om fun ws o => ∃ ds, ws = ds.map W.d ∧ ds.length = n ∧ pre ds ∧ ∀ r, R ds r → Phi (.d r) o)
    (hg : Gl X x := by rfl) (hdb : (x == ("__debug__" : Str)) = false := by decide) (he : starEach (e :: es) X.env = (false, eval e X.env) :: starEach es X.env := by rfl) (hpl : (backTo pos (starEach es X.env)).any (·.1) = false := by rfl) :
    EvP X (.Call (.Name x p) (e :: es) [] pos) rho om Phi := by
  obtain ⟨f, fd, ps, D1, D2, D3, D4⟩ := D
  exact fun F H as σ Q R S g => wpE_of (pe_callG D1 hgd (hr.mono hjk) hg D2 D3 D4 (pass0 (X := X)) pa_wp hdb he hpl) (ha F H as σ _ R S fun ws o ⟨ds, ew, hl, hp, hR⟩ vs F1 H1 as1 p1 R1 r1 => by
    subst ew
    exact ⟨F1, ds, R1.ex, RWs.toRp r1, hl, hp, fun r hr v F2 H2 e1 e2 e3 e4 rv => by
      obtain ⟨R2, pp⟩ := rel_after R1 e1 e2 e3 e4
      exact g (.d r) o (hR r hr) v F2 H2 as1 (p1.trans pp) R2 rv⟩)
theorem ep_callM {pre : List PyData → List PyData → Prop} {R : List PyData → List PyData → PyData → List PyData → Prop} (D : DfMR X.prog X.w X.K X.mg X.base j x n pre R) (hgd : X.A.guards = some []) (hr : Room k X.A) (hjk : j ≤ k)
    (ha : EvAP X (e :: es) rho om fun ws o => ∃ m ss ds, ws = .m m :: ds.map W.d ∧ ds.length = n ∧ o[m]? = some (.lst (ss.map W.d)) ∧ pre ss ds ∧ ∀ r ss', R ss ds r ss' → Phi (.d r) (o.set m (.lst (ss'.map W.d))))
    (hg : Gl X x := by rfl) (hdb : (x == ("__debug__" : Str)) = false := by decide) (he : starEach (e :: es) X.env = (false, eval e X.env) :: starEach es X.env := by rfl) (hpl : (backTo pos (starEach es X.env)).any (·.1) = false := by rfl) :
    EvP X (.Call (.Name x p) (e :: es) [] pos) rho om Phi := by
  obtain ⟨f, fd, ps, D1, D2, D3, D4⟩ := D
  exact fun F H as σ Q R S g => wpE_of (pe_callG D1 hgd (hr.mono hjk) hg D2 D3 D4 (pass0 (X := X)) pa_wp hdb he hpl) (ha F H as σ _ R S fun ws o ⟨m, ss, ds, ew, hl, ho, hp, hR⟩ vs F1 H1 as1 p1 R1 r1 => by
    subst ew
    obtain ⟨v0, us, rfl, ⟨a, hma, rfl⟩, rus⟩ := rws_split r1
    obtain ⟨hF, xs, hH, hx⟩ := R1.lst hma ho
    exact ⟨F1, a, xs, ss, ds, us, rfl, R1.ex, hF, hH, RWs.toRp hx, RWs.toRp rus, hl, hp, fun r ss' hr v F2 H2 xs' e1 e2 e3 e4 e5 e6 e7 rv => by
      obtain ⟨R2, pp⟩ := rel_afterM R1 hma e1 e2 e3 e4 e5 e6 e7
      exact g (.d r) _ (hR r ss' hr) v F2 H2 as1 (p1.trans pp) R2 rv⟩)
end
end
section
variable {P : Program} {w : World} {K : PySem.W.Frag} {mg : Str → Option Value} {base : Heap} {k : Nat} {x qual : Str} {st : Stmt} {f : Addr} {fd : FuncData} {N ps : List Str} {n : Nat}
theorem dfPR {pre : List PyData → Prop} {R : List PyData → PyData → Prop} (F : Fun K x qual st f fd) (S : FnScope N ps (defScope st)) (hn : ps.length = n) (hm : mg x = some (.ref f)) (hb : Binds K fd ps [])
    (body : ∀ (cdv : Value) (A : Around) (outer : List Env) (s : Shared) (H : Hp) (E : XK) (ds : List PyData), A.guards = some [] → Room k (A.deeper (envOfC qual (defScope st) s.heap.objs.size f cdv)) → ds.length = n → pre ds →
      Wp (cxG P w K mg base N qual st f cdv A outer s H E) (defBody st) (ds.map W.d ++ List.replicate (N.length - n) .un) [] { nx := fun _ _ => R ds .none, rt := fun w _ => ∃ r, w = .d r ∧ R ds r }) : DfPR P w K mg base (k + 1) x n pre R := by
  refine ⟨f, fd, ps, fng_of F S (fun vs H Q E h => ?_) (fun cdv A outer s H vs Q E hgd hr h => wpSs_nox ?_), hm, F.kp, hb⟩
  · obtain ⟨F, ds, _, h1, h2, _⟩ := h
    rw [h1.length, h2, hn]
  · obtain ⟨Fz, ds, h0, h1, h2, h3, h4⟩ := h
    have Rl : Rel K Fz H [] [] := ⟨h0, by simp, rfl, fun k a mo e _ => by simp at e⟩
    have hS : RS K Fz [] (ds.map W.d ++ List.replicate (N.length - n) .un) (L2.start N vs) := by
      unfold L2.start
      rw [h1.length, h2]
      exact rs_start _ (RWs.ofRp h1)
    refine body cdv A outer s H E ds hgd hr h2 h3 Fz H [] _ _ Rl hS ⟨fun σ' F' H' as' rho' om' p R' S' e => ?_, fun v F' H' as' w om' p R' r' e => ?_, fun σ' F' H' as' rho' om' p R' S' e => e.elim, fun σ' F' H' as' rho' om' p R' S' e => e.elim⟩
    · exact h4 .none e .non F' H' p.exF R'.ex (fun a o h => p.keep a o h (by simp)) (fun a o h => (p.newF a o h).imp id fun z => z.elim id (fun y => by simp at y)) .non
    · obtain ⟨r, ew, e⟩ : ∃ r, w = .d r ∧ R ds r := e
      subst ew
      exact h4 r e v F' H' p.exF R'.ex (fun a o h => p.keep a o h (by simp)) (fun a o h => (p.newF a o h).imp id fun z => z.elim id (fun y => by simp at y)) r'
theorem dfMR {pre : List PyData → List PyData → Prop} {R : List PyData → List PyData → PyData → List PyData → Prop} (F : Fun K x qual st f fd) (S : FnScope N ps (defScope st)) (hn : ps.length = n + 1) (hm : mg x = some (.ref f)) (hb : Binds K fd ps [])
    (body : ∀ (cdv : Value) (A : Around) (outer : List Env) (s : Shared) (H : Hp) (E : XK) (ss ds : List PyData), A.guards = some [] → Room k (A.deeper (envOfC qual (defScope st) s.heap.objs.size f cdv)) → ds.length = n → pre ss ds →
      Wp (cxG P w K mg base N qual st f cdv A outer s H E) (defBody st) (.m 0 :: (ds.map W.d ++ List.replicate (N.length - (n + 1)) .un)) [.lst (ss.map W.d)]
        { nx := fun _ o => ∃ ss', R ss ds .none ss' ∧ o[0]? = some (.lst (ss'.map W.d)), rt := fun w o => ∃ r ss', w = .d r ∧ R ss ds r ss' ∧ o[0]? = some (.lst (ss'.map W.d)) }) : DfMR P w K mg base (k + 1) x n pre R := by
  refine ⟨f, fd, ps, fng_of F S (fun vs H Q E h => ?_) (fun cdv A outer s H vs Q E hgd hr h => wpSs_nox ?_), hm, F.kp, hb⟩
  · obtain ⟨F, a, xs, ss, ds, us, rfl, _, _, _, _, h1, h2, _⟩ := h
    rw [List.length_cons, h1.length, h2, hn]
  · obtain ⟨Fz, a, xs, ss, ds, us, rfl, h0, hF, hH, hx, h1, h2, h3, h4⟩ := h
    have Rl : Rel K Fz H [a] [.lst (ss.map W.d)] := ⟨h0, by simp, rfl, fun k b mo e e2 => by
      match k, e, e2 with
      | 0, e, e2 =>
        simp at e e2
        subst e e2
        exact ⟨hF, xs, hH, RWs.ofRp hx⟩
      | k + 1, e, _ => simp at e⟩
    have hS : RS K Fz [a] (.m 0 :: (ds.map W.d ++ List.replicate (N.length - (n + 1)) .un)) (L2.start N (.ref a :: us)) := by
      unfold L2.start
      rw [List.length_cons, h1.length, h2]
      exact ⟨.inr ⟨_, rfl, a, rfl, rfl⟩, rs_start _ (RWs.ofRp h1)⟩
    have fin : ∀ {v F' H' as' om' r ss'}, R ss ds r ss' → Stp Fz H [a] F' H' as' → Rel K F' H' as' om' → om'[0]? = some (.lst (ss'.map W.d)) → Rp K F' v r → Q v H' := fun {v F' H' as' om' r ss'} hr p R' e rv => by
      have ha' : as'[0]? = some a := pre_get p.pre rfl
      obtain ⟨hF', xs', hH', hx'⟩ := R'.lst ha' e
      refine h4 r ss' hr v F' H' xs' p.exF R'.ex hF' hH' (RWs.toRp hx') (fun b o ne h => p.keep b o h (by simpa using ne)) (fun b o h => ?_) rv
      rcases p.newF b o h with z | z | z
      · exact .inl z
      · exact .inr z
      · rw [List.mem_singleton] at z
        subst z
        rw [hF'] at h; cases h
    refine body cdv A outer s H E ss ds hgd hr h2 h3 Fz H [a] _ _ Rl hS ⟨fun σ' F' H' as' rho' om' p R' S' e => ?_, fun v F' H' as' w om' p R' r' e => ?_, fun σ' F' H' as' rho' om' p R' S' e => e.elim, fun σ' F' H' as' rho' om' p R' S' e => e.elim⟩
    · obtain ⟨ss', hr, e2⟩ : ∃ ss', R ss ds .none ss' ∧ om'[0]? = some (.lst (ss'.map W.d)) := e
      exact fin hr p R' e2 .non
    · obtain ⟨r, ss', ew, hr, e2⟩ : ∃ r ss', w = .d r ∧ R ss ds r ss' ∧ om'[0]? = some (.lst (ss'.map W.d)) := e
      subst ew
      exact fin hr p R' e2 r'
end
end G

set_option Elab.async false
set_option linter.all false
set_option maxRecDepth 100000
set_option maxHeartbeats 2000000
namespace G
open PySem PySem.Spec PyProof.Rows L2
/-! ### a mutable list is frozen -/
def W.frz (k : Nat) (d : PyData) : W → W
  | .m j => if j = k then .d d else .m j
  | w => w
def MO.frz (k : Nat) (d : PyData) : MO → MO
  | .lst ws => .lst (ws.map (W.frz k d))
  | .dead => .dead
section
variable {K : PySem.W.Frag} {F F' H : Hp} {as : List Addr} {k : Nat} {d : PyData} {a : Addr}
theorem RW.frz (e : Ex F F') (ha : as[k]? = some a) (hr : Rp K F' (.ref a) d) {w : W} {v : V} (h : RW K F as w v) : RW K F' as (W.frz k d w) v := by
  cases w with
  | un => exact h
  | d x => exact Rp.mono e _ _ h
  | s ns => obtain ⟨a, h1, h2⟩ := h; exact ⟨a, h1, e.sqL h2⟩
  | m j =>
    show RW K F' as (if j = k then .d d else .m j) v
    by_cases hj : j = k
    · rw [if_pos hj]
      obtain ⟨b, h1, rfl⟩ := h
      rw [hj, ha] at h1
      cases h1
      exact hr
    · rw [if_neg hj]
      obtain ⟨b, h1, h2⟩ := h
      exact ⟨b, h1, h2⟩
theorem RWs.frz (e : Ex F F') (ha : as[k]? = some a) (hr : Rp K F' (.ref a) d) : ∀ {ws : List W} {vs : List V}, RWs K F as ws vs → RWs K F' as (ws.map (W.frz k d)) vs
  | [], [], _ => trivial
  | _ :: _, _ :: _, h => ⟨RW.frz e ha hr h.1, RWs.frz e ha hr h.2⟩
  | [], _ :: _, h => h.elim
  | _ :: _, [], h => h.elim
theorem RS.frz (e : Ex F F') (ha : as[k]? = some a) (hr : Rp K F' (.ref a) d) : ∀ {ws : List W} {os : L2.St}, RS K F as ws os → RS K F' as (ws.map (W.frz k d)) os
  | [], [], _ => trivial
  | w :: _, _ :: _, h => ⟨h.1.imp (fun z => by rw [z]; rfl) fun ⟨v, h1, h2⟩ => ⟨v, h1, RW.frz e ha hr h2⟩, RS.frz e ha hr h.2⟩
  | [], _ :: _, h => h.elim
  | _ :: _, [], h => h.elim
theorem Rel.frz {om : List MO} {ds : List PyData} (R : Rel K F H as om) (hk : om[k]? = some (.lst (ds.map W.d))) :
    ∃ F' a, as[k]? = some a ∧ Rp K F' (.ref a) (.list ds) ∧ Rel K F' H as ((om.map (MO.frz k (.list ds))).set k .dead) ∧ Stp F H as F' H as := by
  have hl : k < as.length := by rw [R.len]; exact (List.getElem?_eq_some_iff.mp hk).1
  have ha : as[k]? = some as[k] := List.getElem?_eq_getElem hl
  obtain ⟨hF, xs, hH, hx⟩ := R.lst ha hk
  have eF : Ex F (upd F as[k] (.lst xs)) := Ex.new hF
  have hr : Rp K (upd F as[k] (.lst xs)) (.ref as[k]) (.list ds) := Rp.lst upd_same (RpAll.mono eF _ _ (RWs.toRp hx))
  have hm : as[k] ∈ as := List.getElem_mem hl
  refine ⟨upd F as[k] (.lst xs), as[k], ha, hr, ⟨fun b u e => ?_, R.nd, by simp [R.len], fun j b mo h1 h2 => ?_⟩, eF, List.prefix_refl _, fun b u e _ => e, fun b u e => ?_, fun b h => .inl h⟩
  · by_cases z : b = as[k]
    · subst z; rw [upd_same] at e; cases e; exact hH
    · rw [upd_ne z] at e; exact R.ex b u e
  · by_cases hj : j = k
    · subst hj
      rw [ha] at h1
      cases h1
      rw [List.getElem?_set_self (by rw [List.length_map, ← R.len]; exact hl)] at h2
      cases h2
      exact ⟨_, hH⟩
    · rw [List.getElem?_set_ne (Ne.symm hj), List.getElem?_map] at h2
      have ne : b ≠ as[k] := fun z => by
        subst z
        obtain ⟨l1, q1⟩ := List.getElem?_eq_some_iff.mp h1
        exact hj ((List.getElem_inj R.nd).mp q1)
      cases ho : om[j]? with
      | none => rw [ho] at h2; cases h2
      | some mo0 =>
        rw [ho] at h2
        cases h2
        have M := R.obj j b mo0 h1 ho
        cases mo0 with
        | dead => exact M
        | lst ws =>
          obtain ⟨m1, ys, m2, m3⟩ := M
          exact ⟨by rw [upd_ne ne]; exact m1, ys, m2, RWs.frz eF ha hr m3⟩
  · by_cases z : b = as[k]
    · exact .inr (.inr (z ▸ hm))
    · rw [upd_ne z] at e; exact .inl e
end
section
variable {X : Cx} {rho rho1 : List W} {om om1 om2 om3 : List MO} {a b c e elt tg iter : Expr} {es : List Expr} {w w1 w2 : W} {ws : List W} {pos p : Pos} {st : Stmt} {rest : List Stmt} {P : Post}
theorem wp_frz (k : Nat) {ds : List PyData} (hk : om[k]? = some (.lst (ds.map W.d))) (h : Wp X rest (rho.map (W.frz k (.list ds))) ((om.map (MO.frz k (.list ds))).set k .dead) P) : Wp X rest rho om P := fun F H as σ D R S g => by
  obtain ⟨F', a, ha, hr, R', p⟩ := R.frz hk
  exact h F' H as σ D R' (RS.frz p.exF ha hr S) (g.step p)
/-! ### ranges -/
theorem rngW_get {lo : Int} {n i : Nat} {w : W} (h : (rngW lo n)[i]? = some w) : i < n ∧ w = .d (.int (lo + (i : Int))) := by
  unfold rngW at h
  rw [List.getElem?_map] at h
  cases q : (List.range n)[i]? with
  | none => rw [q] at h; cases h
  | some j =>
    rw [q] at h
    cases h
    obtain ⟨h1, h2⟩ := List.getElem?_eq_some_iff.mp q
    rw [List.getElem_range] at h2
    subst h2
    rw [List.length_range] at h1
    exact ⟨h1, rfl⟩
theorem rngW_length {lo : Int} {n : Nat} : (rngW lo n).length = n := by unfold rngW; rw [List.length_map, List.length_range]
theorem rngW_zero (n : Nat) : rngW 0 n = (List.range n).map fun (k : Nat) => W.d (.int (k : Int)) := by
  unfold rngW
  apply List.map_congr_left
  intro k _
  rw [Int.zero_add]
theorem it_rangeN {n : Nat} (hm : X.mg "range" = none) (ha : EvA X [a] rho om [.d (.int (n : Nat))] om1) (hn : n ≤ 1000000000) (hg : Gl X "range" := by rfl) (hs : starEach [a] X.env = [(false, eval a X.env)] := by rfl) :
    ItS X tg (.Call (.Name "range" p) [a] [] pos) rho om (rngW 0 n) om1 := by
  have := it_range1 (tg := tg) (pos := pos) (p := p) hm ha (by omega) hg hs
  rwa [Int.toNat_natCast] at this
theorem ev_lenM {α : Type} {xs : List α} {enc : α → PyData} (hm : X.mg "len" = none) (ha : EvA X [e] rho om [.d (.list (xs.map enc))] om1) (hg : Gl X "len" := by rfl) (he : starEach [e] X.env = (false, eval e X.env) :: starEach [] X.env := by rfl) (hpl : (backTo pos (starEach [] X.env)).any (·.1) = false := by rfl) :
    EvS X (.Call (.Name "len" p) [e] [] pos) rho om (.d (.int xs.length)) om1 := by
  have := ev_lenD (p := p) (pos := pos) hm ha hg he hpl
  rwa [List.length_map] at this
/-- [f(k) for k in range(n) if p(k)] -/
theorem lcd_rngF {scope : Scope} {own : List (Str × Nat)} {n : Nat} (pf : Nat → Bool) (f : Nat → PyData) (hc : X.calm = true) (hN : X.N.Nodup) (hi : ItS X tg iter rho om (rngW 0 n) om1) (ok : BlkOk X.N X.env.scope scope own) (hz : n ≤ sizeLine)
    (ht : ∀ k, k < n → ∃ r1,
      (∀ (s : Shared) (H : Hp) (C : Addr) (cl : List (Str × Addr)) (fp : List Addr), TgC (X.blk s H scope (compEnvC scope cl C X.env) fp) (own.map (·.2)) tg (.d (.int (k : Int))) (wipeW rho (own.map (·.2))) r1) ∧
      (∀ (s : Shared) (H : Hp) (C : Addr) (cl : List (Str × Addr)) (fp : List Addr), EvT (X.blk s H scope (compEnvC scope cl C X.env) fp) c r1 om1 (pf k) om1) ∧
      (pf k = true → ∀ (s : Shared) (H : Hp) (C : Addr) (cl : List (Str × Addr)) (fp : List Addr), EvS (X.blk s H scope (compEnvC scope cl C X.env) fp) elt r1 om1 (.d (f k)) om1))
    (hs : ∀ x, foldedSetIterable iter X.env x = pure x := by intro _; rfl) : LcD X elt tg iter [c] scope own rho om ((((List.range n).filter pf).map f).map W.d) om1 := by
  have h := lcd_filter (elt := elt) (c := c) (scope := scope) (own := own) (tg := tg) (fun w => match w with | .d (.int i) => pf i.toNat | _ => false) (fun w => match w with | .d (.int i) => f i.toNat | _ => .none) hc hN hi ok (by rw [rngW_length]; exact hz) (fun w hw => by
    rw [rngW_zero] at hw
    obtain ⟨k, hk, rfl⟩ := List.mem_map.mp hw
    rw [List.mem_range] at hk
    exact ht k hk) hs
  rw [rngW_zero, List.filter_map, List.map_map, List.map_map] at h
  rw [List.map_map]
  exact h
/-- [f(k) for k in range(n)] -/
theorem lcd_rng {scope : Scope} {own : List (Str × Nat)} {n : Nat} (f : Nat → PyData) (hc : X.calm = true) (hN : X.N.Nodup) (hi : ItS X tg iter rho om (rngW 0 n) om1) (ok : BlkOk X.N X.env.scope scope own) (hz : n ≤ sizeLine)
    (ht : ∀ k, k < n → ∃ r1,
      (∀ (s : Shared) (H : Hp) (C : Addr) (cl : List (Str × Addr)) (fp : List Addr), TgC (X.blk s H scope (compEnvC scope cl C X.env) fp) (own.map (·.2)) tg (.d (.int (k : Int))) (wipeW rho (own.map (·.2))) r1) ∧
      (∀ (s : Shared) (H : Hp) (C : Addr) (cl : List (Str × Addr)) (fp : List Addr), EvS (X.blk s H scope (compEnvC scope cl C X.env) fp) elt r1 om1 (.d (f k)) om1))
    (hs : ∀ x, foldedSetIterable iter X.env x = pure x := by intro _; rfl) : LcD X elt tg iter [] scope own rho om (((List.range n).map f).map W.d) om1 :=
  lcd_map hc hN hi ok (by rw [rngW_length]; simp) (by rw [rngW_length]; exact hz) (fun i w r hw hr => by
    obtain ⟨h1, h2⟩ := rngW_get hw
    rw [Int.zero_add] at h2
    subst h2
    rw [List.getElem?_map, List.getElem?_range h1] at hr
    cases hr
    exact ht i h1) hs
/-- [f(x) for x in xs], xs data -/
theorem lcd_dat {scope : Scope} {own : List (Str × Nat)} {α : Type} {xs : List α} (enc : α → PyData) (f : α → PyData) (hc : X.calm = true) (hN : X.N.Nodup) (hi : ItS X tg iter rho om ((xs.map enc).map W.d) om1) (ok : BlkOk X.N X.env.scope scope own) (hz : xs.length ≤ sizeLine)
    (ht : ∀ x ∈ xs, ∃ r1,
      (∀ (s : Shared) (H : Hp) (C : Addr) (cl : List (Str × Addr)) (fp : List Addr), TgC (X.blk s H scope (compEnvC scope cl C X.env) fp) (own.map (·.2)) tg (.d (enc x)) (wipeW rho (own.map (·.2))) r1) ∧
      (∀ (s : Shared) (H : Hp) (C : Addr) (cl : List (Str × Addr)) (fp : List Addr), EvS (X.blk s H scope (compEnvC scope cl C X.env) fp) elt r1 om1 (.d (f x)) om1))
    (hs : ∀ x, foldedSetIterable iter X.env x = pure x := by intro _; rfl) : LcD X elt tg iter [] scope own rho om ((xs.map f).map W.d) om1 :=
  lcd_map hc hN hi ok (by simp) (by simpa using hz) (fun i w r hw hr => by
    rw [List.map_map, List.getElem?_map] at hw
    rw [List.getElem?_map] at hr
    cases hx : xs[i]? with
    | none => rw [hx] at hw; cases hw
    | some x =>
      rw [hx] at hw hr
      cases hw
      cases hr
      exact ht x (List.mem_of_getElem? hx)) hs
/-- for over data, by an invariant of the turn -/
theorem wp1_forD {α : Type} {xs : List α} {body : List Stmt} (enc : α → PyData) (I : Nat → List W → List MO → Prop) (hp : PassesOwn (model X.prog X.w) X.A X.env X.xe) (hcl : X.calm = true) (hi : ItS X tg iter rho om ((xs.map enc).map W.d) om1) (h0 : I 0 rho om1)
    (hs : ∀ i x r o, xs[i]? = some x → I i r o → ∃ r1, TgS X tg (.d (enc x)) r r1 ∧ Wp X body r1 o { P with nx := I (i + 1), ct := I (i + 1), bk := P.nx }) (hd : ∀ r o, I xs.length r o → P.nx r o)
    (hf : ∀ x, foldedSetIterable iter X.env x = pure x := by intro _; rfl) : Wp1 X (.For tg iter body [] pos) rho om P :=
  wp1_for hp hcl hi I h0 (fun i w r o hw hI => by
    rw [List.map_map, List.getElem?_map] at hw
    cases hx : xs[i]? with
    | none => rw [hx] at hw; cases hw
    | some x =>
      rw [hx] at hw
      cases hw
      exact hs i x r o hx hI) (fun r o hI => by
    rw [List.length_map, List.length_map] at hI
    exact hd r o hI) hf
/-- for over range(n) -/
theorem wp1_forR {n : Nat} {lo : Int} {body : List Stmt} (I : Nat → List W → List MO → Prop) (hp : PassesOwn (model X.prog X.w) X.A X.env X.xe) (hcl : X.calm = true) (hi : ItS X tg iter rho om (rngW lo n) om1) (h0 : I 0 rho om1)
    (hs : ∀ i r o, i < n → I i r o → ∃ r1, TgS X tg (.d (.int (lo + (i : Int)))) r r1 ∧ Wp X body r1 o { P with nx := I (i + 1), ct := I (i + 1), bk := P.nx }) (hd : ∀ r o, I n r o → P.nx r o)
    (hf : ∀ x, foldedSetIterable iter X.env x = pure x := by intro _; rfl) : Wp1 X (.For tg iter body [] pos) rho om P :=
  wp1_for hp hcl hi I h0 (fun i w r o hw hI => by
    obtain ⟨h1, rfl⟩ := rngW_get hw
    exact hs i r o h1 hI) (fun r o hI => by
    rw [rngW_length] at hI
    exact hd r o hI) hf
end
end G

set_option Elab.async false
set_option linter.all false
set_option maxRecDepth 100000
set_option maxHeartbeats 2000000
/-! a tuple of words taken apart at once: a, b = x, y where the names are cells -/
namespace G
open PySem PySem.Spec PyProof.Rows L2
section
variable {X : Cx} {rho rho1 rho2 : List W} {om om1 om2 : List MO} {es : List Expr} {w : W} {ws : List W} {pos : Pos} {P : Post}
def TgWs (X : Cx) (tgs : List Expr) (ws : List W) (rho rho' : List W) : Prop :=
  ∃ t, PGs X tgs t ∧ ∀ F H as om σ vs (Q : L2.St → Hp → Prop), Rel X.K F H as om → RS X.K F as rho σ → RWs X.K F as ws vs → (∀ σ', RS X.K F as rho' σ' → Q σ' H) → t vs σ H Q
theorem tgw_nil : TgWs X [] [] rho rho := ⟨_, pgs_nil, fun F H as om σ vs Q R S r k => by
  match vs, r with
  | [], _ => exact ⟨rfl, k _ S⟩⟩
theorem tgw_cons {tg : Expr} {tgs : List Expr} (h : TgS X tg w rho rho1) (h2 : TgWs X tgs ws rho1 rho2)
    (hs : (assignEach (tg :: tgs) X.env).map (·.2) = assign tg X.env :: (assignEach tgs X.env).map (·.2) := by rfl) : TgWs X (tg :: tgs) (w :: ws) rho rho2 := by
  obtain ⟨t, p, q⟩ := h2
  exact ⟨_, pgs_cons pg_wp p hs, fun F H as om σ vs Q R S r k => by
    obtain ⟨v, us, rfl, r1, r2⟩ := rws_split r
    exact ⟨_, _, rfl, h F H as om σ _ _ R S r1 fun σ1 S1 => q F H as om σ1 _ _ R S1 r2 k⟩⟩
theorem wp1_asgT {tgs : List Expr} {k1 k2 : Nat} {p1 p2 : Pos} (hc : X.calm = true) (ha : EvA X es rho om ws om1) (ht : TgWs X tgs ws rho rho1) (k : P.nx rho1 om1) (hz : ws.length ≤ sizeLine := by simp [sizeLine_eq])
    (hl : (assignEach tgs X.env).length = ws.length := by rfl) (hst : (assignEach tgs X.env).findIdx? (·.1) = none := by rfl)
    (hs : swapsWithSole [.Tuple tgs k1 p1] (.Tuple es k2 p2) pos.line X.env = pure false := by rfl) (hw : swappedStores [.Tuple tgs k1 p1] (.Tuple es k2 p2) X.env = pure none := by rfl)
    (h1 : (assignEach [.Tuple tgs k1 p1] X.env).map (·.2) = [assign (.Tuple tgs k1 p1) X.env] := by rfl) : Wp1 X (.Assign [.Tuple tgs k1 p1] (.Tuple es k2 p2) pos) rho om P := by
  obtain ⟨t, pt, q⟩ := ht
  exact fun F H as σ D R S g => wpS_of (ps_asg pe_wp pg_wp hs hw h1) (wpE_of (pe_tup pa_wp) (ha F H as σ _ R S fun xs F1 H1 as1 p1 R1 r1 => by
    refine ⟨by rw [← RWs.length r1]; exact hz, fun T hT => ?_⟩
    obtain ⟨R2, p2⟩ := R1.newF (o := .tup xs) hT
    refine wpG_of (pg_tup hc pt rfl hst) ⟨T, xs, rfl, SqT.of upd_same, by rw [← RWs.length r1, hl], q _ _ _ om1 _ _ _ R2 (S.step (p1.trans p2)) (r1.step p2) fun σ' S' => g.nx σ' _ _ _ rho1 om1 (p1.trans p2) R2 S' k⟩))
theorem it_rangeK {tg a b : Expr} {p : Pos} {lo hi : Int} (n : Nat) (hm : X.mg "range" = none) (ha : EvA X [a, b] rho om [.d (.int lo), .d (.int hi)] om1) (e : hi = lo + (n : Int)) (hn : n ≤ 1000000000 ∧ -1000000000 ≤ lo ∧ lo ≤ 1000000000) (hg : Gl X "range" := by rfl)
    (hs : starEach [a, b] X.env = [(false, eval a X.env), (false, eval b X.env)] := by rfl) (hs2 : starEach [b] X.env = [(false, eval b X.env)] := by rfl) :
    ItS X tg (.Call (.Name "range" p) [a, b] [] pos) rho om (rngW lo n) om1 := by
  have h := it_range2 (tg := tg) (p := p) (pos := pos) hm ha (by omega) hg hs hs2
  rw [show (hi - lo).toNat = n by omega] at h
  exact h
end
end G

set_option Elab.async false
set_option linter.all false
set_option maxRecDepth 100000
set_option maxHeartbeats 2000000
namespace G
open PySem PySem.Spec PyProof.Rows L2
section
variable {X : Cx} {rho : List W} {om : List MO} {e : Expr} {pos : Pos} {P : Post}
/-- o[i] = e where e is only known by a word -/
theorem wp1_setixP {o i : Expr} {ps : Pos} (he : EvP X e rho om fun w om1 => ∃ om2 om3 k n j ws, EvS X o rho om1 (.m k) om2 ∧ EvS X i rho om2 (.d (.int j)) om3 ∧ om3[k]? = some (.lst ws) ∧ ixN ws.length j = some n ∧ P.nx rho (om3.set k (.lst (ws.set n w))))
    (ha : ∀ v, assign (.Subscript o i ps) X.env v = (do let ov ← holding [v] (eval o X.env); let iv ← holding [v, ov] (eval i X.env); standAt ps; holding [v, ov, iv] (setItem ov iv v); release [v, ov, iv] []) := by intro _; rfl)
    (hs : swapsWithSole [.Subscript o i ps] e pos.line X.env = pure false := by rfl) (hw : swappedStores [.Subscript o i ps] e X.env = pure none := by rfl)
    (h1 : (assignEach [.Subscript o i ps] X.env).map (·.2) = [assign (.Subscript o i ps) X.env] := by rfl) : Wp1 X (.Assign [.Subscript o i ps] e pos) rho om P := fun F H as σ D R S g =>
  wpS_of (ps_asg pe_wp (pg_sub pe_wp pe_wp set_list ha) hs hw h1) (he F H as σ _ R S fun w om1 hk v F1 H1 as1 p1 R1 r1 => by
    obtain ⟨om2, om3, k, n, j, ws, ho, hi, hk, hn, q⟩ := hk
    exact ho F1 H1 as1 σ _ R1 (S.step p1) fun y F2 H2 as2 p2 R2 r2 => hi F2 H2 as2 σ _ R2 (S.step (p1.trans p2)) fun z F3 H3 as3 p3 R3 r3 => by
      have r3 : Rp X.K F3 z (.int j) := r3
      cases r3
      obtain ⟨a, ha, rfl⟩ := r2.step p3
      obtain ⟨hF, xs, hx, hr⟩ := R3.lst ha hk
      obtain ⟨R4, p4⟩ := R3.write ha hF (RWs.set (r1.step (p2.trans p3)) n hr)
      exact ⟨a, xs, j, n, rfl, rfl, hx, by rw [← RWs.length hr]; exact hn, g.nx σ F3 _ as3 rho _ (((p1.trans p2).trans p3).trans p4) R4 (S.step (((p1.trans p2).trans p3).trans p4)) q⟩)
end
end G

set_option Elab.async false
set_option linter.all false
set_option maxRecDepth 100000
set_option maxHeartbeats 2000000
/-! the law's call where it is known that no repr runs around it -/
namespace G
open PySem PySem.Spec PyProof.Rows L2
def spL (K : PySem.W.Frag) : Sp := fun vs H Q _ => ∃ (a : Addr) (ns : List Int), vs = [.ref a] ∧ SqL K H a (ns.map V.int) ∧ ∀ H', Q (.bl true) H'
section
variable {P : Program} {w : World} {K : PySem.W.Frag} {mg mb : Str → Option Value} {k : Nat} {fa a : Addr} {fd : FuncData} {x : Str} {t : Shared} {vs : List Value} {ns : List Int}
def Told (t : Shared) : Except Value Flow → Shared → Prop := fun r u => r = .ok (.ret (.bool true)) ∧ OldK t.heap u.heap ∧ u.os = t.os ∧ AllBare u.gens
theorem told_from (hKt : K.In t.heap) (hm : t.heap.Ns mainGlobals mg) (hB : t.heap.Ns builtinsNs mb) (hbb : ∀ y : Str, y ≠ "__name__" → mb y = bootBuiltins y) (hlim : t.heap.NoLimit) (hgen : t.gens = #[]) (hobj : t.heap.get? a = some { cls := .type "list", data := .seq vs.toArray }) (room : Room k callerA)
    (hF : ∀ base : Heap, K.In base → base.Ns mainGlobals mg → FnG P w K mg base CX0 k fa fd [x] (spL K)) (hbd : ∀ (s : Shared) (u : Value), BindsTo s fd ⟨[u], []⟩ [(x, u)])
    (H : Hp) (only : Only H) (hs : SqL K H a (ns.map V.int)) (ok : HOk P w H t.heap) (one : ∀ b, H b ≠ none → b = a) (out : H a ≠ none → K.lookup a = none) : codeAny (model P w) callerA (.call (.ref fa) ⟨[.ref a], []⟩) (Told t) t := by
  have free : ∀ {b : Addr} {o : Obj} {es : Array DictEntry} {ep : Nat}, t.heap.get? b = some o → o.data = .dict es ep → H b = none := by
    intro b o es ep hb hd
    by_cases hn : H b = none
    · exact hn
    · have := one b hn
      subst this
      rw [hobj] at hb
      cases hb
      have hd' : Data.seq vs.toArray _ = Data.dict es ep := hd
      cases hd'
  have tr : ∀ {b : Addr} {m : Str → Option Value}, t.heap.Ns b m → (hidT t.heap H).Ns b m := by
    intro b m hN
    obtain ⟨o, es, ep, g1, g2, g3⟩ := hN
    exact ⟨o, es, ep, hidT_get g1 (free g1 g2), g2, g3⟩
  have inb : K.In (hidT t.heap H) := by
    intro b o hb
    by_cases hn : H b = none
    · exact hidT_get (hKt b o hb) hn
    · have := one b hn
      subst this
      rw [out hn] at hb
      cases hb
  obtain ⟨mc, lim1, lim2⟩ := hlim
  have module : Mod K mg (hidT t.heap H) := ⟨inb, tr hm, ⟨mb, tr hB, hbb⟩, ⟨mc, tr lim1, lim2⟩⟩
  have nomem : ∀ {b : Addr} {α : Prop}, b ∈ ([] : List Addr) → α := fun h => by simp at h
  have start : Env0 P w K mg (hidT t.heap H) callerA [] t H := ⟨rfl, module, fun b o e => of_hidT e, Nat.le_of_eq (hidT_size _ _), trivial, fun b hb => nomem hb, ok, .of_eq hgen⟩
  refine codeAny_mono ((hF _ inb (tr hm)).run callerA [] t H ⟨[.ref a], []⟩ [.ref a] [.ref a] (fun v _ => v = .bl true) (fun _ _ _ => False) rfl room start (hbd t (.ref a)) (.cons rfl .nil) ⟨a, ns, rfl, hs, fun _ => rfl⟩) ?_
  intro r u h
  match r, h with
  | .error e, h => exact False.elim h
  | .ok .next, h => exact False.elim h
  | .ok .brk, h => exact False.elim h
  | .ok .cont, h => exact False.elim h
  | .ok (.ret z), h =>
    obtain ⟨v, H2, hos, bare, un, ok2, rel, q⟩ := h
    have q : v = .bl true := q
    subst q
    have rel : z = Value.bool true := rel
    subst rel
    refine ⟨rfl, OldK.of_keep ?_, hos, bare⟩
    intro b o hb
    rcases only b with hn | ⟨ob, xs, hn⟩
    · exact un.keep b o hb hn (fun z => nomem z) (by simp)
    · obtain ⟨e1, _⟩ := ok b _ hn
      obtain ⟨e2, _⟩ := ok2 b _ (un.frzs b ob _ hn)
      rw [hb] at e1
      cases e1
      exact e2
theorem law_told (hKt : K.In t.heap) (hm : t.heap.Ns mainGlobals mg) (hB : t.heap.Ns builtinsNs mb) (hbb : ∀ y : Str, y ≠ "__name__" → mb y = bootBuiltins y) (hlim : t.heap.NoLimit) (hgen : t.gens = #[]) (hobj : t.heap.get? a = some { cls := .type "list", data := .seq vs.toArray }) (hi : IntsAre vs ns) (hl : ns.length ≤ sizeLine) (room : Room k callerA)
    (hF : ∀ base : Heap, K.In base → base.Ns mainGlobals mg → FnG P w K mg base CX0 k fa fd [x] (spL K)) (hbd : ∀ (s : Shared) (u : Value), BindsTo s fd ⟨[u], []⟩ [(x, u)]) : codeAny (model P w) callerA (.call (.ref fa) ⟨[.ref a], []⟩) (Told t) t := by
  have go := told_from (ns := ns) hKt hm hB hbb hlim hgen hobj room hF hbd
  have hv := vals_ints hi
  have hlen := hi.length
  by_cases hk : K.lookup a = none
  · let H0 : Hp := fun b => if b = a then some (.frz { cls := .type "list", data := .seq vs.toArray } (.lst (ns.map V.int))) else none
    have at_a : H0 a = some (.frz { cls := .type "list", data := .seq vs.toArray } (.lst (ns.map V.int))) := if_pos rfl
    have off : ∀ b, b ≠ a → H0 b = none := fun b h => if_neg h
    refine go H0 (fun b => ?_) (.inl (.inr ⟨_, at_a⟩)) (fun b u h => ?_) (fun b h => ?_) fun _ => hk
    · by_cases e : b = a
      · rw [e]; exact .inr ⟨_, _, at_a⟩
      · exact .inl (off b e)
    · by_cases e : b = a
      · rw [e, at_a] at h
        cases h
        rw [e]
        exact ⟨hobj, by rw [List.length_map]; exact hl, vs, _, hv, hobj⟩
      · rw [off b e] at h
        cases h
    · by_cases e : b = a
      · exact e
      · exact absurd (off b e) h
  · obtain ⟨o, ho⟩ : ∃ o, K.lookup a = some o := by
      cases e : K.lookup a with
      | none => exact absurd e hk
      | some o => exact ⟨o, rfl⟩
    have e := hKt a o ho
    rw [hobj] at e
    cases e
    have no : ∀ b : Addr, (fun _ => none : Hp) b = none := fun _ => rfl
    refine go (fun _ => none) (fun b => .inl rfl) (.inr ⟨_, vs.toArray, _, ho, rfl, rfl, rfl, by rw [List.size_toArray, hlen]; exact hl, by simpa using hv⟩) (fun b u h => ?_) (fun b h => absurd (no b) h) fun h => absurd (no a) h
    have h' : (none : Option HO) = some u := h
    cases h'
end
theorem walk_told {l : PySem.W.OpenLaw} {n k : Nat} {q : Program} {loose : List Str} {XP : (Str → Option Value) → Heap → Prop} {YP : World → Heap → Prop} {d : DefRec} {K : Params → PySem.W.Frag} {x : Str}
    (hn : l.most = some n) (hn2 : n ≤ sizeLine) (hdf : d.params.defaults = []) (room : Room k callerA) (hY : ∀ (w : World) (h : Heap), YP w h → (K w.params).In h)
    (F : ∀ (w : World) (mg : Str → Option Value) (fa : Addr) (h : Heap), (K w.params).In h → h.Ns mainGlobals mg → mg d.name = some (.ref fa) →
      ∃ fd : FuncData, (∀ (s : Shared) (u : Value), BindsTo s fd ⟨[u], []⟩ [(x, u)]) ∧ ∀ base : Heap, (K w.params).In base → base.Ns mainGlobals mg → FnG l.prog w (K w.params) mg base CX0 k fa fd [x] (spL (K w.params))) :
    PySem.W.WalkO q loose XP YP l.row.toRowW d [] (fun f vs => PySem.call f vs) := by
  refine Att.attach_call hn hdf ?_
  intro w s0 s1 mg mb fa o pm cd doc a vs ns T Y ho hd hcd hmg hobj hints hlen hgen
  obtain ⟨fd, hbd, hF⟩ := F w mg fa _ (hY w _ Y) T.T.g hmg
  exact law_told (hY w _ Y) T.T.g T.T.b T.T.builtins T.T.nolimit hgen hobj hints (Nat.le_trans hlen hn2) room hF hbd
end G

set_option Elab.async false
set_option maxRecDepth 100000
set_option maxHeartbeats 1000000
/-! numbers as Rat: no program here -/
namespace M
open PySem

def encQ (q : Rat) : PyData := .tuple [.int q.num, .int q.den]
theorem encQ_inj {a b : Rat} (h : encQ a = encQ b) : a = b := by
  unfold encQ at h
  injection h with h
  injection h with h1 h
  injection h with h2 h
  injection h1 with h1
  injection h2 with h2
  exact Rat.ext h1 (by omega)
theorem den_pos (q : Rat) : (0 : Int) < q.den := by have := q.den_nz; omega
/-- small enough for any operation here -/
def Sm (q : Rat) : Prop := q.num.natAbs < 2 ^ 4000 ∧ q.den < 2 ^ 4000
/-- a multiple of 1 / L, at most M -/
def Bd (L M : Nat) (q : Rat) : Prop := 0 < L ∧ ∃ n : Int, q = mkRat n L ∧ n.natAbs ≤ M * L

theorem norm_num {n d : Int} (h : d ≠ 0) : let s := if d < 0 then -n else n; let t := if d < 0 then -d else d
    (Rat.divInt n d).num = s / ((Nat.gcd s.natAbs t.natAbs : Nat) : Int) ∧ ((Rat.divInt n d).den : Int) = t / ((Nat.gcd s.natAbs t.natAbs : Nat) : Int) := by
  intro s t
  have e : Rat.divInt n d = Rat.divInt s t := by
    by_cases hd : d < 0
    · simp only [s, t, if_pos hd]
      exact (Rat.neg_divInt_neg n d).symm
    · simp only [s, t, if_neg hd]
  have tp : 0 < t := by
    simp only [t]
    split <;> omega
  obtain ⟨k, hk⟩ : ∃ k : Nat, t = k := ⟨t.toNat, by omega⟩
  have kp : k ≠ 0 := by omega
  rw [e, hk, Rat.divInt_ofNat, Rat.num_mkRat, Rat.den_mkRat, if_neg kp, if_neg kp]
  rw [Int.natAbs_natCast, Nat.gcd_comm s.natAbs k]
  refine ⟨rfl, ?_⟩
  exact Int.natCast_ediv _ _

theorem plus_eq (a b : Rat) : Rat.divInt (a.num * b.den + b.num * a.den) (a.den * b.den) = a + b := by
  rw [Rat.add_def', ← Rat.divInt_ofNat]
  rfl
theorem minus_eq (a b : Rat) : Rat.divInt (a.num * b.den - b.num * a.den) (a.den * b.den) = a - b := by
  rw [Rat.sub_def', ← Rat.divInt_ofNat]
  rfl
theorem times_eq (a b : Rat) : Rat.divInt (a.num * b.num) (a.den * b.den) = a * b := by
  rw [Rat.mul_def', ← Rat.divInt_ofNat]
  rfl
theorem divided_eq (a b : Rat) : Rat.divInt (a.num * b.den) (a.den * b.num) = a / b := by
  rw [Rat.div_def, Rat.inv_def, ← Rat.divInt_mul_divInt, Rat.num_divInt_den]

theorem Bd.mono {L M L' M' : Nat} {q : Rat} (h : Bd L M q) (hL : L ∣ L') (h0 : 0 < L') (hM : M ≤ M') : Bd L' M' q := by
  obtain ⟨hp, n, rfl, hn⟩ := h
  obtain ⟨c, rfl⟩ := hL
  have hc : c ≠ 0 := by
    intro e
    subst e
    simp at h0
  refine ⟨h0, n * c, ?_, ?_⟩
  · rw [Rat.mkRat_mul_right hc]
  · rw [Int.natAbs_mul, Int.natAbs_natCast]
    calc n.natAbs * c ≤ M * L * c := Nat.mul_le_mul_right c hn
      _ = M * (L * c) := Nat.mul_assoc ..
      _ ≤ M' * (L * c) := Nat.mul_le_mul_right _ hM
theorem mkRat_add (m n : Int) {L : Nat} (h : 0 < L) : mkRat m L + mkRat n L = mkRat (m + n) L := by
  rw [Rat.mkRat_add_mkRat _ _ (by omega) (by omega), ← Int.add_mul, Rat.mkRat_mul_right (by omega)]
theorem mkRat_neg (m : Int) (L : Nat) : -mkRat m L = mkRat (-m) L := Rat.neg_mkRat m L
theorem Bd.add {L M M' : Nat} {a b : Rat} (ha : Bd L M a) (hb : Bd L M' b) : Bd L (M + M') (a + b) := by
  obtain ⟨hp, m, rfl, hm⟩ := ha
  obtain ⟨_, n, rfl, hn⟩ := hb
  refine ⟨hp, m + n, mkRat_add m n hp, ?_⟩
  rw [Nat.add_mul]
  omega
theorem Bd.neg {L M : Nat} {a : Rat} (ha : Bd L M a) : Bd L M (-a) := by
  obtain ⟨hp, m, rfl, hm⟩ := ha
  exact ⟨hp, -m, mkRat_neg m L, by rw [Int.natAbs_neg]; exact hm⟩
theorem Bd.sub {L M M' : Nat} {a b : Rat} (ha : Bd L M a) (hb : Bd L M' b) : Bd L (M + M') (a - b) := by
  rw [Rat.sub_eq_add_neg]
  exact ha.add hb.neg
theorem Bd.mul {L M L' M' : Nat} {a b : Rat} (ha : Bd L M a) (hb : Bd L' M' b) : Bd (L * L') (M * M') (a * b) := by
  obtain ⟨hp, m, rfl, hm⟩ := ha
  obtain ⟨hp', n, rfl, hn⟩ := hb
  refine ⟨Nat.mul_pos hp hp', m * n, Rat.mkRat_mul_mkRat .., ?_⟩
  rw [Int.natAbs_mul, Nat.mul_mul_mul_comm]
  exact Nat.mul_le_mul hm hn
theorem Bd.zero {L M : Nat} (h : 0 < L) : Bd L M 0 := ⟨h, 0, by simp, by simp⟩
theorem mkRat_one (i : Int) : mkRat i 1 = (i : Rat) := Rat.ext (by rw [Rat.num_mkRat]; simp) (by rw [Rat.den_mkRat]; simp)
theorem Bd.int (i : Int) : Bd 1 i.natAbs (i : Rat) := ⟨by decide, i, (mkRat_one i).symm, by simp⟩
theorem Bd.self (q : Rat) : Bd q.den q.num.natAbs q := ⟨by have := q.den_nz; omega, q.num, (Rat.mkRat_self q).symm, Nat.le_mul_of_pos_right _ (by have := q.den_nz; omega)⟩
theorem Bd.num_le {L M : Nat} {q : Rat} (h : Bd L M q) : q.num.natAbs ≤ M * L ∧ q.den ≤ L := by
  obtain ⟨hp, n, rfl, hn⟩ := h
  rw [Rat.num_mkRat, Rat.den_mkRat, if_neg (by omega), if_neg (by omega)]
  refine ⟨Nat.le_trans ?_ hn, Nat.div_le_self _ _⟩
  rw [Int.natAbs_ediv_of_dvd]
  · rw [Int.natAbs_natCast]
    exact Nat.div_le_self _ _
  · exact Int.ofNat_dvd_left.mpr (Nat.gcd_dvd_right _ _)
theorem Bd.sm {L M : Nat} {q : Rat} (h : Bd L M q) (h1 : L < 2 ^ 4000) (h2 : M * L < 2 ^ 4000) : Sm q := by
  obtain ⟨a, b⟩ := h.num_le
  exact ⟨Nat.lt_of_le_of_lt a h2, Nat.lt_of_le_of_lt b h1⟩
/-- equality of the tuples -/
theorem eqv_Q (a b : Rat) : PyData.eqv (encQ a) (encQ b) = decide (a = b) := by
  have h : PyData.eqv (encQ a) (encQ b) = (decide (a.num = b.num) && decide ((a.den : Int) = b.den)) := by
    unfold encQ
    simp [PyData.eqv, PyData.eqvAll, Bool.beq_eq_decide_eq]
  rw [h, ← Bool.decide_and]
  apply decide_eq_decide.mpr
  constructor
  · intro ⟨h1, h2⟩
    exact Rat.ext h1 (by omega)
  · intro e
    subst e
    exact ⟨rfl, rfl⟩
theorem shaped_Q (a : Rat) : SeqAt.shaped (encQ a) = true := by
  unfold encQ SeqAt.shaped
  simp [PyData.canLay0, PyData.canLayAll0, PyData.depth, PyData.depthAll]
end M

set_option Elab.async false
set_option maxRecDepth 100000
set_option maxHeartbeats 1000000
/-! markets, masses, rows: no program here -/
namespace M
open PySem
theorem zw_map {α β γ : Type} (f : α → β → γ) : ∀ (xs : List α) (ys : List β), List.zipWith f xs ys = (xs.zip ys).map fun p => f p.1 p.2
  | [], _ => by simp
  | _ :: _, [] => by simp
  | x :: xs, y :: ys => by simp [zw_map f xs ys]
structure Node where
  parent : Int
  growth : Rat
  rules : List Str
  prices : List Rat
  payouts : List Rat
  values : List Rat
deriving Inhabited
structure Mkt where
  assets : List Str
  seen : List Str
  nodes : List Node
def encL (qs : List Rat) : PyData := .list (qs.map encQ)
def encS (xs : List Str) : PyData := .list (xs.map PyData.str)
def encN (n : Node) : PyData := .tuple [.int n.parent, encQ n.growth, encS n.rules, encL n.prices, encL n.payouts, encL n.values]
def encM (m : Mkt) : PyData := .tuple [encS m.assets, encS m.seen, .list (m.nodes.map encN)]
def Mkt.at (m : Mkt) (v : Nat) : Node := m.nodes.getD v default
def Mkt.n (m : Mkt) : Nat := m.nodes.length
def kids (m : Mkt) (v : Nat) : List Nat := (List.range m.n).filter fun i => decide ((m.at i).parent = (v : Int))
def inner (m : Mkt) : List Nat := (List.range m.n).filter fun i => decide ((i : Int) ∈ m.nodes.map (·.parent))
def gain (g old now paid : Rat) : Rat := now + paid - g * old
def gainsIn (m : Mkt) (v c : Nat) : List Rat := List.zipWith (fun old np => gain (m.at v).growth old np.1 np.2) (m.at v).prices ((m.at c).prices.zip (m.at c).payouts)
def cmpQ (a b : Rat) : Int := if a < b then -1 else if b < a then 1 else 0
def sumQ : List Rat → Rat
  | [] => 0
  | q :: qs => q + sumQ qs
def dotQ (a b : List Rat) : Rat := sumQ (List.zipWith (· * ·) a b)
theorem sumQ_append (a b : List Rat) : sumQ (a ++ b) = sumQ a + sumQ b := by
  induction a with
  | nil => simp [sumQ, Rat.zero_add]
  | cons x a ih => simp [sumQ, ih, Rat.add_assoc]
/-- so many of them, each a multiple of 1 / L and at most M: their sums are small -/
def Bds (L M : Nat) (qs : List Rat) : Prop := ∀ q ∈ qs, Bd L M q
theorem Bds.sum {L M : Nat} (h0 : 0 < L) : ∀ {qs : List Rat}, Bds L M qs → Bd L (qs.length * M) (sumQ qs)
  | [], _ => Bd.zero h0
  | q :: qs, h => by
    have h1 := (h q (by simp)).add (Bds.sum h0 (qs := qs) fun z hz => h z (by simp [hz]))
    refine h1.mono (Nat.dvd_refl _) h0 ?_
    rw [List.length_cons, Nat.succ_mul]
    omega
theorem Bds.take {L M : Nat} {qs : List Rat} (h : Bds L M qs) (i : Nat) : Bds L M (qs.take i) := fun q hq => h q (List.mem_of_mem_take hq)
theorem Bds.sm {L M n : Nat} {qs : List Rat} (h0 : 0 < L) (h : Bds L M qs) (h1 : L < 2 ^ 4000) (h2 : (n + 1) * M * L < 2 ^ 4000) (hn : qs.length ≤ n) : Sm (sumQ qs) := by
  refine (h.sum h0).sm h1 (Nat.lt_of_le_of_lt ?_ h2)
  exact Nat.mul_le_mul_right L (Nat.mul_le_mul_right M (by omega))
theorem Bds.sm1 {L M n : Nat} {qs : List Rat} (h : Bds L M qs) (h1 : L < 2 ^ 4000) (h2 : (n + 1) * M * L < 2 ^ 4000) {q : Rat} (hq : q ∈ qs) : Sm q := by
  refine (h q hq).sm h1 (Nat.lt_of_le_of_lt ?_ h2)
  exact Nat.mul_le_mul_right L (Nat.le_mul_of_pos_left M (by omega))
/-- the numbers of a market, of masses, of payments: each a multiple of 1 / L and at most B, both below 2 ^ 600 -/
structure Tin (L B : Nat) : Prop where
  l0 : 0 < L
  l : L < 2 ^ 600
  b : B < 2 ^ 600
/-- a market in order: a count of assets, parents ahead, all numbers tame -/
structure Wf (L B : Nat) (m : Mkt) : Prop where
  tin : Tin L B
  n1 : 1 ≤ m.n
  n60 : m.n ≤ 60
  a4 : m.assets.length ≤ 4
  par : ∀ v, v < m.n → (m.at v).parent < (v : Int)
  par0 : (m.at 0).parent = -1
  par1 : ∀ v, v < m.n → 0 < v → 0 ≤ (m.at v).parent
  rules : ∀ v, v < m.n → (m.at v).rules.length = m.assets.length
  prices : ∀ v, v < m.n → (m.at v).prices.length = m.assets.length
  payouts : ∀ v, v < m.n → (m.at v).payouts.length = m.assets.length
  bg : ∀ v, v < m.n → Bd L B (m.at v).growth
  bp : ∀ v, v < m.n → Bds L B (m.at v).prices
  by_ : ∀ v, v < m.n → Bds L B (m.at v).payouts
theorem pow_le {a b : Nat} (h : a ≤ b) : 2 ^ a ≤ 2 ^ b := Nat.pow_le_pow_right (by decide) h
theorem Tin.sm {L B : Nat} (t : Tin L B) {q : Rat} (h : Bd L B q) : Sm q := by
  refine h.sm (Nat.lt_of_lt_of_le t.l (pow_le (by decide))) ?_
  exact Nat.lt_of_lt_of_le (Nat.mul_lt_mul'' t.b t.l) (by rw [← Nat.pow_add]; exact pow_le (by decide))
theorem lt_mul {a b x y c : Nat} (h1 : a < 2 ^ x) (h2 : b < 2 ^ y) (h3 : x + y ≤ c) : a * b < 2 ^ c :=
  Nat.lt_of_lt_of_le (Nat.mul_lt_mul'' h1 h2) (by rw [← Nat.pow_add]; exact pow_le h3)
theorem lt_add {a b x c : Nat} (h1 : a < 2 ^ x) (h2 : b < 2 ^ x) (h3 : x + 1 ≤ c) : a + b < 2 ^ c := by
  have : 2 ^ (x + 1) ≤ 2 ^ c := pow_le h3
  rw [Nat.pow_succ] at this
  omega
theorem at_get {m : Mkt} {v : Nat} (h : v < m.n) : m.nodes[v]? = some (m.at v) := by
  unfold Mkt.at
  have h' : v < m.nodes.length := h
  rw [List.getD_eq_getElem?_getD, List.getElem?_eq_getElem h']
  rfl
theorem kids_lt {m : Mkt} {v c : Nat} (h : c ∈ kids m v) : c < m.n ∧ (m.at c).parent = (v : Int) := by
  unfold kids at h
  rw [List.mem_filter, List.mem_range] at h
  exact ⟨h.1, of_decide_eq_true h.2⟩
theorem inner_lt {m : Mkt} {v : Nat} (h : v ∈ inner m) : v < m.n := by
  unfold inner at h
  rw [List.mem_filter, List.mem_range] at h
  exact h.1
theorem kids_len (m : Mkt) (v : Nat) : (kids m v).length ≤ m.n := by
  unfold kids
  exact Nat.le_trans (List.length_filter_le _ _) (by simp)
theorem inner_len (m : Mkt) : (inner m).length ≤ m.n := by
  unfold inner
  exact Nat.le_trans (List.length_filter_le _ _) (by simp)
/-- the gains are tame, too -/
theorem gain_bd {L B : Nat} {g old now paid : Rat} (t : Tin L B) (hg : Bd L B g) (h1 : Bd L B old) (h2 : Bd L B now) (h3 : Bd L B paid) : Bd (L * L) (B + B + B * B) (gain g old now paid) := by
  unfold gain
  have hp := Nat.mul_pos t.l0 t.l0
  exact ((h2.add h3).mono (Nat.dvd_mul_left L L) hp (Nat.le_refl _)).sub (hg.mul h1)
theorem gainsIn_get {m : Mkt} {v c a : Nat} {g : Rat} (h : (gainsIn m v c)[a]? = some g) : ∃ old now paid, (m.at v).prices[a]? = some old ∧ (m.at c).prices[a]? = some now ∧ (m.at c).payouts[a]? = some paid ∧ g = gain (m.at v).growth old now paid := by
  unfold gainsIn at h
  rw [List.getElem?_zipWith] at h
  cases h1 : (m.at v).prices[a]? with
  | none => rw [h1] at h; simp at h
  | some old =>
    cases h2 : ((m.at c).prices.zip (m.at c).payouts)[a]? with
    | none => rw [h1, h2] at h; simp at h
    | some np =>
      obtain ⟨now, paid⟩ := np
      rw [h1, h2] at h
      cases h
      rw [List.getElem?_zip_eq_some] at h2
      exact ⟨old, now, paid, rfl, h2.1, h2.2, rfl⟩
theorem gainsIn_len {L B : Nat} {m : Mkt} (W : Wf L B m) {v c : Nat} (hv : v < m.n) (hc : c < m.n) : (gainsIn m v c).length = m.assets.length := by
  unfold gainsIn
  rw [List.length_zipWith, List.length_zip, W.prices v hv, W.prices c hc, W.payouts c hc]
  omega
theorem gainsIn_bd {L B : Nat} {m : Mkt} (W : Wf L B m) {v c : Nat} (hv : v < m.n) (hc : c < m.n) : Bds (L * L) (B + B + B * B) (gainsIn m v c) := fun q hq => by
  obtain ⟨a, ha⟩ := List.getElem?_of_mem hq
  obtain ⟨old, now, paid, h1, h2, h3, rfl⟩ := gainsIn_get ha
  exact gain_bd W.tin (W.bg v hv) (W.bp v hv _ (List.mem_of_getElem? h1)) (W.bp c hc _ (List.mem_of_getElem? h2)) (W.by_ c hc _ (List.mem_of_getElem? h3))
theorem gain_sz {L B : Nat} (t : Tin L B) : L * L < 2 ^ 1200 ∧ B + B + B * B < 2 ^ 1202 := by
  refine ⟨lt_mul t.l t.l (by decide), ?_⟩
  have h1 : B * B < 2 ^ 1200 := lt_mul t.b t.b (by decide)
  have h2 : B + B < 2 ^ 1200 := lt_add t.b t.b (by decide)
  exact lt_add (x := 1200) h2 h1 (by decide)
/-! ### rows of masses -/
def flowRow (m : Mkt) (v : Nat) : List Rat := (kids m v).foldl (fun r c => r.set c (m.at v).growth) ((List.replicate m.n (0 : Rat)).set v (-1))
def gainRow (m : Mkt) (v a : Nat) : List Rat := (kids m v).foldl (fun r c => r.set c ((gainsIn m v c).getD a 0)) (List.replicate m.n (0 : Rat))
def turned (row : List Rat) : List Rat := row.map fun q => (-1) * q
def signsOf (rule : Str) : List Int := if rule = "any" then [1, -1] else if rule = "long" then [1] else if rule = "short" then [-1] else []
abbrev Row := List PyData × List Rat
def signed (lab : List PyData) (row : List Rat) (signs : List Int) : List Row := signs.map fun s => (lab ++ [.int s], if s = 1 then row else turned row)
def labF (v : Nat) : List PyData := [.str "flow", .int v]
def labG (v a : Nat) : List PyData := [.str "gain", .int v, .int a]
def gainRows (m : Mkt) (v j : Nat) : List Row := (List.range j).flatMap fun a => signed (labG v a) (gainRow m v a) (signsOf ((m.at v).rules.getD a default))
def rowsAt (m : Mkt) (v : Nat) : List Row := signed (labF v) (flowRow m v) [1, -1] ++ gainRows m v (m.at v).rules.length
def rowsOf (m : Mkt) (vs : List Nat) : List Row := vs.flatMap (rowsAt m)
def massRows (m : Mkt) : List Row := rowsOf m (inner m)
def encR (r : Row) : PyData := .tuple [.tuple r.1, encL r.2]
def fulfQ (rows : List Row) (ms : List Rat) : Bool := rows.all fun r => !decide (0 < dotQ r.2 ms)
def isBalQ (m : Mkt) (bs : List Rat) : Bool := decide (bs.length = m.n ∧ bs.getD 0 1 = 0) && fulfQ (massRows m) bs
theorem foldl_set_len {f : Nat → Rat} : ∀ (ks : List Nat) (r : List Rat), (ks.foldl (fun r c => r.set c (f c)) r).length = r.length
  | [], _ => rfl
  | k :: ks, r => by rw [List.foldl_cons, foldl_set_len ks]; simp
theorem flowRow_len (m : Mkt) (v : Nat) : (flowRow m v).length = m.n := by unfold flowRow; rw [foldl_set_len]; simp
theorem gainRow_len (m : Mkt) (v a : Nat) : (gainRow m v a).length = m.n := by
  unfold gainRow
  rw [foldl_set_len (f := fun c => (gainsIn m v c).getD a 0)]; simp
theorem foldl_set_all {Pr : Rat → Prop} {f : Nat → Rat} : ∀ (ks : List Nat) (r : List Rat), (∀ k ∈ ks, Pr (f k)) → (∀ q ∈ r, Pr q) → ∀ q ∈ ks.foldl (fun r c => r.set c (f c)) r, Pr q
  | [], _, _, h => h
  | k :: ks, r, h1, h2 => by
    rw [List.foldl_cons]
    refine foldl_set_all ks _ (fun j hj => h1 j (by simp [hj])) fun q hq => ?_
    rcases List.mem_or_eq_of_mem_set hq with z | z
    · exact h2 q z
    · rw [z]; exact h1 k (by simp)
theorem signed_len (lab : List PyData) (row : List Rat) (signs : List Int) : (signed lab row signs).length = signs.length := by unfold signed; simp
theorem signsOf_len (r : Str) : (signsOf r).length ≤ 2 := by unfold signsOf; split <;> (try split) <;> (try split) <;> simp
theorem gainRows_len (m : Mkt) (v : Nat) : ∀ j, (gainRows m v j).length ≤ 2 * j
  | 0 => by simp [gainRows]
  | j + 1 => by
    have ih := gainRows_len m v j
    unfold gainRows at ih ⊢
    rw [List.range_succ, List.flatMap_append, List.length_append]
    have := signsOf_len ((m.at v).rules.getD j default)
    simp only [List.flatMap_cons, List.flatMap_nil, List.append_nil, signed_len]
    omega
theorem gainRows_succ (m : Mkt) (v j : Nat) : gainRows m v (j + 1) = gainRows m v j ++ signed (labG v j) (gainRow m v j) (signsOf ((m.at v).rules.getD j default)) := by
  unfold gainRows
  rw [List.range_succ, List.flatMap_append]
  simp
theorem rowsAt_len {L B : Nat} {m : Mkt} (W : Wf L B m) {v : Nat} (hv : v < m.n) : (rowsAt m v).length ≤ 10 := by
  unfold rowsAt
  have h1 := gainRows_len m v (m.at v).rules.length
  have h2 := W.rules v hv
  have h3 := W.a4
  rw [List.length_append, signed_len]
  simp only [List.length_cons, List.length_nil]
  omega
theorem rowsOf_len {L B : Nat} {m : Mkt} (W : Wf L B m) : ∀ vs : List Nat, (∀ v ∈ vs, v < m.n) → (rowsOf m vs).length ≤ 10 * vs.length
  | [], _ => by simp [rowsOf]
  | v :: vs, h => by
    have ih := rowsOf_len W vs fun u hu => h u (by simp [hu])
    have h1 := rowsAt_len W (h v (by simp))
    unfold rowsOf at ih ⊢
    rw [List.flatMap_cons, List.length_append, List.length_cons]
    omega
/-- what a row is like: as long as the market, its numbers tame -/
def RowOk (L B : Nat) (m : Mkt) (r : List Rat) : Prop := r.length = m.n ∧ Bds (L * L) (B + B + B * B + 1) r
theorem bd_one {L M : Nat} (h : 0 < L) (hM : 1 ≤ M) : Bd L M 1 := by
  have h1 : Bd 1 1 (1 : Rat) := Bd.int 1
  exact h1.mono (Nat.one_dvd _) h hM
theorem bd_mone {L M : Nat} (h : 0 < L) (hM : 1 ≤ M) : Bd L M (-1) := (bd_one h hM).neg
theorem flowRow_ok {L B : Nat} {m : Mkt} (W : Wf L B m) {v : Nat} (hv : v < m.n) : RowOk L B m (flowRow m v) := by
  have hp := Nat.mul_pos W.tin.l0 W.tin.l0
  refine ⟨flowRow_len m v, foldl_set_all _ _ (fun k _ => ?_) fun q hq => ?_⟩
  · exact (W.bg v hv).mono (Nat.dvd_mul_left L L) hp (by omega)
  · rcases List.mem_or_eq_of_mem_set hq with z | z
    · rw [(List.mem_replicate.mp z).2]; exact Bd.zero hp
    · rw [z]; exact bd_mone hp (by omega)
theorem getD_mem {xs : List Rat} {a : Nat} {Pr : Rat → Prop} (h0 : Pr 0) (h : ∀ q ∈ xs, Pr q) : Pr (xs.getD a 0) := by
  rw [List.getD_eq_getElem?_getD]
  cases e : xs[a]? with
  | none => exact h0
  | some q => exact h q (List.mem_of_getElem? e)
theorem gainRow_ok {L B : Nat} {m : Mkt} (W : Wf L B m) {v a : Nat} (hv : v < m.n) : RowOk L B m (gainRow m v a) := by
  have hp := Nat.mul_pos W.tin.l0 W.tin.l0
  refine ⟨gainRow_len m v a, foldl_set_all (f := fun c => (gainsIn m v c).getD a 0) _ _ (fun k hk => ?_) fun q hq => ?_⟩
  · exact (getD_mem (Pr := Bd (L * L) (B + B + B * B)) (Bd.zero hp) (gainsIn_bd W hv (kids_lt hk).1)).mono (Nat.dvd_refl _) hp (by omega)
  · rw [(List.mem_replicate.mp hq).2]; exact Bd.zero hp
theorem turned_ok {L B : Nat} {m : Mkt} {r : List Rat} (h : RowOk L B m r) : RowOk L B m (turned r) := by
  refine ⟨by unfold turned; rw [List.length_map]; exact h.1, fun q hq => ?_⟩
  unfold turned at hq
  obtain ⟨x, hx, rfl⟩ := List.mem_map.mp hq
  have := (h.2 x hx).neg
  rw [show (-1 : Rat) * x = -x by rw [Rat.neg_mul, Rat.one_mul]]
  exact this
theorem signed_ok {L B : Nat} {m : Mkt} {lab : List PyData} {row : List Rat} {signs : List Int} (h : RowOk L B m row) : ∀ r ∈ signed lab row signs, RowOk L B m r.2 := fun r hr => by
  unfold signed at hr
  obtain ⟨s, _, rfl⟩ := List.mem_map.mp hr
  show RowOk L B m (if s = 1 then row else turned row)
  split
  · exact h
  · exact turned_ok h
theorem massRows_ok {L B : Nat} {m : Mkt} (W : Wf L B m) : ∀ r ∈ massRows m, RowOk L B m r.2 := fun r hr => by
  unfold massRows rowsOf at hr
  obtain ⟨v, hv, h⟩ := List.mem_flatMap.mp hr
  have hv := inner_lt hv
  unfold rowsAt at h
  rcases List.mem_append.mp h with z | z
  · exact signed_ok (flowRow_ok W hv) r z
  · unfold gainRows at z
    obtain ⟨a, _, z⟩ := List.mem_flatMap.mp z
    exact signed_ok (gainRow_ok W hv) r z
/-- sums of products of a row and tame numbers -/
theorem row_dot {L B : Nat} {m : Mkt} {r ms : List Rat} (t : Tin L B) (h : RowOk L B m r) (hm : Bds L B ms) : Bds (L * L * L) ((B + B + B * B + 1) * B) (List.zipWith (· * ·) r ms) := fun q hq => by
  rw [zw_map] at hq
  obtain ⟨p, hp, rfl⟩ := List.mem_map.mp hq
  have := List.of_mem_zip hp
  exact (h.2 _ this.1).mul (hm _ this.2)
theorem row_sz {L B : Nat} (t : Tin L B) : L * L < 2 ^ 1200 ∧ B + B + B * B + 1 < 2 ^ 1203 ∧ L * L * L < 2 ^ 1800 ∧ (B + B + B * B + 1) * B < 2 ^ 1803 := by
  obtain ⟨h1, h2⟩ := gain_sz t
  have h3 : B + B + B * B + 1 < 2 ^ 1203 := lt_add (x := 1202) h2 (Nat.one_lt_two_pow (by decide)) (by decide)
  exact ⟨h1, h3, lt_mul h1 t.l (by decide), lt_mul h3 t.b (by decide)⟩
theorem row_sm {L B : Nat} {m : Mkt} {r : List Rat} (t : Tin L B) (h : RowOk L B m r) : ∀ q ∈ r, Sm q := fun q hq => by
  obtain ⟨h1, h3, _⟩ := row_sz t
  exact (h.2 q hq).sm (Nat.lt_of_lt_of_le h1 (pow_le (by decide))) (lt_mul h3 h1 (by decide))
theorem row_big {L B n : Nat} (t : Tin L B) (hn : n ≤ 100) : L * L * L < 2 ^ 4000 ∧ (n + 1) * ((B + B + B * B + 1) * B) * (L * L * L) < 2 ^ 4000 := by
  obtain ⟨_, _, h1, h2⟩ := row_sz t
  refine ⟨Nat.lt_of_lt_of_le h1 (pow_le (by decide)), lt_mul (lt_mul (show n + 1 < 2 ^ 7 by omega) h2 (Nat.le_refl _)) h1 (by decide)⟩
end M

set_option Elab.async false
set_option linter.all false
set_option maxRecDepth 100000
set_option maxHeartbeats 4000000
namespace K
open PySem PySem.Spec PyProof.Rows L2 G M
/-! ### the text, by places -/
def topS (i : Nat) : Stmt := PySem.Challenge.pw_surehedge_k74_balances.main.body.getD i (.Pass ⟨0, 0, 0, 0⟩)
abbrev s_number : Stmt := topS 3
abbrev N_number : List Str := ["n", "d", "common"]
theorem sc_number : FnScope N_number ["n", "d"] (defScope s_number) := ⟨rfl, rfl, rfl, by decide +kernel, rfl, by decide +kernel, by decide +kernel⟩
-- number: 0:n 1:d 2:common
abbrev s_compare : Stmt := topS 4
abbrev N_compare : List Str := ["a", "b", "left", "right"]
theorem sc_compare : FnScope N_compare ["a", "b"] (defScope s_compare) := ⟨rfl, rfl, rfl, by decide +kernel, rfl, by decide +kernel, by decide +kernel⟩
-- compare: 0:a 1:b 2:left 3:right
abbrev s_plus : Stmt := topS 5
abbrev N_plus : List Str := ["a", "b"]
theorem sc_plus : FnScope N_plus ["a", "b"] (defScope s_plus) := ⟨rfl, rfl, rfl, by decide +kernel, rfl, by decide +kernel, by decide +kernel⟩
-- plus: 0:a 1:b
abbrev s_minus : Stmt := topS 6
abbrev N_minus : List Str := ["a", "b"]
theorem sc_minus : FnScope N_minus ["a", "b"] (defScope s_minus) := ⟨rfl, rfl, rfl, by decide +kernel, rfl, by decide +kernel, by decide +kernel⟩
-- minus: 0:a 1:b
abbrev s_times : Stmt := topS 7
abbrev N_times : List Str := ["a", "b"]
theorem sc_times : FnScope N_times ["a", "b"] (defScope s_times) := ⟨rfl, rfl, rfl, by decide +kernel, rfl, by decide +kernel, by decide +kernel⟩
-- times: 0:a 1:b
abbrev s_total : Stmt := topS 8
abbrev N_total : List Str := ["numbers", "found", "one"]
theorem sc_total : FnScope N_total ["numbers"] (defScope s_total) := ⟨rfl, rfl, rfl, by decide +kernel, rfl, by decide +kernel, by decide +kernel⟩
-- total: 0:numbers 1:found 2:one
abbrev s_dot : Stmt := topS 9
abbrev N_dot : List Str := ["a", "b", "x", "y"]
theorem sc_dot : FnScope N_dot ["a", "b"] (defScope s_dot) := ⟨rfl, rfl, rfl, by decide +kernel, rfl, by decide +kernel, by decide +kernel⟩
-- dot: 0:a 1:b 2:x 3:y
abbrev s_children : Stmt := topS 11
abbrev N_children : List Str := ["market", "node", "place"]
theorem sc_children : FnScope N_children ["market", "node"] (defScope s_children) := ⟨rfl, rfl, rfl, by decide +kernel, rfl, by decide +kernel, by decide +kernel⟩
-- children: 0:market 1:node 2:place
abbrev s_inner_nodes : Stmt := topS 12
abbrev N_inner_nodes : List Str := ["market", "parents", "node", "place"]
theorem sc_inner_nodes : FnScope N_inner_nodes ["market"] (defScope s_inner_nodes) := ⟨rfl, rfl, rfl, by decide +kernel, rfl, by decide +kernel, by decide +kernel⟩
-- inner_nodes: 0:market 1:parents 2:node 3:place
abbrev s_gains_in : Stmt := topS 13
abbrev N_gains_in : List Str := ["market", "node", "child", "growth", "prices", "later", "payouts", "old", "now", "paid"]
theorem sc_gains_in : FnScope N_gains_in ["market", "node", "child"] (defScope s_gains_in) := ⟨rfl, rfl, rfl, by decide +kernel, rfl, by decide +kernel, by decide +kernel⟩
-- gains_in: 0:market 1:node 2:child 3:growth 4:prices 5:later 6:payouts 7:old 8:now 9:paid
abbrev s_gains : Stmt := topS 14
abbrev N_gains : List Str := ["market", "node", "child"]
theorem sc_gains : FnScope N_gains ["market", "node"] (defScope s_gains) := ⟨rfl, rfl, rfl, by decide +kernel, rfl, by decide +kernel, by decide +kernel⟩
-- gains: 0:market 1:node 2:child
abbrev s_flow_row : Stmt := topS 17
abbrev N_flow_row : List Str := ["market", "node", "row", "child"]
theorem sc_flow_row : FnScope N_flow_row ["market", "node"] (defScope s_flow_row) := ⟨rfl, rfl, rfl, by decide +kernel, rfl, by decide +kernel, by decide +kernel⟩
-- flow_row: 0:market 1:node 2:row 3:child
abbrev s_gain_row : Stmt := topS 18
abbrev N_gain_row : List Str := ["market", "node", "asset", "row", "child", "gain"]
theorem sc_gain_row : FnScope N_gain_row ["market", "node", "asset"] (defScope s_gain_row) := ⟨rfl, rfl, rfl, by decide +kernel, rfl, by decide +kernel, by decide +kernel⟩
-- gain_row: 0:market 1:node 2:asset 3:row 4:child 5:gain
abbrev s_turned_round : Stmt := topS 19
abbrev N_turned_round : List Str := ["row", "one"]
theorem sc_turned_round : FnScope N_turned_round ["row"] (defScope s_turned_round) := ⟨rfl, rfl, rfl, by decide +kernel, rfl, by decide +kernel, by decide +kernel⟩
-- turned_round: 0:row 1:one
abbrev s_signs_of : Stmt := topS 20
abbrev N_signs_of : List Str := ["rule"]
theorem sc_signs_of : FnScope N_signs_of ["rule"] (defScope s_signs_of) := ⟨rfl, rfl, rfl, by decide +kernel, rfl, by decide +kernel, by decide +kernel⟩
-- signs_of: 0:rule
abbrev s_signed : Stmt := topS 21
abbrev N_signed : List Str := ["label", "row", "signs", "sign"]
theorem sc_signed : FnScope N_signed ["label", "row", "signs"] (defScope s_signed) := ⟨rfl, rfl, rfl, by decide +kernel, rfl, by decide +kernel, by decide +kernel⟩
-- signed: 0:label 1:row 2:signs 3:sign
abbrev s_mass_rows : Stmt := topS 22
abbrev N_mass_rows : List Str := ["market", "rows", "node", "asset", "rule"]
theorem sc_mass_rows : FnScope N_mass_rows ["market"] (defScope s_mass_rows) := ⟨rfl, rfl, rfl, by decide +kernel, rfl, by decide +kernel, by decide +kernel⟩
-- mass_rows: 0:market 1:rows 2:node 3:asset 4:rule
abbrev s_fulfills : Stmt := topS 23
abbrev N_fulfills : List Str := ["rows", "masses", "_", "row", "worth", "one", "mass"]
theorem sc_fulfills : FnScope N_fulfills ["rows", "masses"] (defScope s_fulfills) := ⟨rfl, rfl, rfl, by decide +kernel, rfl, by decide +kernel, by decide +kernel⟩
-- fulfills: 0:rows 1:masses 2:_ 3:row 4:worth 5:one 6:mass
abbrev s_is_balances : Stmt := topS 25
abbrev N_is_balances : List Str := ["market", "balances"]
theorem sc_is_balances : FnScope N_is_balances ["market", "balances"] (defScope s_is_balances) := ⟨rfl, rfl, rfl, by decide +kernel, rfl, by decide +kernel, by decide +kernel⟩
-- is_balances: 0:market 1:balances
abbrev s_speak_against : Stmt := topS 26
abbrev N_speak_against : List Str := ["market", "payments", "balances"]
theorem sc_speak_against : FnScope N_speak_against ["market", "payments", "balances"] (defScope s_speak_against) := ⟨rfl, rfl, rfl, by decide +kernel, rfl, by decide +kernel, by decide +kernel⟩
-- speak_against: 0:market 1:payments 2:balances
abbrev s_law_draw : Stmt := topS 28
abbrev N_law_draw : List Str := ["_law_stream", "_law_many", "_law_cell", "_law_mixed", "_law_other", "_law_value"]
theorem sc_law_draw : FnScope N_law_draw ["_law_stream", "_law_many"] (defScope s_law_draw) := ⟨rfl, rfl, rfl, by decide +kernel, rfl, by decide +kernel, by decide +kernel⟩
-- law_draw: 0:_law_stream 1:_law_many 2:_law_cell 3:_law_mixed 4:_law_other 5:_law_value
abbrev s_law_number : Stmt := topS 29
abbrev N_law_number : List Str := ["_law_n", "_law_d", "_law_one", "_law_other"]
theorem sc_law_number : FnScope N_law_number ["_law_n", "_law_d"] (defScope s_law_number) := ⟨rfl, rfl, rfl, by decide +kernel, rfl, by decide +kernel, by decide +kernel⟩
-- law_number: 0:_law_n 1:_law_d 2:_law_one 3:_law_other
abbrev s_law_plus : Stmt := topS 30
abbrev N_law_plus : List Str := ["_law_a", "_law_b"]
theorem sc_law_plus : FnScope N_law_plus ["_law_a", "_law_b"] (defScope s_law_plus) := ⟨rfl, rfl, rfl, by decide +kernel, rfl, by decide +kernel, by decide +kernel⟩
-- law_plus: 0:_law_a 1:_law_b
abbrev s_law_times : Stmt := topS 31
abbrev N_law_times : List Str := ["_law_a", "_law_b"]
theorem sc_law_times : FnScope N_law_times ["_law_a", "_law_b"] (defScope s_law_times) := ⟨rfl, rfl, rfl, by decide +kernel, rfl, by decide +kernel, by decide +kernel⟩
-- law_times: 0:_law_a 1:_law_b
abbrev s_law_minus : Stmt := topS 32
abbrev N_law_minus : List Str := ["_law_a", "_law_b"]
theorem sc_law_minus : FnScope N_law_minus ["_law_a", "_law_b"] (defScope s_law_minus) := ⟨rfl, rfl, rfl, by decide +kernel, rfl, by decide +kernel, by decide +kernel⟩
-- law_minus: 0:_law_a 1:_law_b
abbrev s_law_less : Stmt := topS 33
abbrev N_law_less : List Str := ["_law_a", "_law_b"]
theorem sc_law_less : FnScope N_law_less ["_law_a", "_law_b"] (defScope s_law_less) := ⟨rfl, rfl, rfl, by decide +kernel, rfl, by decide +kernel, by decide +kernel⟩
-- law_less: 0:_law_a 1:_law_b
abbrev s_law_dot : Stmt := topS 34
abbrev N_law_dot : List Str := ["_law_a", "_law_b", "_law_total", "_law_place"]
theorem sc_law_dot : FnScope N_law_dot ["_law_a", "_law_b"] (defScope s_law_dot) := ⟨rfl, rfl, rfl, by decide +kernel, rfl, by decide +kernel, by decide +kernel⟩
-- law_dot: 0:_law_a 1:_law_b 2:_law_total 3:_law_place
abbrev s_law_is_number : Stmt := topS 35
abbrev N_law_is_number : List Str := ["_law_actual", "_law_one"]
theorem sc_law_is_number : FnScope N_law_is_number ["_law_actual"] (defScope s_law_is_number) := ⟨rfl, rfl, rfl, by decide +kernel, rfl, by decide +kernel, by decide +kernel⟩
-- law_is_number: 0:_law_actual 1:_law_one
abbrev s_law_are_numbers : Stmt := topS 36
abbrev N_law_are_numbers : List Str := ["_law_actual", "_law_many", "_law_one"]
theorem sc_law_are_numbers : FnScope N_law_are_numbers ["_law_actual", "_law_many"] (defScope s_law_are_numbers) := ⟨rfl, rfl, rfl, by decide +kernel, rfl, by decide +kernel, by decide +kernel⟩
-- law_are_numbers: 0:_law_actual 1:_law_many 2:_law_one
abbrev s_law_amount : Stmt := topS 37
abbrev N_law_amount : List Str := ["_law_stream", "_law_n"]
theorem sc_law_amount : FnScope N_law_amount ["_law_stream"] (defScope s_law_amount) := ⟨rfl, rfl, rfl, by decide +kernel, rfl, by decide +kernel, by decide +kernel⟩
-- law_amount: 0:_law_stream 1:_law_n
abbrev s_law_tree : Stmt := topS 38
abbrev N_law_tree : List Str := ["_law_stream", "_law_most", "_law_parents", "_law_depths", "_law_place", "_law_parent", "_law_other"]
theorem sc_law_tree : FnScope N_law_tree ["_law_stream", "_law_most"] (defScope s_law_tree) := ⟨rfl, rfl, rfl, by decide +kernel, rfl, by decide +kernel, by decide +kernel⟩
-- law_tree: 0:_law_stream 1:_law_most 2:_law_parents 3:_law_depths 4:_law_place 5:_law_parent 6:_law_other
abbrev s_law_shares : Stmt := topS 39
abbrev N_law_shares : List Str := ["_law_stream", "_law_many", "_law_parts", "_law_turn", "_law_part"]
theorem sc_law_shares : FnScope N_law_shares ["_law_stream", "_law_many"] (defScope s_law_shares) := ⟨rfl, rfl, rfl, by decide +kernel, rfl, by decide +kernel, by decide +kernel⟩
-- law_shares: 0:_law_stream 1:_law_many 2:_law_parts 3:_law_turn 4:_law_part
abbrev s_law_under : Stmt := topS 40
abbrev N_law_under : List Str := ["_law_parents", "_law_node", "_law_place"]
theorem sc_law_under : FnScope N_law_under ["_law_parents", "_law_node"] (defScope s_law_under) := ⟨rfl, rfl, rfl, by decide +kernel, rfl, by decide +kernel, by decide +kernel⟩
-- law_under: 0:_law_parents 1:_law_node 2:_law_place
abbrev s_law_market : Stmt := topS 41
abbrev N_law_market : List Str := ["_law_stream", "_law_most", "_law_free", "_law_large", "_law_parents", "_law_assets", "_law_growths", "_law_rules", "_law_node", "_law_prices", "_law_payouts", "_law_shares_here", "_law_back", "_law_below", "_law_asset", "_law_later", "_law_mean", "_law_step", "_law_fair", "_law_row", "_law_nodes", "_law_child"]
theorem sc_law_market : FnScope N_law_market ["_law_stream", "_law_most", "_law_free"] (defScope s_law_market) := ⟨rfl, rfl, rfl, by decide +kernel, rfl, by decide +kernel, by decide +kernel⟩
-- law_market: 0:_law_stream 1:_law_most 2:_law_free 3:_law_large 4:_law_parents 5:_law_assets 6:_law_growths 7:_law_rules 8:_law_node 9:_law_prices 10:_law_payouts 11:_law_shares_here 12:_law_back 13:_law_below 14:_law_asset 15:_law_later 16:_law_mean 17:_law_step 18:_law_fair 19:_law_row 20:_law_nodes 21:_law_child
abbrev s_law_masses : Stmt := topS 42
abbrev N_law_masses : List Str := ["_law_market_here", "_law_shares_here", "_law_masses_here", "_law_node", "_law_parent", "_law_below", "_law_growth", "_law_share", "_law_place"]
theorem sc_law_masses : FnScope N_law_masses ["_law_market_here", "_law_shares_here"] (defScope s_law_masses) := ⟨rfl, rfl, rfl, by decide +kernel, rfl, by decide +kernel, by decide +kernel⟩
-- law_masses: 0:_law_market_here 1:_law_shares_here 2:_law_masses_here 3:_law_node 4:_law_parent 5:_law_below 6:_law_growth 7:_law_share 8:_law_place
abbrev s_law_children : Stmt := topS 43
abbrev N_law_children : List Str := ["_law_market_here", "_law_node", "_law_place"]
theorem sc_law_children : FnScope N_law_children ["_law_market_here", "_law_node"] (defScope s_law_children) := ⟨rfl, rfl, rfl, by decide +kernel, rfl, by decide +kernel, by decide +kernel⟩
-- law_children: 0:_law_market_here 1:_law_node 2:_law_place
abbrev s_law_leaves : Stmt := topS 44
abbrev N_law_leaves : List Str := ["_law_market_here", "_law_place"]
theorem sc_law_leaves : FnScope N_law_leaves ["_law_market_here"] (defScope s_law_leaves) := ⟨rfl, rfl, rfl, by decide +kernel, rfl, by decide +kernel, by decide +kernel⟩
-- law_leaves: 0:_law_market_here 1:_law_place
abbrev s_law_gains : Stmt := topS 45
abbrev N_law_gains : List Str := ["_law_market_here", "_law_child", "_law_node", "_law_parent", "_law_found", "_law_asset", "_law_later"]
theorem sc_law_gains : FnScope N_law_gains ["_law_market_here", "_law_child"] (defScope s_law_gains) := ⟨rfl, rfl, rfl, by decide +kernel, rfl, by decide +kernel, by decide +kernel⟩
-- law_gains: 0:_law_market_here 1:_law_child 2:_law_node 3:_law_parent 4:_law_found 5:_law_asset 6:_law_later
abbrev s_law_keeps : Stmt := topS 46
abbrev N_law_keeps : List Str := ["_law_rule", "_law_amount_here"]
theorem sc_law_keeps : FnScope N_law_keeps ["_law_rule", "_law_amount_here"] (defScope s_law_keeps) := ⟨rfl, rfl, rfl, by decide +kernel, rfl, by decide +kernel, by decide +kernel⟩
-- law_keeps: 0:_law_rule 1:_law_amount_here
abbrev s_law_is_holdings : Stmt := topS 47
abbrev N_law_is_holdings : List Str := ["_law_market_here", "_law_holdings", "_law_node", "_law_many", "_law_asset"]
theorem sc_law_is_holdings : FnScope N_law_is_holdings ["_law_market_here", "_law_holdings"] (defScope s_law_is_holdings) := ⟨rfl, rfl, rfl, by decide +kernel, rfl, by decide +kernel, by decide +kernel⟩
-- law_is_holdings: 0:_law_market_here 1:_law_holdings 2:_law_node 3:_law_many 4:_law_asset
abbrev s_law_wealths : Stmt := topS 48
abbrev N_law_wealths : List Str := ["_law_market_here", "_law_first", "_law_holdings", "_law_paid", "_law_found", "_law_node", "_law_wealth", "_law_parent"]
theorem sc_law_wealths : FnScope N_law_wealths ["_law_market_here", "_law_first", "_law_holdings", "_law_paid"] (defScope s_law_wealths) := ⟨rfl, rfl, rfl, by decide +kernel, rfl, by decide +kernel, by decide +kernel⟩
-- law_wealths: 0:_law_market_here 1:_law_first 2:_law_holdings 3:_law_paid 4:_law_found 5:_law_node 6:_law_wealth 7:_law_parent
abbrev s_law_balanced : Stmt := topS 49
abbrev N_law_balanced : List Str := ["_law_market_here", "_law_masses_here", "_law_node", "_law_below", "_law_flow", "_law_child", "_law_asset", "_law_mean", "_law_rule"]
theorem sc_law_balanced : FnScope N_law_balanced ["_law_market_here", "_law_masses_here"] (defScope s_law_balanced) := ⟨rfl, rfl, rfl, by decide +kernel, rfl, by decide +kernel, by decide +kernel⟩
-- law_balanced: 0:_law_market_here 1:_law_masses_here 2:_law_node 3:_law_below 4:_law_flow 5:_law_child 6:_law_asset 7:_law_mean 8:_law_rule
abbrev s_law_agree : Stmt := topS 50
abbrev N_law_agree : List Str := ["_law_quotes", "_law_masses_here", "_law_payments", "_law_bid", "_law_ask", "_law_worth"]
theorem sc_law_agree : FnScope N_law_agree ["_law_quotes", "_law_masses_here"] (defScope s_law_agree) := ⟨rfl, rfl, rfl, by decide +kernel, rfl, by decide +kernel, by decide +kernel⟩
-- law_agree: 0:_law_quotes 1:_law_masses_here 2:_law_payments 3:_law_bid 4:_law_ask 5:_law_worth
abbrev s_law_loose : Stmt := topS 51
abbrev N_law_loose : List Str := ["_law_market_here", "_law_nodes", "_law_parent", "_law_growth", "_law_rules", "_law_prices", "_law_payouts", "_law_values", "_law_rule"]
theorem sc_law_loose : FnScope N_law_loose ["_law_market_here"] (defScope s_law_loose) := ⟨rfl, rfl, rfl, by decide +kernel, rfl, by decide +kernel, by decide +kernel⟩
-- law_loose: 0:_law_market_here 1:_law_nodes 2:_law_parent 3:_law_growth 4:_law_rules 5:_law_prices 6:_law_payouts 7:_law_values 8:_law_rule
abbrev s_law_changed : Stmt := topS 52
abbrev N_law_changed : List Str := ["_law_stream", "_law_balances", "_law_found", "_law_kind", "_law_at", "_law_one"]
theorem sc_law_changed : FnScope N_law_changed ["_law_stream", "_law_balances"] (defScope s_law_changed) := ⟨rfl, rfl, rfl, by decide +kernel, rfl, by decide +kernel, by decide +kernel⟩
-- law_changed: 0:_law_stream 1:_law_balances 2:_law_found 3:_law_kind 4:_law_at 5:_law_one
abbrev s_law : Stmt := topS 53
abbrev N_law : List Str := ["_law_script", "_law_stream", "_law_market_here", "_law_shares_here", "_law_others", "_law_first", "_law_second", "_law_balances", "_law_payments", "_law_kept", "_law_due", "_law_told", "_law_row", "_law_node"]
theorem sc_law : FnScope N_law ["_law_script"] (defScope s_law) := ⟨rfl, rfl, rfl, by decide +kernel, rfl, by decide +kernel, by decide +kernel⟩
-- law: 0:_law_script 1:_law_stream 2:_law_market_here 3:_law_shares_here 4:_law_others 5:_law_first 6:_law_second 7:_law_balances 8:_law_payments 9:_law_kept 10:_law_due 11:_law_told 12:_law_row 13:_law_node
end K

set_option Elab.async false
set_option linter.all false
set_option maxRecDepth 100000
set_option maxHeartbeats 4000000
set_option exponentiation.threshold 20000
namespace K
open PySem PySem.Spec PyProof.Rows L2 G M
/-! ### numbers -/
theorem cm_nd {a b : Rat} (ha : Sm a) (hb : Sm b) : CMulW a.num b.den := wide_mul ha.1 (by rw [Int.natAbs_natCast]; exact hb.2) (by decide) (by decide) (by decide)
theorem cm_nn {a b : Rat} (ha : Sm a) (hb : Sm b) : CMulW a.num b.num := wide_mul ha.1 hb.1 (by decide) (by decide) (by decide)
theorem cm_dd {a b : Rat} (ha : Sm a) (hb : Sm b) : CMulW a.den b.den := wide_mul (by rw [Int.natAbs_natCast]; exact ha.2) (by rw [Int.natAbs_natCast]; exact hb.2) (by decide) (by decide) (by decide)
theorem cm_dn {a b : Rat} (ha : Sm a) (hb : Sm b) : CMulW a.den b.num := wide_mul (by rw [Int.natAbs_natCast]; exact ha.2) hb.1 (by decide) (by decide) (by decide)
theorem dd_ne (a b : Rat) : (a.den : Int) * b.den ≠ 0 := Int.mul_ne_zero (by have := a.den_nz; omega) (by have := b.den_nz; omega)
theorem dd_lt {a b : Rat} (ha : Sm a) (hb : Sm b) : ((a.den : Int) * b.den).natAbs < 2 ^ 8900 := by
  have := wide_lt (i := a.den) (j := b.den) (a := 4000) (b := 4000) (by rw [Int.natAbs_natCast]; exact ha.2) (by rw [Int.natAbs_natCast]; exact hb.2)
  exact Nat.lt_trans this (Nat.pow_lt_pow_right (by decide) (by decide))

section
variable {P : Program} {w : World} {K : PySem.W.Frag} {mg : Str → Option Value} {base : Heap}
def ph_number (ds : List PyData) (r : PyData) : Prop := ∃ n d : Int, ds = [.int n, .int d] ∧ d ≠ 0 ∧ d.natAbs < 2 ^ 8900 ∧ r = encQ (Rat.divInt n d)
theorem d_number (A : At K mg "number" s_number ["n", "d"]) (g : mg "gcd" = some (.builtin "math.gcd")) : DfP P w K mg base 1 "number" 2 ph_number := by
  obtain ⟨f, fd, F, hm, hb⟩ := A
  refine dfP F sc_number rfl hm hb (fun cdv A outer s H E ds r hgd hr hl hp => ?_)
  obtain ⟨n, d, rfl, hd, hn, rfl⟩ := hp
  obtain ⟨e1, e2⟩ := norm_num (n := n) hd
  refine wp_seq (fun r o => r = [.d (.int (if d < 0 then -n else n)), .d (.int (if d < 0 then -d else d)), .un] ∧ o = []) (wp1_if (evt_lt (ev_v 1 rfl) ev_int) (fun h => ?_) (fun h => ?_)) ?_
  · have h := of_decide_eq_true h
    refine wp_one (wp1_par 0 1 rfl sc_number.nd (ea_cons (ev_neg (ev_v 0 rfl)) (ea_cons (ev_neg (ev_v 1 rfl)) ea_nil)) ?_)
    simp only [if_pos h]
    exact ⟨rfl, trivial⟩
  · have h := of_decide_eq_false h
    refine wp_nil ?_
    simp only [if_neg h]
    exact ⟨rfl, trivial⟩
  · rintro r o ⟨rfl, rfl⟩
    generalize hs : (if d < 0 then -n else n) = s at e1 e2 ⊢
    generalize ht : (if d < 0 then -d else d) = t at e1 e2 ⊢
    have tp : 0 < t := by rw [← ht]; split <;> omega
    have ta : t.natAbs = d.natAbs := by rw [← ht]; split <;> omega
    have gp : 0 < Nat.gcd s.natAbs t.natAbs := Nat.gcd_pos_of_pos_right _ (by omega)
    have hc : ∀ s', CDivW s' ((Nat.gcd s.natAbs t.natAbs : Nat) : Int) := fun s' => wide_div (b := 8900) (by omega) (by
      rw [Int.natAbs_natCast]
      exact Nat.lt_of_le_of_lt (Nat.gcd_le_right _ (by omega)) (by rw [ta]; exact hn)) (by decide) (by decide)
    refine wp_cons (wp1_set 2 sc_number.nd (ev_gcd g (ea_cons (ev_v 0 rfl) (ea_cons (ev_v 1 rfl) ea_nil))) ?_)
    refine wp_one (wp1_ret (ev_t2 (ev_div (ev_v 0 rfl) (ev_v 2 rfl) (hc _)) (ev_div (ev_v 1 rfl) (ev_v 2 rfl) (hc _))) ?_)
    show W.d _ = W.d _
    unfold encQ
    rw [e1, e2]
def ph_2 (f : Rat → Rat → Rat) (ds : List PyData) (r : PyData) : Prop := ∃ a b : Rat, ds = [encQ a, encQ b] ∧ Sm a ∧ Sm b ∧ r = encQ (f a b)
abbrev ph_plus := ph_2 (· + ·)
abbrev ph_minus := ph_2 (· - ·)
abbrev ph_times := ph_2 (· * ·)
theorem d_plus (A : At K mg "plus" s_plus ["a", "b"]) (D : DfP P w K mg base 1 "number" 2 ph_number) : DfP P w K mg base 2 "plus" 2 ph_plus := by
  obtain ⟨f, fd, F, hm, hb⟩ := A
  refine dfP F sc_plus rfl hm hb (fun cdv A outer s H E ds r hgd hr hl hp => ?_)
  obtain ⟨a, b, rfl, ha, hb, rfl⟩ := hp
  exact wp_one (wp1_ret (ev_call2 D hgd hr (by decide) (ev_add (ev_mul (ev_ixT (ev_v 0 rfl) ev_int rfl) (ev_ixT (ev_v 1 rfl) ev_int rfl) (cm_nd ha hb)) (ev_mul (ev_ixT (ev_v 1 rfl) ev_int rfl) (ev_ixT (ev_v 0 rfl) ev_int rfl) (cm_nd hb ha)))
    (ev_mul (ev_ixT (ev_v 0 rfl) ev_int rfl) (ev_ixT (ev_v 1 rfl) ev_int rfl) (cm_dd ha hb)) ⟨_, _, rfl, dd_ne a b, dd_lt ha hb, by rw [plus_eq]⟩) rfl)
theorem d_minus (A : At K mg "minus" s_minus ["a", "b"]) (D : DfP P w K mg base 1 "number" 2 ph_number) : DfP P w K mg base 2 "minus" 2 ph_minus := by
  obtain ⟨f, fd, F, hm, hb⟩ := A
  refine dfP F sc_minus rfl hm hb (fun cdv A outer s H E ds r hgd hr hl hp => ?_)
  obtain ⟨a, b, rfl, ha, hb, rfl⟩ := hp
  exact wp_one (wp1_ret (ev_call2 D hgd hr (by decide) (ev_sub (ev_mul (ev_ixT (ev_v 0 rfl) ev_int rfl) (ev_ixT (ev_v 1 rfl) ev_int rfl) (cm_nd ha hb)) (ev_mul (ev_ixT (ev_v 1 rfl) ev_int rfl) (ev_ixT (ev_v 0 rfl) ev_int rfl) (cm_nd hb ha)))
    (ev_mul (ev_ixT (ev_v 0 rfl) ev_int rfl) (ev_ixT (ev_v 1 rfl) ev_int rfl) (cm_dd ha hb)) ⟨_, _, rfl, dd_ne a b, dd_lt ha hb, by rw [minus_eq]⟩) rfl)
theorem d_times (A : At K mg "times" s_times ["a", "b"]) (D : DfP P w K mg base 1 "number" 2 ph_number) : DfP P w K mg base 2 "times" 2 ph_times := by
  obtain ⟨f, fd, F, hm, hb⟩ := A
  refine dfP F sc_times rfl hm hb (fun cdv A outer s H E ds r hgd hr hl hp => ?_)
  obtain ⟨a, b, rfl, ha, hb, rfl⟩ := hp
  exact wp_one (wp1_ret (ev_call2 D hgd hr (by decide) (ev_mul (ev_ixT (ev_v 0 rfl) ev_int rfl) (ev_ixT (ev_v 1 rfl) ev_int rfl) (cm_nn ha hb))
    (ev_mul (ev_ixT (ev_v 0 rfl) ev_int rfl) (ev_ixT (ev_v 1 rfl) ev_int rfl) (cm_dd ha hb)) ⟨_, _, rfl, dd_ne a b, dd_lt ha hb, by rw [times_eq]⟩) rfl)
def ph_compare (ds : List PyData) (r : PyData) : Prop := ∃ a b : Rat, ds = [encQ a, encQ b] ∧ Sm a ∧ Sm b ∧ r = .int (cmpQ a b)
theorem d_compare (A : At K mg "compare" s_compare ["a", "b"]) (m_int : mg "int" = none) : DfP P w K mg base 1 "compare" 2 ph_compare := by
  obtain ⟨f, fd, F, hm, hb⟩ := A
  refine dfP F sc_compare rfl hm hb (fun cdv A outer s H E ds r hgd hr hl hp => ?_)
  obtain ⟨a, b, rfl, ha, hb, rfl⟩ := hp
  refine wp_cons (wp1_par 2 3 rfl sc_compare.nd (ea_cons (ev_mul (ev_ixT (ev_v 0 rfl) ev_int rfl) (ev_ixT (ev_v 1 rfl) ev_int rfl) (cm_nd ha hb)) (ea_cons (ev_mul (ev_ixT (ev_v 1 rfl) ev_int rfl) (ev_ixT (ev_v 0 rfl) ev_int rfl) (cm_nd hb ha)) ea_nil)) ?_)
  have e1 : (a.num * b.den < b.num * a.den) ↔ a < b := (Rat.lt_iff a b).symm
  have e2 : (b.num * a.den < a.num * b.den) ↔ b < a := (Rat.lt_iff b a).symm
  refine wp_cons (wp1_if (evt_lt (ev_v 2 rfl) (ev_v 3 rfl)) (fun h => ?_) (fun h => ?_))
  · have h := of_decide_eq_true h
    refine wp_one (wp1_ret (ev_neg ev_int) ?_)
    show W.d _ = W.d _
    unfold cmpQ
    rw [if_pos (e1.mp h)]
  · have h := of_decide_eq_false h
    refine wp_nil (wp_one (wp1_ret (ev_intB m_int (ea_cons (ev_gt (ev_v 2 rfl) (ev_v 3 rfl)) ea_nil)) ?_))
    show W.d _ = W.d _
    unfold cmpQ
    rw [if_neg (fun z => h (e1.mpr z))]
    by_cases z : b < a
    · rw [if_pos z, decide_eq_true (e2.mpr z)]
      rfl
    · rw [if_neg z, decide_eq_false (fun y => z (e2.mp y))]
      rfl
/-- total -/
def ph_total (ds : List PyData) (r : PyData) : Prop := ∃ (qs : List Rat) (L M : Nat), ds = [encL qs] ∧ 0 < L ∧ Bds L M qs ∧ L < 2 ^ 4000 ∧ (qs.length + 1) * M * L < 2 ^ 4000 ∧ r = encQ (sumQ qs)
theorem d_total (A : At K mg "total" s_total ["numbers"]) (c0 : Cst K mg "NOUGHT" (encQ 0)) (D : DfP P w K mg base 2 "plus" 2 ph_plus) : DfP P w K mg base 3 "total" 1 ph_total := by
  obtain ⟨f, fd, F, hm, hb⟩ := A
  refine dfP F sc_total rfl hm hb (fun cdv A outer s H E ds r hgd hr hl hp => ?_)
  obtain ⟨qs, L, M, rfl, h0, hb, h1, h2, rfl⟩ := hp
  refine wp_cons (wp1_set 1 sc_total.nd (ev_g c0) ?_)
  refine wp_seq (fun r o => ∃ u, r = [.d (encL qs), .d (encQ (sumQ qs)), u]) (wp1_for PassesOwn.never rfl (it_list (ev_v 0 rfl)) (fun i r o => ∃ u, r = [.d (encL qs), .d (encQ (sumQ (qs.take i))), u]) ⟨_, rfl⟩ (fun i w r o hw hi => ?_) (fun r o hi => ?_)) (fun r o hi => ?_)
  · obtain ⟨u, rfl⟩ := hi
    rw [List.map_map, List.getElem?_map] at hw
    cases hq : qs[i]? with
    | none => rw [hq] at hw; cases hw
    | some q =>
      rw [hq] at hw
      cases hw
      refine ⟨_, tg_name 2 sc_total.nd, wp_one (wp1_set 1 sc_total.nd (ev_call2 D hgd hr (by decide) (ev_v 1 rfl) (ev_v 2 rfl) ⟨_, _, rfl, (hb.take i).sm h0 h1 h2 (by rw [List.length_take]; omega), hb.sm1 h1 h2 (List.mem_of_getElem? hq), rfl⟩) ⟨.d (encQ q), ?_⟩)⟩
      rw [List.take_add_one, hq]
      show [_, _, _] = [_, _, _]
      rw [sumQ_append]
      show [_, W.d (encQ (_ + q)), _] = [_, W.d (encQ (_ + (q + 0))), _]
      rw [Rat.add_zero]
      rfl
  · obtain ⟨u, rfl⟩ := hi
    rw [List.length_map, List.length_map, List.take_length]
    exact ⟨u, rfl⟩
  · obtain ⟨u, rfl⟩ := hi
    exact wp_one (wp1_ret (ev_v 1 rfl) rfl)
def ph_dot (ds : List PyData) (r : PyData) : Prop := ∃ (a b : List Rat) (L M : Nat), ds = [encL a, encL b] ∧ a.length ≤ 1000 ∧ (∀ q ∈ a, Sm q) ∧ (∀ q ∈ b, Sm q) ∧ 0 < L ∧ Bds L M (List.zipWith (· * ·) a b) ∧ L < 2 ^ 4000 ∧ (a.length + 1) * M * L < 2 ^ 4000 ∧ r = encQ (dotQ a b)
theorem zipD_enc (a b : List Rat) : zipD (a.map encQ) (b.map encQ) = List.zipWith (fun x y => PyData.tuple [encQ x, encQ y]) a b := by
  unfold zipD
  rw [List.zipWith_map]
theorem d_dot (A : At K mg "dot" s_dot ["a", "b"]) (m_zip : mg "zip" = none) (D : DfP P w K mg base 3 "total" 1 ph_total) (D2 : DfP P w K mg base 2 "times" 2 ph_times) : DfP P w K mg base 4 "dot" 2 ph_dot := by
  obtain ⟨f, fd, F, hm, hb⟩ := A
  refine dfP F sc_dot rfl hm hb (fun cdv A outer s H E ds r hgd hr hl hp => ?_)
  obtain ⟨a, b, L, M, rfl, hz, ha, hb, h0, hB, h1, h2, rfl⟩ := hp
  refine wp_one (wp1_ret (ev_call1 D hgd hr (by decide) (d1 := encL (List.zipWith (· * ·) a b)) (EvN.d (en_lc (lcd_map (own := [("x", 2), ("y", 3)]) rfl sc_dot.nd (it_zip m_zip (ea_cons (ev_v 0 rfl) (ea_cons (ev_v 1 rfl) ea_nil))) (blkOk_by (N := N_dot) (sc := defScope s_dot) (by decide +kernel)) ?_ ?_ (fun i w r hw hr' => ?_)))) ⟨_, L, M, rfl, h0, hB, h1, ?_, rfl⟩) rfl)
  · rw [zipD_enc]; simp
  · rw [zipD_enc, List.length_map, List.length_zipWith, sizeLine_eq]; omega
  · rw [zipD_enc, List.getElem?_map] at hw
    rw [List.getElem?_map] at hr'
    cases hq : (List.zipWith (fun x y => PyData.tuple [encQ x, encQ y]) a b)[i]? with
    | none => rw [hq] at hw; cases hw
    | some q =>
      rw [hq] at hw
      cases hw
      obtain ⟨x, y, hx, hy, rfl⟩ := zipw_get hq
      rw [List.getElem?_zipWith, hx, hy] at hr'
      cases hr'
      refine ⟨_, fun s H C cl fp => tc_tup rfl (tcs_cons (tc_name 2 (by decide) sc_dot.nd) (tcs_cons (tc_name 3 (by decide) sc_dot.nd) tcs_nil)), fun s H C cl fp => ev_call2 D2 hgd hr (by decide) (ev_v 2 rfl) (ev_v 3 rfl) ⟨x, y, rfl, ha x (List.mem_of_getElem? hx), hb y (List.mem_of_getElem? hy), rfl⟩⟩
  · refine Nat.lt_of_le_of_lt ?_ h2
    refine Nat.mul_le_mul_right L (Nat.mul_le_mul_right M ?_)
    rw [List.length_zipWith]
    omega
end
end K

set_option Elab.async false
set_option linter.all false
set_option maxRecDepth 100000
set_option maxHeartbeats 4000000
set_option exponentiation.threshold 20000
namespace K
open PySem PySem.Spec PyProof.Rows L2 G M
section
variable {P : Program} {w : World} {K : PySem.W.Frag} {mg : Str → Option Value} {base : Heap}
theorem atN {m : Mkt} {v : Nat} (h : v < m.n) : atI (m.nodes.map encN) (v : Int) = some (encN (m.at v)) := atI_map (atI_nat (at_get h))
theorem szl {n : Nat} (h : n ≤ 1000) : n ≤ sizeLine := by rw [sizeLine_eq]; omega
def natL (ks : List Nat) : PyData := .list (ks.map fun (k : Nat) => PyData.int (k : Int))
def ph_children (ds : List PyData) (r : PyData) : Prop := ∃ (L B : Nat) (m : Mkt) (v : Nat), ds = [encM m, .int v] ∧ Wf L B m ∧ r = natL (kids m v)
theorem d_children (A : At K mg "children" s_children ["market", "node"]) (m_len : mg "len" = none) (m_range : mg "range" = none) : DfP P w K mg base 1 "children" 2 ph_children := by
  obtain ⟨f, fd, F, hm, hb⟩ := A
  refine dfP F sc_children rfl hm hb (fun cdv A outer s H E ds r hgd hr hl hp => ?_)
  obtain ⟨L, B, m, v, rfl, W, rfl⟩ := hp
  have hn : m.n ≤ 60 := W.n60
  exact wp_one (wp1_ret (EvN.d (en_lc (lcd_rngF (own := [("place", 2)]) (n := m.n) (fun i => decide ((m.at i).parent = (v : Int))) (fun (k : Nat) => PyData.int (k : Int)) rfl sc_children.nd
    (it_rangeN m_range (ea_cons (ev_lenM m_len (ea_cons (ev_ixT (ev_v 0 rfl) ev_int rfl) ea_nil)) ea_nil) (by omega)) (blkOk_by (N := N_children) (sc := defScope s_children) (by decide +kernel)) (szl (by omega))
    (fun k hk => ⟨_, fun s H C cl fp => tc_name 2 (by decide) sc_children.nd, fun s H C cl fp => evt_eqI (ev_ixT (ev_ixL (ev_ixT (ev_v 0 rfl) ev_int rfl) (ev_v 2 rfl) (atN hk)) ev_int rfl) (ev_v 1 rfl), fun _ s H C cl fp => ev_v 2 rfl⟩)))) rfl)
def ph_inner (ds : List PyData) (r : PyData) : Prop := ∃ (L B : Nat) (m : Mkt), ds = [encM m] ∧ Wf L B m ∧ r = natL (inner m)
theorem d_inner_nodes (A : At K mg "inner_nodes" s_inner_nodes ["market"]) (m_len : mg "len" = none) (m_range : mg "range" = none) : DfP P w K mg base 1 "inner_nodes" 1 ph_inner := by
  obtain ⟨f, fd, F, hm, hb⟩ := A
  refine dfP F sc_inner_nodes rfl hm hb (fun cdv A outer s H E ds r hgd hr hl hp => ?_)
  obtain ⟨L, B, m, rfl, W, rfl⟩ := hp
  have hn : m.n ≤ 60 := W.n60
  refine wp_cons (wp1_set 1 sc_inner_nodes.nd (EvN.d (en_lc (lcd_dat (own := [("node", 2)]) encN (fun n => PyData.int n.parent) rfl sc_inner_nodes.nd (it_list (ev_ixT (ev_v 0 rfl) ev_int rfl)) (blkOk_by (N := N_inner_nodes) (sc := defScope s_inner_nodes) (by decide +kernel)) (szl (by show m.n ≤ _; omega))
    (fun x hx => ⟨_, fun s H C cl fp => tc_name 2 (by decide) sc_inner_nodes.nd, fun s H C cl fp => ev_ixT (ev_v 2 rfl) ev_int rfl⟩)))) ?_)
  have e : m.nodes.map (fun n => PyData.int n.parent) = (m.nodes.map (·.parent)).map PyData.int := by rw [List.map_map]; rfl
  rw [e]
  exact wp_one (wp1_ret (EvN.d (en_lc (lcd_rngF (own := [("place", 3)]) (n := m.n) (fun i => decide ((i : Int) ∈ m.nodes.map (·.parent))) (fun (k : Nat) => PyData.int (k : Int)) rfl sc_inner_nodes.nd
    (it_rangeN m_range (ea_cons (ev_lenM m_len (ea_cons (ev_ixT (ev_v 0 rfl) ev_int rfl) ea_nil)) ea_nil) (by omega)) (blkOk_by (N := N_inner_nodes) (sc := defScope s_inner_nodes) (by decide +kernel)) (szl (by omega))
    (fun k hk => ⟨_, fun s H C cl fp => tc_name 3 (by decide) sc_inner_nodes.nd, fun s H C cl fp => evt_inI (ev_v 3 rfl) (ev_v 1 rfl), fun _ s H C cl fp => ev_v 3 rfl⟩)))) rfl)
def ph_gains_in (ds : List PyData) (r : PyData) : Prop := ∃ (L B : Nat) (m : Mkt) (v c : Nat), ds = [encM m, .int v, .int c] ∧ Wf L B m ∧ v < m.n ∧ c < m.n ∧ r = encL (gainsIn m v c)
theorem d_gains_in (A : At K mg "gains_in" s_gains_in ["market", "node", "child"]) (m_zip : mg "zip" = none) (Dp : DfP P w K mg base 2 "plus" 2 ph_plus) (Dm : DfP P w K mg base 2 "minus" 2 ph_minus) (Dt : DfP P w K mg base 2 "times" 2 ph_times) : DfP P w K mg base 3 "gains_in" 3 ph_gains_in := by
  obtain ⟨f, fd, F, hm, hb⟩ := A
  refine dfP F sc_gains_in rfl hm hb (fun cdv A outer s H E ds r hgd hr hl hp => ?_)
  obtain ⟨L, B, m, v, c, rfl, W, hv, hc, rfl⟩ := hp
  have t := W.tin
  refine wp_cons (wp1_asg (ev_t2 (ev_ixT (ev_ixL (ev_ixT (ev_v 0 rfl) ev_int rfl) (ev_v 1 rfl) (atN hv)) ev_int rfl) (ev_ixT (ev_ixL (ev_ixT (ev_v 0 rfl) ev_int rfl) (ev_v 1 rfl) (atN hv)) ev_int rfl)) (tg_tup rfl (tgs_cons (tg_name 3 sc_gains_in.nd) (tgs_cons (tg_name 4 sc_gains_in.nd) tgs_nil))) ?_)
  refine wp_cons (wp1_par 5 6 rfl sc_gains_in.nd (ea_cons (ev_ixT (ev_ixL (ev_ixT (ev_v 0 rfl) ev_int rfl) (ev_v 2 rfl) (atN hc)) ev_int rfl) (ea_cons (ev_ixT (ev_ixL (ev_ixT (ev_v 0 rfl) ev_int rfl) (ev_v 2 rfl) (atN hc)) ev_int rfl) ea_nil)) ?_)
  have hz : zipD3 ((m.at v).prices.map encQ) ((m.at c).prices.map encQ) ((m.at c).payouts.map encQ) = ((m.at v).prices.zip ((m.at c).prices.zip (m.at c).payouts)).map fun x => PyData.tuple [encQ x.1, encQ x.2.1, encQ x.2.2] := by
    unfold zipD3
    rw [List.zip_map, List.zipWith_map, zw_map]
    rfl
  have hl : ((m.at v).prices.zip ((m.at c).prices.zip (m.at c).payouts)).length ≤ 1000 := by
    have := W.prices v hv
    have := W.a4
    simp
    omega
  have hg : gainsIn m v c = ((m.at v).prices.zip ((m.at c).prices.zip (m.at c).payouts)).map fun x => gain (m.at v).growth x.1 x.2.1 x.2.2 := by
    unfold gainsIn
    rw [zw_map]
  unfold encL
  rw [hg, List.map_map]
  refine wp_one (wp1_ret (EvN.d (en_lc (lcd_dat (own := [("old", 7), ("now", 8), ("paid", 9)]) (fun x => PyData.tuple [encQ x.1, encQ x.2.1, encQ x.2.2]) _ rfl sc_gains_in.nd (by rw [← hz]; exact it_zip3 m_zip (ea_cons (ev_v 4 rfl) (ea_cons (ev_v 5 rfl) (ea_cons (ev_v 6 rfl) ea_nil)))) (blkOk_by (N := N_gains_in) (sc := defScope s_gains_in) (by decide +kernel)) (szl hl)
    (fun x hx => ?_)))) rfl)
  obtain ⟨old, now, paid⟩ := x
  have h1 := List.of_mem_zip hx
  have h2 := List.of_mem_zip h1.2
  have b1 := W.bp v hv _ h1.1
  have b2 := W.bp c hc _ h2.1
  have b3 := W.by_ c hc _ h2.2
  have bg := W.bg v hv
  have e1 : Sm (now + paid) := (b2.add b3).sm (Nat.lt_of_lt_of_le t.l (pow_le (by decide))) (Nat.lt_of_lt_of_le (lt_mul (lt_add t.b t.b (Nat.le_refl 601)) t.l (Nat.le_refl _)) (pow_le (by decide)))
  have e2 : Sm ((m.at v).growth * old) := (bg.mul b1).sm (lt_mul t.l t.l (by decide)) (lt_mul (lt_mul t.b t.b (Nat.le_refl _)) (lt_mul t.l t.l (Nat.le_refl _)) (by decide))
  exact ⟨_, fun s H C cl fp => tc_tup rfl (tcs_cons (tc_name 7 (by decide) sc_gains_in.nd) (tcs_cons (tc_name 8 (by decide) sc_gains_in.nd) (tcs_cons (tc_name 9 (by decide) sc_gains_in.nd) tcs_nil))), fun s H C cl fp =>
    ev_call2 Dm hgd hr (by decide) (ev_call2 Dp hgd hr (by decide) (ev_v 8 rfl) (ev_v 9 rfl) ⟨_, _, rfl, t.sm b2, t.sm b3, rfl⟩) (ev_call2 Dt hgd hr (by decide) (ev_v 3 rfl) (ev_v 7 rfl) ⟨_, _, rfl, t.sm bg, t.sm b1, rfl⟩) ⟨_, _, rfl, e1, e2, rfl⟩⟩
def ph_gains (ds : List PyData) (r : PyData) : Prop := ∃ (L B : Nat) (m : Mkt) (v : Nat), ds = [encM m, .int v] ∧ Wf L B m ∧ v < m.n ∧ r = .list ((kids m v).map fun c => encL (gainsIn m v c))
theorem d_gains (A : At K mg "gains" s_gains ["market", "node"]) (Dc : DfP P w K mg base 1 "children" 2 ph_children) (Dg : DfP P w K mg base 3 "gains_in" 3 ph_gains_in) : DfP P w K mg base 4 "gains" 2 ph_gains := by
  obtain ⟨f, fd, F, hm, hb⟩ := A
  refine dfP F sc_gains rfl hm hb (fun cdv A outer s H E ds r hgd hr hl hp => ?_)
  obtain ⟨L, B, m, v, rfl, W, hv, rfl⟩ := hp
  have hk := kids_len m v
  have hn := W.n60
  exact wp_one (wp1_ret (EvN.d (en_lc (lcd_dat (own := [("child", 2)]) (fun (k : Nat) => PyData.int (k : Int)) _ rfl sc_gains.nd (it_list (ev_call2 Dc hgd hr (by decide) (ev_v 0 rfl) (ev_v 1 rfl) ⟨L, B, m, v, rfl, W, rfl⟩)) (blkOk_by (N := N_gains) (sc := defScope s_gains) (by decide +kernel)) (szl (by omega))
    (fun c hc => ⟨_, fun s H C cl fp => tc_name 2 (by decide) sc_gains.nd, fun s H C cl fp => ev_call3 Dg hgd hr (by decide) (ev_v 0 rfl) (ev_v 1 rfl) (ev_v 2 rfl) ⟨L, B, m, v, c, rfl, W, hv, (kids_lt hc).1, rfl⟩⟩)))) rfl)
end
end K

set_option Elab.async false
set_option linter.all false
set_option maxRecDepth 100000
set_option maxHeartbeats 4000000
set_option exponentiation.threshold 20000
namespace K
open PySem PySem.Spec PyProof.Rows L2 G M
section
variable {P : Program} {w : World} {K : PySem.W.Frag} {mg : Str → Option Value} {base : Heap}
theorem ixN_nat {n j : Nat} (hj : j < n) : ixN n (j : Int) = some j := by
  unfold ixN
  rw [if_pos (by omega), if_pos (by omega)]
  simp
/-- a mutable list of numbers -/
def rowW (r : List Rat) : MO := .lst ((r.map encQ).map W.d)
theorem flat_rep {α : Type} (n : Nat) (x : α) : (List.replicate n [x]).flatten = List.replicate n x := by
  induction n with
  | zero => rfl
  | succ n ih => rw [List.replicate_succ, List.flatten_cons, ih, List.replicate_succ]; rfl
theorem zeros_W (n : Nat) : MO.lst (((List.replicate ((n : Int)).toNat [encQ 0]).flatten).map W.d) = rowW (List.replicate n 0) := by
  unfold rowW
  rw [flat_rep, Int.toNat_natCast]
  simp only [List.map_replicate]
theorem rowW_set (r : List Rat) (i : Nat) (q : Rat) : MO.lst (((r.map encQ).map W.d).set i (.d (encQ q))) = rowW (r.set i q) := by
  unfold rowW
  rw [← List.map_set, ← List.map_set]
theorem zipD_same {α : Type} (f g : α → PyData) : ∀ xs : List α, zipD (xs.map f) (xs.map g) = xs.map fun x => PyData.tuple [f x, g x]
  | [] => rfl
  | x :: xs => by
    have ih := zipD_same f g xs
    unfold zipD at ih ⊢
    simp only [List.map_cons, List.zipWith_cons_cons, ih]
def ph_flow (ds : List PyData) (r : PyData) : Prop := ∃ (L B : Nat) (m : Mkt) (v : Nat), ds = [encM m, .int v] ∧ Wf L B m ∧ v < m.n ∧ r = encL (flowRow m v)
theorem d_flow_row (A : At K mg "flow_row" s_flow_row ["market", "node"]) (c0 : Cst K mg "NOUGHT" (encQ 0)) (c1 : Cst K mg "MINUS" (encQ (-1))) (m_len : mg "len" = none) (Dc : DfP P w K mg base 1 "children" 2 ph_children) : DfP P w K mg base 2 "flow_row" 2 ph_flow := by
  obtain ⟨f, fd, F, hm, hb⟩ := A
  refine dfP F sc_flow_row rfl hm hb (fun cdv A outer s H E ds r hgd hr hl hp => ?_)
  obtain ⟨L, B, m, v, rfl, W, hv, rfl⟩ := hp
  have hn := W.n60
  have nd := sc_flow_row.nd
  refine wp_seq (fun r o => r = [.d (encM m), .d (.int v), .m 0, .un] ∧ o = [rowW (List.replicate m.n 0)])
    (wp1_set 2 nd (EvN.m (en_rep (EvN.d (ds := [encQ 0]) (en_lst (ea_cons (ev_g c0) ea_nil))) (ev_lenM m_len (ea_cons (ev_ixT (ev_v 0 rfl) ev_int rfl) ea_nil)) (by show _ ≤ ((m.n : Nat) : Int) ∧ ((m.n : Nat) : Int) < _; omega) (by show 1 * ((m.n : Nat) : Int).toNat ≤ _; rw [sizeLine_eq]; omega))) ⟨rfl, ?_⟩) ?_
  · rw [← zeros_W]; rfl
  · rintro r o ⟨rfl, rfl⟩
    refine wp_seq (fun r o => r = [.d (encM m), .d (.int v), .m 0, .un] ∧ o = [rowW ((List.replicate m.n 0).set v (-1))])
      (wp1_setix (ev_g c1) (ev_v 2 rfl) (ev_v 1 rfl) rfl (ixN_nat (by simp; exact hv)) ⟨rfl, ?_⟩) ?_
    · rw [← rowW_set]; rfl
    · rintro r o ⟨rfl, rfl⟩
      refine wp_seq (fun r o => ∃ u, r = [.d (encM m), .d (.int v), .m 0, u] ∧ o = [rowW (flowRow m v)])
        (wp1_forD (xs := kids m v) (fun (k : Nat) => PyData.int (k : Int)) (fun i r o => ∃ u, r = [.d (encM m), .d (.int v), .m 0, u] ∧ o = [rowW (((kids m v).take i).foldl (fun r c => r.set c (m.at v).growth) ((List.replicate m.n (0 : Rat)).set v (-1)))]) PassesOwn.never rfl
          (it_list (ev_call2 Dc hgd hr (by decide) (ev_v 0 rfl) (ev_v 1 rfl) ⟨L, B, m, v, rfl, W, rfl⟩)) ⟨_, rfl, rfl⟩ (fun i k r o hk hi => ?_) (fun r o hi => ?_)) ?_
      · obtain ⟨u, rfl, rfl⟩ := hi
        have hk' := kids_lt (List.mem_of_getElem? hk)
        refine ⟨_, tg_name 3 nd, wp_one (wp1_setix (ev_ixT (ev_ixL (ev_ixT (ev_v 0 rfl) ev_int rfl) (ev_v 1 rfl) (atN hv)) ev_int rfl) (ev_v 2 rfl) (ev_v 3 rfl) rfl (ixN_nat ?_) ⟨_, rfl, ?_⟩)⟩
        · rw [List.length_map, List.length_map, foldl_set_len]
          simp
          exact hk'.1
        · rw [List.take_add_one, hk, List.foldl_append]
          show [MO.lst _] = _
          rw [rowW_set]
          rfl
      · obtain ⟨u, rfl, rfl⟩ := hi
        rw [List.take_length]
        exact ⟨u, rfl, rfl⟩
      · rintro r o ⟨u, rfl, rfl⟩
        exact wp_frz 0 (ds := (flowRow m v).map encQ) rfl (wp_one (wp1_ret (ev_v 2 rfl) rfl))
def ph_gainrow (ds : List PyData) (r : PyData) : Prop := ∃ (L B : Nat) (m : Mkt) (v a : Nat), ds = [encM m, .int v, .int a] ∧ Wf L B m ∧ v < m.n ∧ a < m.assets.length ∧ r = encL (gainRow m v a)
theorem d_gain_row (A : At K mg "gain_row" s_gain_row ["market", "node", "asset"]) (c0 : Cst K mg "NOUGHT" (encQ 0)) (m_len : mg "len" = none) (m_zip : mg "zip" = none) (Dc : DfP P w K mg base 1 "children" 2 ph_children) (Dg : DfP P w K mg base 4 "gains" 2 ph_gains) : DfP P w K mg base 5 "gain_row" 3 ph_gainrow := by
  obtain ⟨f, fd, F, hm, hb⟩ := A
  refine dfP F sc_gain_row rfl hm hb (fun cdv A outer s H E ds r hgd hr hl hp => ?_)
  obtain ⟨L, B, m, v, a, rfl, W, hv, ha, rfl⟩ := hp
  have hn := W.n60
  have nd := sc_gain_row.nd
  refine wp_seq (fun r o => r = [.d (encM m), .d (.int v), .d (.int a), .m 0, .un, .un] ∧ o = [rowW (List.replicate m.n 0)])
    (wp1_set 3 nd (EvN.m (en_rep (EvN.d (ds := [encQ 0]) (en_lst (ea_cons (ev_g c0) ea_nil))) (ev_lenM m_len (ea_cons (ev_ixT (ev_v 0 rfl) ev_int rfl) ea_nil)) (by show _ ≤ ((m.n : Nat) : Int) ∧ ((m.n : Nat) : Int) < _; omega) (by show 1 * ((m.n : Nat) : Int).toNat ≤ _; rw [sizeLine_eq]; omega))) ⟨rfl, ?_⟩) ?_
  · rw [← zeros_W]; rfl
  · rintro r o ⟨rfl, rfl⟩
    refine wp_seq (fun r o => ∃ u u', r = [.d (encM m), .d (.int v), .d (.int a), .m 0, u, u'] ∧ o = [rowW (gainRow m v a)])
      (wp1_forD (xs := kids m v) (fun (k : Nat) => PyData.tuple [PyData.int (k : Int), encL (gainsIn m v k)]) (fun i r o => ∃ u u', r = [.d (encM m), .d (.int v), .d (.int a), .m 0, u, u'] ∧ o = [rowW (((kids m v).take i).foldl (fun r c => r.set c ((gainsIn m v c).getD a 0)) (List.replicate m.n (0 : Rat)))]) PassesOwn.never rfl
        (by rw [← zipD_same]; exact it_zip m_zip (ea_cons (ev_call2 Dc hgd hr (by decide) (ev_v 0 rfl) (ev_v 1 rfl) ⟨L, B, m, v, rfl, W, rfl⟩) (ea_cons (ev_call2 Dg hgd hr (by decide) (ev_v 0 rfl) (ev_v 1 rfl) ⟨L, B, m, v, rfl, W, hv, rfl⟩) ea_nil))) ⟨_, _, rfl, rfl⟩ (fun i k r o hk hi => ?_) (fun r o hi => ?_)) ?_
    · obtain ⟨u, u', rfl, rfl⟩ := hi
      have hk' := kids_lt (List.mem_of_getElem? hk)
      have hg : a < (gainsIn m v k).length := by rw [gainsIn_len W hv hk'.1]; exact ha
      have hx : atI ((gainsIn m v k).map encQ) (a : Int) = some (encQ ((gainsIn m v k).getD a 0)) := atI_map (atI_nat (by
        rw [List.getD_eq_getElem?_getD, List.getElem?_eq_getElem hg]; rfl))
      refine ⟨_, tg_tup rfl (tgs_cons (tg_name 4 nd) (tgs_cons (tg_name 5 nd) tgs_nil)), wp_one (wp1_setix (ev_ixL (ev_v 5 rfl) (ev_v 2 rfl) hx) (ev_v 3 rfl) (ev_v 4 rfl) rfl (ixN_nat ?_) ⟨_, _, rfl, ?_⟩)⟩
      · rw [List.length_map, List.length_map, foldl_set_len (f := fun c => (gainsIn m v c).getD a 0)]
        simp
        exact hk'.1
      · rw [List.take_add_one, hk, List.foldl_append]
        show [MO.lst _] = _
        rw [rowW_set]
        rfl
    · obtain ⟨u, u', rfl, rfl⟩ := hi
      rw [List.take_length]
      exact ⟨u, u', rfl, rfl⟩
    · rintro r o ⟨u, u', rfl, rfl⟩
      exact wp_frz 0 (ds := (gainRow m v a).map encQ) rfl (wp_one (wp1_ret (ev_v 3 rfl) rfl))
def ph_turned (ds : List PyData) (r : PyData) : Prop := ∃ row : List Rat, ds = [encL row] ∧ row.length ≤ 1000 ∧ (∀ q ∈ row, Sm q) ∧ r = encL (turned row)
theorem sm_mone : Sm (-1) := ⟨by show (1 : Nat) < _; exact Nat.one_lt_two_pow (by decide), by show (1 : Nat) < _; exact Nat.one_lt_two_pow (by decide)⟩
theorem sm_zero : Sm 0 := ⟨by show (0 : Nat) < _; exact Nat.two_pow_pos _, by show (1 : Nat) < _; exact Nat.one_lt_two_pow (by decide)⟩
theorem d_turned_round (A : At K mg "turned_round" s_turned_round ["row"]) (c1 : Cst K mg "MINUS" (encQ (-1))) (Dt : DfP P w K mg base 2 "times" 2 ph_times) : DfP P w K mg base 3 "turned_round" 1 ph_turned := by
  obtain ⟨f, fd, F, hm, hb⟩ := A
  refine dfP F sc_turned_round rfl hm hb (fun cdv A outer s H E ds r hgd hr hl hp => ?_)
  obtain ⟨row, rfl, hz, hq, rfl⟩ := hp
  unfold encL turned
  rw [List.map_map]
  exact wp_one (wp1_ret (EvN.d (en_lc (lcd_dat (own := [("one", 1)]) encQ _ rfl sc_turned_round.nd (it_list (ev_v 0 rfl)) (blkOk_by (N := N_turned_round) (sc := defScope s_turned_round) (by decide +kernel)) (szl hz)
    (fun q hx => ⟨_, fun s H C cl fp => tc_name 1 (by decide) sc_turned_round.nd, fun s H C cl fp => ev_call2 Dt hgd hr (by decide) (ev_g c1) (ev_v 1 rfl) ⟨_, _, rfl, sm_mone, hq q hx, rfl⟩⟩)))) rfl)
def intL (ks : List Int) : PyData := .list (ks.map PyData.int)
def ph_signs (ds : List PyData) (r : PyData) : Prop := ∃ rule : Str, ds = [.str rule] ∧ r = intL (signsOf rule)
theorem d_signs_of (A : At K mg "signs_of" s_signs_of ["rule"]) : DfP P w K mg base 1 "signs_of" 1 ph_signs := by
  obtain ⟨f, fd, F, hm, hb⟩ := A
  refine dfP F sc_signs_of rfl hm hb (fun cdv A outer s H E ds r hgd hr hl hp => ?_)
  obtain ⟨rule, rfl, rfl⟩ := hp
  unfold intL signsOf
  refine wp_cons (wp1_if (evt_eqS (ev_v 0 rfl) ev_str) (fun h => ?_) (fun h => ?_))
  · rw [if_pos (of_decide_eq_true h)]
    exact wp_one (wp1_ret (EvN.d (ds := [_, _]) (en_lst (ea_cons ev_int (ea_cons (ev_neg ev_int) ea_nil)))) rfl)
  · rw [if_neg (of_decide_eq_false h)]
    refine wp_nil (wp_cons (wp1_if (evt_eqS (ev_v 0 rfl) ev_str) (fun h => ?_) (fun h => ?_)))
    · rw [if_pos (of_decide_eq_true h)]
      exact wp_one (wp1_ret (EvN.d (ds := [_]) (en_lst (ea_cons ev_int ea_nil))) rfl)
    · rw [if_neg (of_decide_eq_false h)]
      refine wp_nil (wp_cons (wp1_if (evt_eqS (ev_v 0 rfl) ev_str) (fun h => ?_) (fun h => ?_)))
      · rw [if_pos (of_decide_eq_true h)]
        exact wp_one (wp1_ret (EvN.d (ds := [_]) (en_lst (ea_cons (ev_neg ev_int) ea_nil))) rfl)
      · rw [if_neg (of_decide_eq_false h)]
        exact wp_nil (wp_one (wp1_ret (EvN.d (ds := []) (en_lst ea_nil)) rfl))
def rowsL (rs : List M.Row) : PyData := .list (rs.map encR)
def ph_signed (ds : List PyData) (r : PyData) : Prop := ∃ (lab : List PyData) (row : List Rat) (signs : List Int), ds = [.tuple lab, encL row, intL signs] ∧ lab.length ≤ 10 ∧ signs.length ≤ 10 ∧ row.length ≤ 1000 ∧ (∀ q ∈ row, Sm q) ∧ r = rowsL (signed lab row signs)
theorem d_signed (A : At K mg "signed" s_signed ["label", "row", "signs"]) (Dt : DfP P w K mg base 3 "turned_round" 1 ph_turned) : DfP P w K mg base 4 "signed" 3 ph_signed := by
  obtain ⟨f, fd, F, hm, hb⟩ := A
  refine dfP F sc_signed rfl hm hb (fun cdv A outer s H E ds r hgd hr hl hp => ?_)
  obtain ⟨lab, row, signs, rfl, h1, h2, h3, h4, rfl⟩ := hp
  unfold rowsL signed
  rw [List.map_map]
  exact wp_one (wp1_ret (EvN.d (en_lc (lcd_dat (own := [("sign", 3)]) PyData.int _ rfl sc_signed.nd (it_list (ev_v 2 rfl)) (blkOk_by (N := N_signed) (sc := defScope s_signed) (by decide +kernel)) (szl (by omega))
    (fun sg hx => ⟨_, fun s H C cl fp => tc_name 3 (by decide) sc_signed.nd, fun s H C cl fp => ev_t2 (ev_catT (ev_v 0 rfl) (ev_t1 (ev_v 3 rfl)) (by rw [sizeLine_eq]; simp; omega))
      (ev_if (evt_eqI (ev_v 3 rfl) ev_int) (fun h => by
        have h := of_decide_eq_true h
        show EvS _ _ _ _ (.d (encL (if sg = 1 then row else turned row))) _
        rw [if_pos h]
        exact ev_v 1 rfl) fun h => by
        have h := of_decide_eq_false h
        show EvS _ _ _ _ (.d (encL (if sg = 1 then row else turned row))) _
        rw [if_neg h]
        exact ev_call1 Dt hgd hr (by decide) (ev_v 1 rfl) ⟨row, rfl, h3, h4, rfl⟩)⟩)))) rfl)
def rowsW (rs : List M.Row) : MO := .lst ((rs.map encR).map W.d)
theorem rowsW_ext (a b : List M.Row) : MO.lst ((a.map encR).map W.d ++ (b.map encR).map W.d) = rowsW (a ++ b) := by
  unfold rowsW
  rw [List.map_append, List.map_append]
def ph_mass (ds : List PyData) (r : PyData) : Prop := ∃ (L B : Nat) (m : Mkt), ds = [encM m] ∧ Wf L B m ∧ r = rowsL (massRows m)
theorem d_mass_rows (A : At K mg "mass_rows" s_mass_rows ["market"]) (m_enum : mg "enumerate" = none) (Di : DfP P w K mg base 1 "inner_nodes" 1 ph_inner) (Df : DfP P w K mg base 2 "flow_row" 2 ph_flow) (Dg : DfP P w K mg base 5 "gain_row" 3 ph_gainrow)
    (Ds : DfP P w K mg base 4 "signed" 3 ph_signed) (Do : DfP P w K mg base 1 "signs_of" 1 ph_signs) : DfP P w K mg base 6 "mass_rows" 1 ph_mass := by
  obtain ⟨f, fd, F, hm, hb⟩ := A
  refine dfP F sc_mass_rows rfl hm hb (fun cdv A outer s H E ds r hgd hr hl hp => ?_)
  obtain ⟨L, B, m, rfl, W, rfl⟩ := hp
  have hn := W.n60
  have t := W.tin
  have nd := sc_mass_rows.nd
  refine wp_cons (wp1_set 1 nd (EvN.m (en_lst ea_nil)) ?_)
  refine wp_seq (fun r o => ∃ u1 u2 u3, r = [.d (encM m), .m 0, u1, u2, u3] ∧ o = [rowsW (massRows m)])
    (wp1_forD (xs := inner m) (fun (k : Nat) => PyData.int (k : Int)) (fun i r o => ∃ u1 u2 u3, r = [.d (encM m), .m 0, u1, u2, u3] ∧ o = [rowsW (rowsOf m ((inner m).take i))]) PassesOwn.never rfl
      (it_list (ev_call1 Di hgd hr (by decide) (ev_v 0 rfl) ⟨L, B, m, rfl, W, rfl⟩)) ⟨_, _, _, rfl, rfl⟩ (fun i v r o hk hi => ?_) (fun r o hi => ?_)) ?_
  · obtain ⟨u1, u2, u3, rfl, rfl⟩ := hi
    have hv := inner_lt (List.mem_of_getElem? hk)
    have hi' : i < (inner m).length := (List.getElem?_eq_some_iff.mp hk).1
    have hin := inner_len m
    have hsz : (rowsOf m ((inner m).take i)).length ≤ 600 := by
      have := rowsOf_len W ((inner m).take i) fun u hu => inner_lt (List.mem_of_mem_take hu)
      rw [List.length_take] at this
      omega
    have fo := flowRow_ok W hv
    refine ⟨_, tg_name 2 nd, ?_⟩
    refine wp_seq (fun r o => r = [.d (encM m), .m 0, .d (.int v), u2, u3] ∧ o = [rowsW (rowsOf m ((inner m).take i) ++ signed (labF v) (flowRow m v) [1, -1])])
      (wp1_expr (ev_extend (ev_v 1 rfl) (ea_cons (ev_call3 Ds hgd hr (by decide) (ev_t2 ev_str (ev_v 2 rfl)) (ev_call2 Df hgd hr (by decide) (ev_v 0 rfl) (ev_v 2 rfl) ⟨L, B, m, v, rfl, W, hv, rfl⟩) (EvN.d (ds := [_, _]) (en_lst (ea_cons ev_int (ea_cons (ev_neg ev_int) ea_nil))))
        ⟨labF v, flowRow m v, [1, -1], rfl, by simp [labF], by simp, by rw [fo.1]; omega, row_sm t fo, rfl⟩) ea_nil) rfl ⟨_, rfl⟩ ?_) ⟨rfl, ?_⟩) ?_
    · rw [List.length_map, List.length_map, List.length_map, signed_len, sizeLine_eq]
      simp only [List.length_cons, List.length_nil]
      omega
    · show [MO.lst _] = _
      rw [rowsW_ext]
    · rintro r o ⟨rfl, rfl⟩
      have hrl := W.rules v hv
      have ha4 := W.a4
      have he : enumD ((m.at v).rules.map PyData.str) = (List.range (m.at v).rules.length).map fun (j : Nat) => PyData.tuple [.int (j : Int), .str ((m.at v).rules.getD j default)] := by
        unfold enumD
        apply List.ext_getElem?
        intro j
        rw [List.getElem?_mapIdx, List.getElem?_map, List.getElem?_map]
        by_cases hj : j < (m.at v).rules.length
        · rw [List.getElem?_eq_getElem hj, List.getElem?_range hj]
          show some _ = some (PyData.tuple [_, PyData.str ((m.at v).rules.getD j default)])
          rw [List.getD_eq_getElem?_getD, List.getElem?_eq_getElem hj]
          rfl
        · rw [List.getElem?_eq_none (by omega), List.getElem?_eq_none (by simpa using hj)]
          rfl
      refine wp_one (wp1_forD (xs := List.range (m.at v).rules.length) (fun (j : Nat) => PyData.tuple [.int (j : Int), .str ((m.at v).rules.getD j default)])
        (fun j r o => ∃ u2 u3, r = [.d (encM m), .m 0, .d (.int v), u2, u3] ∧ o = [rowsW (rowsOf m ((inner m).take i) ++ (signed (labF v) (flowRow m v) [1, -1] ++ gainRows m v j))]) PassesOwn.never rfl
        (by rw [← he]; exact it_enum m_enum (ea_cons (ev_ixT (ev_ixL (ev_ixT (ev_v 0 rfl) ev_int rfl) (ev_v 2 rfl) (atN hv)) ev_int rfl) ea_nil)) ⟨_, _, rfl, by rw [show gainRows m v 0 = [] from rfl, List.append_nil]⟩ (fun j a r o hj hI => ?_) (fun r o hI => ?_))
      · obtain ⟨u2, u3, rfl, rfl⟩ := hI
        obtain ⟨hj1, hj2⟩ := List.getElem?_eq_some_iff.mp hj
        rw [List.getElem_range] at hj2
        subst hj2
        rw [List.length_range] at hj1
        have go := gainRow_ok W (a := j) hv
        have gl := gainRows_len m v j
        have sl := signsOf_len ((m.at v).rules.getD j default)
        refine ⟨_, tg_tup rfl (tgs_cons (tg_name 3 nd) (tgs_cons (tg_name 4 nd) tgs_nil)), wp_one (wp1_expr (ev_extend (ev_v 1 rfl) (ea_cons (ev_call3 Ds hgd hr (by decide) (ev_t3 ev_str (ev_v 2 rfl) (ev_v 3 rfl)) (ev_call3 Dg hgd hr (by decide) (ev_v 0 rfl) (ev_v 2 rfl) (ev_v 3 rfl) ⟨L, B, m, v, j, rfl, W, hv, by omega, rfl⟩)
          (ev_call1 Do hgd hr (by decide) (ev_v 4 rfl) ⟨_, rfl, rfl⟩) ⟨labG v j, gainRow m v j, _, rfl, by simp [labG], by omega, by rw [go.1]; omega, row_sm t go, rfl⟩) ea_nil) rfl ⟨_, rfl⟩ ?_) ⟨_, _, rfl, ?_⟩)⟩
        · rw [List.length_map, List.length_map, List.length_map, signed_len, sizeLine_eq, List.length_append, List.length_append, signed_len]
          simp only [List.length_cons, List.length_nil]
          omega
        · show [MO.lst _] = _
          rw [rowsW_ext, gainRows_succ, List.append_assoc, List.append_assoc]
      · obtain ⟨u2, u3, rfl, rfl⟩ := hI
        rw [List.length_range]
        refine ⟨_, _, _, rfl, ?_⟩
        rw [List.take_add_one, hk]
        unfold rowsOf
        rw [List.flatMap_append]
        simp [rowsAt]
  · obtain ⟨u1, u2, u3, rfl, rfl⟩ := hi
    rw [List.take_length]
    exact ⟨_, _, _, rfl, rfl⟩
  · rintro r o ⟨u1, u2, u3, rfl, rfl⟩
    exact wp_frz 0 (ds := (massRows m).map encR) rfl (wp_one (wp1_ret (ev_v 1 rfl) rfl))
end
end K

set_option Elab.async false
set_option linter.all false
set_option maxRecDepth 100000
set_option maxHeartbeats 4000000
set_option exponentiation.threshold 20000
namespace K
open PySem PySem.Spec PyProof.Rows L2 G M
section
variable {P : Program} {w : World} {K : PySem.W.Frag} {mg : Str → Option Value} {base : Heap}
theorem sumQ_snoc (qs : List Rat) (q : Rat) : sumQ (qs ++ [q]) = sumQ qs + q := by
  rw [sumQ_append]
  show _ + (q + 0) = _
  rw [Rat.add_zero]
theorem zipD_Q (a b : List Rat) : zipD (a.map encQ) (b.map encQ) = (a.zip b).map fun p => PyData.tuple [encQ p.1, encQ p.2] := by
  rw [zipD_enc, zw_map]
theorem cmp_pos (q : Rat) : decide (0 < cmpQ q 0) = decide (0 < q) := by
  unfold cmpQ
  apply decide_eq_decide.mpr
  by_cases h1 : q < 0
  · rw [if_pos h1]
    have : ¬ 0 < q := by grind
    exact ⟨fun z => by omega, fun z => (this z).elim⟩
  · rw [if_neg h1]
    by_cases h2 : 0 < q
    · rw [if_pos h2]
      exact ⟨fun _ => h2, fun _ => by decide⟩
    · rw [if_neg h2]
      exact ⟨fun z => by omega, fun z => (h2 z).elim⟩
def FulOk (L T : Nat) (rows : List M.Row) (ms : List Rat) : Prop := 0 < L ∧ L < 2 ^ 4000 ∧ (∀ q ∈ ms, Sm q) ∧ ms.length ≤ 100 ∧ rows.length ≤ 100000 ∧
  ∀ r ∈ rows, (∀ q ∈ r.2, Sm q) ∧ r.2.length ≤ 100 ∧ Bds L T (List.zipWith (· * ·) r.2 ms) ∧ (100 + 1) * T * L < 2 ^ 4000
def ph_fulfills (ds : List PyData) (r : PyData) : Prop := ∃ (L T : Nat) (rows : List M.Row) (ms : List Rat), ds = [rowsL rows, encL ms] ∧ FulOk L T rows ms ∧ r = .bool (fulfQ rows ms)
theorem d_fulfills (A : At K mg "fulfills" s_fulfills ["rows", "masses"]) (c0 : Cst K mg "NOUGHT" (encQ 0)) (m_zip : mg "zip" = none) (Dp : DfP P w K mg base 2 "plus" 2 ph_plus) (Dt : DfP P w K mg base 2 "times" 2 ph_times) (Dc : DfP P w K mg base 1 "compare" 2 ph_compare) : DfP P w K mg base 3 "fulfills" 2 ph_fulfills := by
  obtain ⟨f, fd, F, hm, hb⟩ := A
  refine dfP F sc_fulfills rfl hm hb (fun cdv A outer s H E ds r hgd hr hl hp => ?_)
  obtain ⟨L, T, rows, ms, rfl, ⟨h0, h1, h2, h3, h4, h5⟩, rfl⟩ := hp
  have nd := sc_fulfills.nd
  refine wp_seq (fun r o => fulfQ rows ms = true) (wp1_forD (xs := rows) encR (fun i r o => (∃ u2 u3 u4 u5 u6, r = [.d (rowsL rows), .d (encL ms), u2, u3, u4, u5, u6]) ∧ fulfQ (rows.take i) ms = true) PassesOwn.never rfl
    (it_list (ev_v 0 rfl)) ⟨⟨_, _, _, _, _, rfl⟩, rfl⟩ (fun i row r o hk hi => ?_) (fun r o hi => ?_)) ?_
  · obtain ⟨⟨u2, u3, u4, u5, u6, rfl⟩, hf⟩ := hi
    obtain ⟨q1, q2, q3, q4⟩ := h5 row (List.mem_of_getElem? hk)
    refine ⟨_, tg_tup rfl (tgs_cons (tg_name 2 nd) (tgs_cons (tg_name 3 nd) tgs_nil)), ?_⟩
    refine wp_cons (wp1_set 4 nd (ev_g c0) ?_)
    have hlz : (row.2.zip ms).length = (List.zipWith (· * ·) row.2 ms).length := by simp
    refine wp_seq (fun r o => ∃ u5 u6, r = [.d (rowsL rows), .d (encL ms), .d (.tuple row.1), .d (encL row.2), .d (encQ (dotQ row.2 ms)), u5, u6])
      (wp1_forD (xs := row.2.zip ms) (fun p => PyData.tuple [encQ p.1, encQ p.2]) (fun j r o => ∃ u5 u6, r = [.d (rowsL rows), .d (encL ms), .d (.tuple row.1), .d (encL row.2), .d (encQ (sumQ ((List.zipWith (· * ·) row.2 ms).take j))), u5, u6]) PassesOwn.never rfl
        (by rw [← zipD_Q]; exact it_zip m_zip (ea_cons (ev_v 3 rfl) (ea_cons (ev_v 1 rfl) ea_nil))) ⟨_, _, rfl⟩ (fun j p r o hj hI => ?_) (fun r o hI => ?_)) ?_
    · obtain ⟨u5, u6, rfl⟩ := hI
      have hp := List.of_mem_zip (List.mem_of_getElem? hj)
      have hz : (List.zipWith (· * ·) row.2 ms)[j]? = some (p.1 * p.2) := by rw [zw_map, List.getElem?_map, hj]; rfl
      have sm1 : Sm (sumQ ((List.zipWith (· * ·) row.2 ms).take j)) := (q3.take j).sm h0 h1 q4 (by simp; omega)
      have sm2 : Sm (p.1 * p.2) := q3.sm1 h1 q4 (List.mem_of_getElem? hz)
      refine ⟨_, tg_tup rfl (tgs_cons (tg_name 5 nd) (tgs_cons (tg_name 6 nd) tgs_nil)), wp_one (wp1_set 4 nd (ev_call2 Dp hgd hr (by decide) (ev_v 4 rfl) (ev_call2 Dt hgd hr (by decide) (ev_v 5 rfl) (ev_v 6 rfl) ⟨_, _, rfl, q1 _ hp.1, h2 _ hp.2, rfl⟩) ⟨_, _, rfl, sm1, sm2, rfl⟩) ⟨.d (encQ p.1), .d (encQ p.2), ?_⟩)⟩
      rw [List.take_add_one, hz]
      show _ = [_, _, _, _, W.d (encQ (sumQ (_ ++ [_]))), _, _]
      rw [sumQ_snoc]
      rfl
    · obtain ⟨u5, u6, rfl⟩ := hI
      rw [hlz, List.take_length]
      exact ⟨u5, u6, rfl⟩
    · rintro r o ⟨u5, u6, rfl⟩
      have sm1 : Sm (dotQ row.2 ms) := q3.sm h0 h1 q4 (by simp; omega)
      refine wp_one (wp1_if (evt_gt (ev_call2 Dc hgd hr (by decide) (ev_v 4 rfl) (ev_g c0) ⟨_, _, rfl, sm1, sm_zero, rfl⟩) ev_int) (fun h => ?_) (fun h => ?_))
      · rw [cmp_pos] at h
        refine wp_one (wp1_ret ev_bl ?_)
        show W.d _ = W.d _
        have : fulfQ rows ms = false := by
          unfold fulfQ
          rw [List.all_eq_false]
          exact ⟨row, List.mem_of_getElem? hk, by rw [h]; decide⟩
        rw [this]
      · rw [cmp_pos] at h
        refine wp_nil ⟨⟨_, _, _, _, _, rfl⟩, ?_⟩
        rw [List.take_add_one, hk]
        unfold fulfQ at hf ⊢
        rw [List.all_append, hf]
        show (true && ((!decide (0 < dotQ row.2 ms)) && true)) = true
        rw [h]
        rfl
  · obtain ⟨_, hf⟩ := hi
    rw [List.take_length] at hf
    exact hf
  · intro r o hf
    refine wp_one (wp1_ret ev_bl ?_)
    show W.d _ = W.d _
    rw [hf]
theorem massRows_len {L B : Nat} {m : Mkt} (W : Wf L B m) : (massRows m).length ≤ 600 := by
  have h1 := rowsOf_len W (inner m) fun u hu => inner_lt hu
  have h2 := inner_len m
  have h3 := W.n60
  unfold massRows
  omega
theorem mass_ful {L B : Nat} {m : Mkt} {ms : List Rat} (W : Wf L B m) (hb : Bds L B ms) (hl : ms.length ≤ 100) : FulOk (L * L * L) ((B + B + B * B + 1) * B) (massRows m) ms := by
  have t := W.tin
  have hn := W.n60
  obtain ⟨z1, z2⟩ := row_big (n := 100) t (Nat.le_refl _)
  refine ⟨Nat.mul_pos (Nat.mul_pos t.l0 t.l0) t.l0, z1, fun q hq => t.sm (hb q hq), hl, by have := massRows_len W; omega, fun r hr => ?_⟩
  have ok := massRows_ok W r hr
  exact ⟨row_sm t ok, by rw [ok.1]; omega, row_dot t ok hb, z2⟩
def ph_isbal (ds : List PyData) (r : PyData) : Prop := ∃ (L B : Nat) (m : Mkt) (bs : List Rat), ds = [encM m, encL bs] ∧ Wf L B m ∧ Bds L B bs ∧ bs.length ≤ 100 ∧ r = .bool (isBalQ m bs)
theorem d_is_balances (A : At K mg "is_balances" s_is_balances ["market", "balances"]) (c0 : Cst K mg "NOUGHT" (encQ 0)) (m_len : mg "len" = none) (Df : DfP P w K mg base 3 "fulfills" 2 ph_fulfills) (Dm : DfP P w K mg base 6 "mass_rows" 1 ph_mass) : DfP P w K mg base 7 "is_balances" 2 ph_isbal := by
  obtain ⟨f, fd, F, hm, hb⟩ := A
  refine dfP F sc_is_balances rfl hm hb (fun cdv A outer s H E ds r hgd hr hl hp => ?_)
  obtain ⟨L, B, m, bs, rfl, W, hb, hz, rfl⟩ := hp
  have hu : (cxG P w K mg base N_is_balances "is_balances" s_is_balances f cdv A outer s H E).A.units + 64 < cLine := hr.units
  have n1 := W.n1
  refine wp_cons (wp1_if (om1 := []) (p := !decide (bs.length = m.n ∧ bs.getD 0 1 = 0)) (evw_t (evw_or (p := !decide ((bs.length : Int) = (m.n : Nat))) (evt_neI (ev_lenM m_len (ea_cons (ev_v 1 rfl) ea_nil)) (ev_lenM m_len (ea_cons (ev_ixT (ev_v 0 rfl) ev_int rfl) ea_nil))) (fun h => ?_) (fun h => ?_))) (fun h => ?_) (fun h => ?_))
  · have h : (bs.length : Int) = (m.n : Nat) := by simpa using h
    have h' : bs.length = m.n := by omega
    have hx : atI (bs.map encQ) 0 = some (encQ (bs.getD 0 1)) := atI_map (atI_nat (j := 0) (by
      rw [List.getD_eq_getElem?_getD, List.getElem?_eq_getElem (by omega)]; rfl))
    have e : (!decide (bs.length = m.n ∧ bs.getD 0 1 = 0)) = !PyData.eqv (encQ (bs.getD 0 1)) (encQ 0) := by
      rw [eqv_Q]
      simp [h']
    rw [e]
    exact evw_or1 (evt_neD hu (ev_ixL (ev_v 1 rfl) ev_int hx) (ev_g c0) (shaped_Q _) (shaped_Q _))
  · have h : ¬ (bs.length : Int) = (m.n : Nat) := by simpa using h
    refine ⟨?_, rfl⟩
    have : ¬ (bs.length = m.n ∧ bs.getD 0 1 = 0) := fun z => h (by omega)
    rw [decide_eq_false this]
    rfl
  · refine wp_one (wp1_ret ev_bl ?_)
    show G.W.d _ = G.W.d _
    unfold isBalQ
    have h : decide (bs.length = m.n ∧ bs.getD 0 1 = 0) = false := by
      rw [Bool.not_eq_true'] at h
      exact h
    rw [h]
    rfl
  · refine wp_nil (wp_one (wp1_ret (ev_call2 Df hgd hr (by decide) (ev_call1 Dm hgd hr (by decide) (ev_v 0 rfl) ⟨L, B, m, rfl, W, rfl⟩) (ev_v 1 rfl) ⟨_, _, massRows m, bs, rfl, mass_ful W hb hz, rfl⟩) ?_))
    show G.W.d _ = G.W.d _
    unfold isBalQ
    have h : decide (bs.length = m.n ∧ bs.getD 0 1 = 0) = true := by
      rw [Bool.not_eq_false'] at h
      exact h
    rw [h]
    rfl
def ph_speak (ds : List PyData) (r : PyData) : Prop := ∃ (L B : Nat) (m : Mkt) (ps bs : List Rat), ds = [encM m, encL ps, encL bs] ∧ Wf L B m ∧ Bds L B bs ∧ Bds L B ps ∧ bs.length ≤ 100 ∧ ps.length ≤ 100 ∧ r = .bool (isBalQ m bs && decide (0 < dotQ ps bs))
theorem dot_bd {L B : Nat} {a b : List Rat} (t : Tin L B) (ha : Bds L B a) (hb : Bds L B b) (hl : a.length ≤ 100) : Bds (L * L) (B * B) (List.zipWith (· * ·) a b) ∧ L * L < 2 ^ 4000 ∧ (a.length + 1) * (B * B) * (L * L) < 2 ^ 4000 ∧ Sm (dotQ a b) := by
  have h1 : Bds (L * L) (B * B) (List.zipWith (· * ·) a b) := fun q hq => by
    rw [zw_map] at hq
    obtain ⟨p, hp, rfl⟩ := List.mem_map.mp hq
    have := List.of_mem_zip hp
    exact (ha _ this.1).mul (hb _ this.2)
  have h2 : L * L < 2 ^ 1200 := lt_mul t.l t.l (by decide)
  have h3 : L * L < 2 ^ 4000 := Nat.lt_of_lt_of_le h2 (pow_le (by decide))
  have h4 : (a.length + 1) * (B * B) * (L * L) < 2 ^ 4000 := lt_mul (lt_mul (show a.length + 1 < 2 ^ 7 by omega) (lt_mul t.b t.b (Nat.le_refl _)) (Nat.le_refl _)) h2 (by decide)
  exact ⟨h1, h3, h4, h1.sm (Nat.mul_pos t.l0 t.l0) h3 h4 (by simp; omega)⟩
theorem d_speak_against (A : At K mg "speak_against" s_speak_against ["market", "payments", "balances"]) (c0 : Cst K mg "NOUGHT" (encQ 0)) (Di : DfP P w K mg base 7 "is_balances" 2 ph_isbal) (Dd : DfP P w K mg base 4 "dot" 2 ph_dot) (Dc : DfP P w K mg base 1 "compare" 2 ph_compare) : DfP P w K mg base 8 "speak_against" 3 ph_speak := by
  obtain ⟨f, fd, F, hm, hb⟩ := A
  refine dfP F sc_speak_against rfl hm hb (fun cdv A outer s H E ds r hgd hr hl hp => ?_)
  obtain ⟨L, B, m, ps, bs, rfl, W, hb, hp, hz, hz2, rfl⟩ := hp
  obtain ⟨h1, h2, h3, h4⟩ := dot_bd W.tin hp hb hz2
  have t := W.tin
  refine wp_one (wp1_ret (ev_andP (ev_call2 Di hgd hr (by decide) (ev_v 0 rfl) (ev_v 2 rfl) ⟨L, B, m, bs, rfl, W, hb, hz, rfl⟩) fun _ => ev_one (ev_gt (ev_call2 Dc hgd hr (by decide) (ev_call2 Dd hgd hr (by decide) (ev_v 1 rfl) (ev_v 2 rfl)
    ⟨ps, bs, _, _, rfl, by omega, fun q hq => t.sm (hp q hq), fun q hq => t.sm (hb q hq), Nat.mul_pos t.l0 t.l0, h1, h2, h3, rfl⟩) (ev_g c0) ⟨_, _, rfl, h4, sm_zero, rfl⟩) ev_int)) ?_)
  show G.W.d _ = G.W.d _
  rw [cmp_pos]
end
end K

set_option Elab.async false
set_option linter.all false
set_option maxRecDepth 100000
set_option maxHeartbeats 4000000
set_option exponentiation.threshold 20000
/-! the law's own numbers: the stream of draws, fractions -/
namespace G
open PySem PySem.Spec PyProof.Rows L2
section
variable {X : Cx} {rho : List W} {om om1 om2 : List MO} {a b : Expr} {pos : Pos} {i j : Int}
theorem ev_mulU (ha : EvS X a rho om (.d (.int i)) om1) (hb : EvS X b rho om1 (.d (.int j)) om2) (hc : CMul i j) : EvS X (.BinOp a .Mult b pos) rho om (.d (.int (i * j))) om2 := ev_bin op_mul ha hb (od_I hc)
end
end G
namespace M
structure Strm where
  c : List Int
  p : Nat
  s : Int
def Strm.enc (S : Strm) : List PySem.PyData := [.list (S.c.map PySem.PyData.int), .int S.p, .int S.s]
def Strm.cell (S : Strm) : Int := S.c.getD S.p 0
def Strm.mixed (S : Strm) : Int := (S.cell * 48271 + ((S.p : Int) + 1) * 69621) % 2147483647
def Strm.other (S : Strm) : Int := (S.mixed * 40692 + S.cell * 7 + 5) % 2147483399
def Strm.more (S : Strm) : Strm := ⟨S.c, S.p + 1, if S.cell < 10 ^ 18 then S.other * 2147483563 + S.mixed + 10 ^ 18 else S.cell⟩
def Strm.full (S : Strm) (m : Nat) : Strm := if S.s < m then S.more else S
def drawV (S : Strm) (m : Nat) : Nat := ((S.full m).s % (m : Int)).toNat
def drawS (S : Strm) (m : Nat) : Strm := ⟨(S.full m).c, (S.full m).p, (S.full m).s / (m : Int)⟩
theorem drawV_lt (S : Strm) {m : Nat} (h : 0 < m) : drawV S m < m := by
  unfold drawV
  have h1 := Int.emod_lt_of_pos (S.full m).s (show (0 : Int) < m by omega)
  have h2 := Int.emod_nonneg (S.full m).s (show (m : Int) ≠ 0 by omega)
  omega
theorem drawV_eq (S : Strm) {m : Nat} (h : 0 < m) : ((drawV S m : Nat) : Int) = (S.full m).s % (m : Int) := by
  unfold drawV
  have h2 := Int.emod_nonneg (S.full m).s (show (m : Int) ≠ 0 by omega)
  omega
end M
namespace K
open PySem PySem.Spec PyProof.Rows L2 G M
section
variable {P : Program} {w : World} {K : PySem.W.Frag} {mg : Str → Option Value} {base : Heap}
def stW (S : Strm) : MO := .lst (S.enc.map G.W.d)
def ph_draw (ss ds : List PyData) (r : PyData) (ss' : List PyData) : Prop := ∃ (S : Strm) (m : Nat), ss = S.enc ∧ ds = [.int (m : Nat)] ∧ 0 < m ∧ m < 2 ^ 60 ∧ r = .int (drawV S m : Nat) ∧ ss' = (drawS S m).enc
theorem cmR {i j : Int} (h : -(2 ^ 64) < j ∧ j < 2 ^ 64) : CMul i j := .inr h
theorem d_draw (A : At K mg "_law_draw" s_law_draw ["_law_stream", "_law_many"]) (m_len : mg "len" = none) (m_int : mg "int" = none) : DfM P w K mg base 1 "_law_draw" 1 ph_draw := by
  obtain ⟨f, fd, F, hm, hb⟩ := A
  have nd := sc_law_draw.nd
  refine dfM F sc_law_draw rfl hm hb (fun cdv A outer s H E ss ds r ss' hgd hr hl hp => ?_)
  obtain ⟨S, m, rfl, rfl, h0, h1, rfl, rfl⟩ := hp
  refine wp_seq (fun r o => ∃ u2 u3 u4, r = [.m 0, .d (.int m), u2, u3, u4, .un] ∧ o = [stW (S.full m)]) (wp1_if (evt_lt (ev_ixM (ev_v 0 rfl) ev_int rfl rfl) (ev_v 1 rfl)) (fun h => ?_) (fun h => ?_)) ?_
  · have h := of_decide_eq_true h
    rw [show S.full m = S.more from if_pos h]
    refine wp_cons (wp1_set 2 nd ev_int ?_)
    refine wp_seq (fun r o => r = [.m 0, .d (.int m), .d (.int S.cell), .un, .un, .un] ∧ o = [stW S]) (wp1_if (evt_lt (ev_ixM (ev_v 0 rfl) ev_int rfl rfl) (ev_lenM m_len (ea_cons (ev_ixM (ev_v 0 rfl) ev_int rfl rfl) ea_nil))) (fun h => ?_) (fun h => ?_)) ?_
    · have h := of_decide_eq_true h
      have hl : S.p < S.c.length := by omega
      have hx : atI (S.c.map PyData.int) (S.p : Int) = some (.int S.cell) := atI_map (atI_nat (by
        unfold Strm.cell
        rw [List.getD_eq_getElem?_getD, List.getElem?_eq_getElem hl]; rfl))
      exact wp_one (wp1_set 2 nd (ev_ixL (ev_ixM (ev_v 0 rfl) ev_int rfl rfl) (ev_ixM (ev_v 0 rfl) ev_int rfl rfl) hx) ⟨rfl, rfl⟩)
    · have h := of_decide_eq_false h
      have e : S.cell = 0 := by
        unfold Strm.cell
        rw [List.getD_eq_getElem?_getD, List.getElem?_eq_none (by omega)]; rfl
      rw [e]
      exact wp_nil ⟨rfl, rfl⟩
    · rintro r o ⟨rfl, rfl⟩
      refine wp_cons (wp1_setix (ev_add (ev_ixM (ev_v 0 rfl) ev_int rfl rfl) ev_int) (ev_v 0 rfl) ev_int rfl (n := 1) rfl ?_)
      refine wp_cons (wp1_setix (ev_v 2 rfl) (ev_v 0 rfl) ev_int rfl (n := 2) rfl ?_)
      refine wp_one (wp1_if (evt_lt (ev_v 2 rfl) (ev_pow ev_int ev_int ⟨by decide, by decide, by decide⟩)) (fun h => ?_) (fun h => ?_))
      · have h : S.cell < 10 ^ 18 := of_decide_eq_true h
        refine wp_cons (wp1_set 3 nd (ev_mod (ev_int1 m_int (ea_cons (ev_add (ev_mulU (ev_v 2 rfl) ev_int (cmR (by decide))) (ev_mulU (ev_ixM (ev_v 0 rfl) ev_int rfl rfl) ev_int (cmR (by decide)))) ea_nil)) ev_int (by decide)) ?_)
        refine wp_cons (wp1_set 4 nd (ev_mod (ev_int1 m_int (ea_cons (ev_add (ev_add (ev_mulU (ev_v 3 rfl) ev_int (cmR (by decide))) (ev_mulU (ev_v 2 rfl) ev_int (cmR (by decide)))) ev_int) ea_nil)) ev_int (by decide)) ?_)
        refine wp_one (wp1_setix (ev_add (ev_add (ev_mulU (ev_v 4 rfl) ev_int (cmR (by decide))) (ev_v 3 rfl)) (ev_pow ev_int ev_int ⟨by decide, by decide, by decide⟩)) (ev_v 0 rfl) ev_int rfl (n := 2) rfl ⟨_, _, _, rfl, ?_⟩)
        unfold Strm.more
        rw [if_pos h]
        rfl
      · have h : ¬ S.cell < 10 ^ 18 := of_decide_eq_false h
        refine wp_nil ⟨_, _, _, rfl, ?_⟩
        unfold Strm.more
        rw [if_neg h]
        rfl
  · have h := of_decide_eq_false h
    rw [show S.full m = S from if_neg h]
    exact wp_nil ⟨_, _, _, rfl, rfl⟩
  · rintro r o ⟨u2, u3, u4, rfl, rfl⟩
    refine wp_cons (wp1_set 5 nd (ev_mod (ev_int1 m_int (ea_cons (ev_ixM (ev_v 0 rfl) ev_int rfl rfl) ea_nil)) (ev_v 1 rfl) (by omega)) ?_)
    refine wp_cons (wp1_setix (ev_div (ev_int1 m_int (ea_cons (ev_ixM (ev_v 0 rfl) ev_int rfl rfl) ea_nil)) (ev_v 1 rfl) (wide_div (b := 60) (by omega) (by rw [Int.natAbs_natCast]; exact h1) (by decide) (by decide))) (ev_v 0 rfl) ev_int rfl (n := 2) rfl ?_)
    refine wp_one (wp1_ret (ev_v 5 rfl) ⟨?_, rfl⟩)
    rw [drawV_eq S h0]
end
end K

set_option Elab.async false
set_option linter.all false
set_option maxRecDepth 100000
set_option maxHeartbeats 4000000
set_option exponentiation.threshold 20000
namespace M
def amtN (S : Strm) : Int := let s1 := drawS S 4; let s2 := drawS s1 9; let n : Int := (drawV s1 9 : Nat) - 4; if drawV s2 12 = 0 then n * 99991 + 7 else n
def amtD (S : Strm) : Nat := [1, 1, 1, 2, 3].getD (drawV (drawS (drawS (drawS S 4) 9) 12) 5) 1
def amtQ (S : Strm) : Rat := if drawV S 4 = 0 then 0 else Rat.divInt (amtN S) (amtD S)
def amtS (S : Strm) : Strm := if drawV S 4 = 0 then drawS S 4 else drawS (drawS (drawS (drawS S 4) 9) 12) 5
end M
namespace K
open PySem PySem.Spec PyProof.Rows L2 G M
section
variable {P : Program} {w : World} {K : PySem.W.Frag} {mg : Str → Option Value} {base : Heap}
def gcdMu (r : List G.W) (_ : List MO) : Nat := match r with
  | [_, _, _, .d (.int b)] => b.natAbs
  | _ => 0
theorem d_lnumber (A : At K mg "_law_number" s_law_number ["_law_n", "_law_d"]) (m_abs : mg "abs" = none) (m_int : mg "int" = none) : DfP P w K mg base 1 "_law_number" 2 ph_number := by
  obtain ⟨f, fd, F, hm, hb⟩ := A
  have nd := sc_law_number.nd
  refine dfP F sc_law_number rfl hm hb (fun cdv A outer s H E ds r hgd hr hl hp => ?_)
  obtain ⟨n, d, rfl, hd, hn, rfl⟩ := hp
  obtain ⟨e1, e2⟩ := norm_num (n := n) hd
  refine wp_seq (fun r o => r = [.d (.int (if d < 0 then -n else n)), .d (.int (if d < 0 then -d else d)), .un, .un] ∧ o = []) (wp1_if (evt_lt (ev_v 1 rfl) ev_int) (fun h => ?_) (fun h => ?_)) ?_
  · have h := of_decide_eq_true h
    refine wp_one (wp1_par 0 1 rfl sc_law_number.nd (ea_cons (ev_sub ev_int (ev_v 0 rfl)) (ea_cons (ev_sub ev_int (ev_v 1 rfl)) ea_nil)) ?_)
    simp only [if_pos h, Int.zero_sub]
    exact ⟨rfl, trivial⟩
  · have h := of_decide_eq_false h
    refine wp_nil ?_
    simp only [if_neg h]
    exact ⟨rfl, trivial⟩
  · rintro r o ⟨rfl, rfl⟩
    generalize hs : (if d < 0 then -n else n) = s at e1 e2 ⊢
    generalize ht : (if d < 0 then -d else d) = t at e1 e2 ⊢
    have tp : 0 < t := by rw [← ht]; split <;> omega
    have ta : t.natAbs = d.natAbs := by rw [← ht]; split <;> omega
    have gp : 0 < Nat.gcd s.natAbs t.natAbs := Nat.gcd_pos_of_pos_right _ (by omega)
    have hc : ∀ s', CDivW s' ((Nat.gcd s.natAbs t.natAbs : Nat) : Int) := fun s' => wide_div (b := 8900) (by omega) (by
      rw [Int.natAbs_natCast]
      exact Nat.lt_of_le_of_lt (Nat.gcd_le_right _ (by omega)) (by rw [ta]; exact hn)) (by decide) (by decide)
    have tn : t = ((t.natAbs : Nat) : Int) := by omega
    refine wp_cons (wp1_par 2 3 rfl nd (ea_cons (ev_abs m_abs (ea_cons (ev_v 0 rfl) ea_nil)) (ea_cons (ev_v 1 rfl) ea_nil)) ?_)
    refine wp_seq (fun r o => r = [.d (.int s), .d (.int t), .d (.int (Nat.gcd s.natAbs t.natAbs : Nat)), .d (.int 0)])
      (wp1_while PassesOwn.never (fun r o => ∃ a b : Nat, r = [.d (.int s), .d (.int t), .d (.int (a : Nat)), .d (.int (b : Nat))] ∧ Nat.gcd a b = Nat.gcd s.natAbs t.natAbs) gcdMu ⟨s.natAbs, t.natAbs, by rw [← tn]; rfl, rfl⟩ ?_) ?_
    · rintro r o ⟨a, b, rfl, hg⟩
      refine ⟨_, _, evt_neI (ev_v 3 rfl) ev_int, fun h => ?_, fun h => ?_⟩
      · rw [Bool.not_eq_true'] at h
        have h := of_decide_eq_false h
        have hb0 : b ≠ 0 := by omega
        refine wp_one (wp1_par 2 3 rfl nd (ea_cons (ev_v 3 rfl) (ea_cons (ev_mod (ev_int1 m_int (ea_cons (ev_v 2 rfl) ea_nil)) (ev_v 3 rfl) (by omega)) ea_nil)) ?_)
        have e : ((a : Int) % (b : Int)) = ((a % b : Nat) : Int) := (Int.natCast_emod a b).symm
        refine ⟨⟨b, a % b, ?_, ?_⟩, ?_⟩
        · rw [e]; rfl
        · rw [← hg, Nat.gcd_comm a b, Nat.gcd_rec b a, Nat.gcd_comm]
        · rw [e]
          show ((a % b : Nat) : Int).natAbs < ((b : Nat) : Int).natAbs
          rw [Int.natAbs_natCast, Int.natAbs_natCast]
          exact Nat.mod_lt _ (by omega)
      · rw [Bool.not_eq_false'] at h
        have h := of_decide_eq_true h
        have hb0 : b = 0 := by omega
        subst hb0
        rw [Nat.gcd_zero_right] at hg
        rw [hg]
        rfl
    · rintro r o rfl
      refine wp_one (wp1_ret (ev_t2 (ev_div (ev_v 0 rfl) (ev_v 2 rfl) (hc _)) (ev_div (ev_v 1 rfl) (ev_v 2 rfl) (hc _))) ?_)
      show W.d _ = W.d _
      unfold encQ
      rw [e1, e2]
theorem d_lplus (A : At K mg "_law_plus" s_law_plus ["_law_a", "_law_b"]) (D : DfP P w K mg base 1 "_law_number" 2 ph_number) : DfP P w K mg base 2 "_law_plus" 2 ph_plus := by
  obtain ⟨f, fd, F, hm, hb⟩ := A
  refine dfP F sc_law_plus rfl hm hb (fun cdv A outer s H E ds r hgd hr hl hp => ?_)
  obtain ⟨a, b, rfl, ha, hb, rfl⟩ := hp
  exact wp_one (wp1_ret (ev_call2 D hgd hr (by decide) (ev_add (ev_mul (ev_ixT (ev_v 0 rfl) ev_int rfl) (ev_ixT (ev_v 1 rfl) ev_int rfl) (cm_nd ha hb)) (ev_mul (ev_ixT (ev_v 1 rfl) ev_int rfl) (ev_ixT (ev_v 0 rfl) ev_int rfl) (cm_nd hb ha)))
    (ev_mul (ev_ixT (ev_v 0 rfl) ev_int rfl) (ev_ixT (ev_v 1 rfl) ev_int rfl) (cm_dd ha hb)) ⟨_, _, rfl, dd_ne a b, dd_lt ha hb, by rw [plus_eq]⟩) rfl)
theorem d_ltimes (A : At K mg "_law_times" s_law_times ["_law_a", "_law_b"]) (D : DfP P w K mg base 1 "_law_number" 2 ph_number) : DfP P w K mg base 2 "_law_times" 2 ph_times := by
  obtain ⟨f, fd, F, hm, hb⟩ := A
  refine dfP F sc_law_times rfl hm hb (fun cdv A outer s H E ds r hgd hr hl hp => ?_)
  obtain ⟨a, b, rfl, ha, hb, rfl⟩ := hp
  exact wp_one (wp1_ret (ev_call2 D hgd hr (by decide) (ev_mul (ev_ixT (ev_v 0 rfl) ev_int rfl) (ev_ixT (ev_v 1 rfl) ev_int rfl) (cm_nn ha hb))
    (ev_mul (ev_ixT (ev_v 0 rfl) ev_int rfl) (ev_ixT (ev_v 1 rfl) ev_int rfl) (cm_dd ha hb)) ⟨_, _, rfl, dd_ne a b, dd_lt ha hb, by rw [times_eq]⟩) rfl)
theorem neg_Q (b : Rat) : PyData.tuple [.int (0 - b.num), .int b.den] = encQ (-b) := by
  unfold encQ
  rw [Rat.neg_num, Rat.neg_den, Int.zero_sub]
theorem sm_neg {b : Rat} (h : Sm b) : Sm (-b) := by
  unfold Sm at h ⊢
  rw [Rat.neg_num, Rat.neg_den, Int.natAbs_neg]
  exact h
theorem d_lminus (A : At K mg "_law_minus" s_law_minus ["_law_a", "_law_b"]) (D : DfP P w K mg base 2 "_law_plus" 2 ph_plus) : DfP P w K mg base 3 "_law_minus" 2 ph_minus := by
  obtain ⟨f, fd, F, hm, hb⟩ := A
  refine dfP F sc_law_minus rfl hm hb (fun cdv A outer s H E ds r hgd hr hl hp => ?_)
  obtain ⟨a, b, rfl, ha, hb, rfl⟩ := hp
  exact wp_one (wp1_ret (ev_call2 D hgd hr (by decide) (ev_v 0 rfl) (ev_t2 (ev_sub ev_int (ev_ixT (ev_v 1 rfl) ev_int rfl)) (ev_ixT (ev_v 1 rfl) ev_int rfl)) ⟨a, -b, by rw [neg_Q], ha, sm_neg hb, rfl⟩) (by show G.W.d (encQ (a + -b)) = G.W.d (encQ (a - b)); rw [Rat.sub_eq_add_neg]))
def ph_less (ds : List PyData) (r : PyData) : Prop := ∃ a b : Rat, ds = [encQ a, encQ b] ∧ Sm a ∧ Sm b ∧ r = .bool (decide (a < b))
theorem d_lless (A : At K mg "_law_less" s_law_less ["_law_a", "_law_b"]) : DfP P w K mg base 1 "_law_less" 2 ph_less := by
  obtain ⟨f, fd, F, hm, hb⟩ := A
  refine dfP F sc_law_less rfl hm hb (fun cdv A outer s H E ds r hgd hr hl hp => ?_)
  obtain ⟨a, b, rfl, ha, hb, rfl⟩ := hp
  refine wp_one (wp1_ret (ev_lt (ev_mul (ev_ixT (ev_v 0 rfl) ev_int rfl) (ev_ixT (ev_v 1 rfl) ev_int rfl) (cm_nd ha hb)) (ev_mul (ev_ixT (ev_v 1 rfl) ev_int rfl) (ev_ixT (ev_v 0 rfl) ev_int rfl) (cm_nd hb ha))) ?_)
  show W.d _ = W.d _
  rw [decide_eq_decide.mpr (Rat.lt_iff a b).symm]
/-- dot -/
def ph_ldot (ds : List PyData) (r : PyData) : Prop := ∃ (a b : List Rat) (L M : Nat), ds = [encL a, encL b] ∧ a.length ≤ 1000 ∧ a.length = b.length ∧ (∀ q ∈ a, Sm q) ∧ (∀ q ∈ b, Sm q) ∧ 0 < L ∧ Bds L M (List.zipWith (· * ·) a b) ∧ L < 2 ^ 4000 ∧ (a.length + 1) * M * L < 2 ^ 4000 ∧ r = encQ (dotQ a b)
theorem atL {qs : List Rat} {i : Nat} {q : Rat} (h : qs[i]? = some q) : atI (qs.map encQ) (i : Int) = some (encQ q) := atI_map (atI_nat h)
theorem d_ldot (A : At K mg "_law_dot" s_law_dot ["_law_a", "_law_b"]) (m_len : mg "len" = none) (m_range : mg "range" = none) (D : DfP P w K mg base 2 "_law_plus" 2 ph_plus) (D2 : DfP P w K mg base 2 "_law_times" 2 ph_times) : DfP P w K mg base 3 "_law_dot" 2 ph_ldot := by
  obtain ⟨f, fd, F, hm, hb⟩ := A
  have nd := sc_law_dot.nd
  refine dfP F sc_law_dot rfl hm hb (fun cdv A outer s H E ds r hgd hr hl hp => ?_)
  obtain ⟨a, b, L, M, rfl, hz, he, ha, hb, h0, hB, h1, h2, rfl⟩ := hp
  have hzl : (List.zipWith (· * ·) a b).length = a.length := by simp [he]
  refine wp_cons (wp1_set 2 nd (ev_t2 ev_int ev_int) ?_)
  refine wp_seq (fun r o => ∃ u, r = [.d (encL a), .d (encL b), .d (encQ (dotQ a b)), u])
    (wp1_forR (n := a.length) (fun i r o => ∃ u, r = [.d (encL a), .d (encL b), .d (encQ (sumQ ((List.zipWith (· * ·) a b).take i))), u]) PassesOwn.never rfl (it_rangeN m_range (ea_cons (ev_lenM m_len (ea_cons (ev_v 0 rfl) ea_nil)) ea_nil) (by omega)) ⟨_, rfl⟩ (fun i r o hi hI => ?_) (fun r o hI => ?_)) ?_
  · obtain ⟨u, rfl⟩ := hI
    have hx := List.getElem?_eq_getElem hi
    have hy := List.getElem?_eq_getElem (show i < b.length by omega)
    have hz : (List.zipWith (· * ·) a b)[i]? = some (a[i] * b[i]) := by rw [List.getElem?_zipWith, hx, hy]
    rw [Int.zero_add]
    refine ⟨_, tg_name 3 nd, wp_one (wp1_set 2 nd (ev_call2 D hgd hr (by decide) (ev_v 2 rfl) (ev_call2 D2 hgd hr (by decide) (ev_ixL (ev_v 0 rfl) (ev_v 3 rfl) (atL hx)) (ev_ixL (ev_v 1 rfl) (ev_v 3 rfl) (atL hy))
      ⟨_, _, rfl, ha _ (List.mem_of_getElem? hx), hb _ (List.mem_of_getElem? hy), rfl⟩) ⟨_, _, rfl, (hB.take i).sm h0 h1 h2 (by rw [List.length_take]; omega), hB.sm1 h1 h2 (List.mem_of_getElem? hz), rfl⟩) ⟨.d (.int i), ?_⟩)⟩
    rw [List.take_add_one, hz]
    show _ = [_, _, W.d (encQ (sumQ (_ ++ [_]))), _]
    rw [sumQ_snoc]
    rfl
  · obtain ⟨u, rfl⟩ := hI
    rw [List.take_of_length_le (by omega)]
    exact ⟨u, rfl⟩
  · rintro r o ⟨u, rfl⟩
    exact wp_one (wp1_ret (ev_v 2 rfl) rfl)
theorem pick {α : Type} {xs : List α} {f : α → PyData} {v : Nat} (d : α) (h : v < xs.length) : atI (xs.map f) (v : Int) = some (f (xs.getD v d)) := atI_map (atI_nat (by
  rw [List.getD_eq_getElem?_getD, List.getElem?_eq_getElem h]; rfl))
def ph_amount (ss ds : List PyData) (r : PyData) (ss' : List PyData) : Prop := ∃ S : Strm, ss = S.enc ∧ ds = [] ∧ r = encQ (amtQ S) ∧ ss' = (amtS S).enc
theorem d_amount (A : At K mg "_law_amount" s_law_amount ["_law_stream"]) (D : DfM P w K mg base 1 "_law_draw" 1 ph_draw) (Dn : DfP P w K mg base 1 "_law_number" 2 ph_number) : DfM P w K mg base 2 "_law_amount" 0 ph_amount := by
  obtain ⟨f, fd, F, hm, hb⟩ := A
  have nd := sc_law_amount.nd
  refine dfM F sc_law_amount rfl hm hb (fun cdv A outer s H E ss ds r ss' hgd hr hl hp => ?_)
  obtain ⟨S, rfl, rfl, rfl, rfl⟩ := hp
  refine wp_cons (wp1_if (evt_eqI (ev_callM1 D hgd hr (by decide) (ev_v 0 rfl) ev_int rfl ⟨S, 4, rfl, rfl, by decide, by decide, rfl, rfl⟩) ev_int) (fun h => ?_) (fun h => ?_))
  · have h : drawV S 4 = 0 := by have := of_decide_eq_true h; omega
    refine wp_one (wp1_ret (ev_t2 ev_int ev_int) ?_)
    unfold amtQ amtS
    rw [if_pos h, if_pos h]
    exact ⟨rfl, rfl⟩
  · have h : ¬ drawV S 4 = 0 := by have := of_decide_eq_false h; omega
    refine wp_nil ?_
    unfold amtQ amtS
    rw [if_neg h, if_neg h]
    refine wp_cons (wp1_set 1 nd (ev_sub (ev_callM1 D hgd hr (by decide) (ev_v 0 rfl) ev_int rfl ⟨drawS S 4, 9, rfl, rfl, by decide, by decide, rfl, rfl⟩) ev_int) ?_)
    refine wp_seq (fun r o => r = [.m 0, .d (.int (amtN S))] ∧ o = [stW (drawS (drawS (drawS S 4) 9) 12)]) (wp1_if (evt_eqI (ev_callM1 D hgd hr (by decide) (ev_v 0 rfl) ev_int rfl ⟨drawS (drawS S 4) 9, 12, rfl, rfl, by decide, by decide, rfl, rfl⟩) ev_int) (fun h => ?_) (fun h => ?_)) ?_
    · have h : drawV (drawS (drawS S 4) 9) 12 = 0 := by have := of_decide_eq_true h; omega
      unfold amtN
      rw [if_pos h]
      exact wp_one (wp1_set 1 nd (ev_add (ev_mulU (ev_v 1 rfl) ev_int (cmR (by decide))) ev_int) ⟨rfl, rfl⟩)
    · have h : ¬ drawV (drawS (drawS S 4) 9) 12 = 0 := by have := of_decide_eq_false h; omega
      unfold amtN
      rw [if_neg h]
      exact wp_nil ⟨rfl, rfl⟩
    · rintro r o ⟨rfl, rfl⟩
      have hv := drawV_lt (drawS (drawS (drawS S 4) 9) 12) (show 0 < 5 by decide)
      have hd : (amtD S : Int) ≠ 0 ∧ ((amtD S : Nat) : Int).natAbs < 2 ^ 8900 := by
        have hall : ∀ k, k < 5 → (1 ≤ [1, 1, 1, 2, 3].getD k 1 ∧ [1, 1, 1, 2, 3].getD k 1 ≤ 3) := by decide
        have := hall _ hv
        unfold amtD
        rw [Int.natAbs_natCast]
        exact ⟨by omega, Nat.lt_of_le_of_lt this.2 (Nat.lt_of_lt_of_le (by decide : 3 < 2 ^ 2) (pow_le (by decide)))⟩
      refine wp_one (wp1_ret (ev_call2 Dn hgd hr (by decide) (ev_v 1 rfl) (ev_ixL (EvN.d (ds := [1, 1, 1, 2, 3].map fun (k : Nat) => PyData.int (k : Int)) (en_lst (ea_cons ev_int (ea_cons ev_int (ea_cons ev_int (ea_cons ev_int (ea_cons ev_int ea_nil)))))))
        (ev_callM1 D hgd hr (by decide) (ev_v 0 rfl) ev_int rfl ⟨drawS (drawS (drawS S 4) 9) 12, 5, rfl, rfl, by decide, by decide, rfl, rfl⟩) (pick 1 hv)) ⟨_, _, rfl, hd.1, hd.2, rfl⟩) ⟨rfl, rfl⟩)
end
end K

set_option Elab.async false
set_option linter.all false
set_option maxRecDepth 100000
set_option maxHeartbeats 4000000
set_option exponentiation.threshold 20000
namespace M
/-- a tree of parents -/
structure Par (ps : List Int) : Prop where
  n1 : 1 ≤ ps.length
  n12 : ps.length ≤ 11
  p0 : ps[0]? = some (-1)
  par : ∀ (v : Nat) (p : Int), 0 < v → ps[v]? = some p → 0 ≤ p ∧ p < v
structure Tr (ps dl : List Int) (k : Nat) : Prop where
  l1 : ps.length = k
  l2 : dl.length = k
  p0 : ps[0]? = some (-1)
  d0 : dl[0]? = some 0
  d1 : 1 < k → dl[1]? = some 1
  par : ∀ (v : Nat) (p : Int), 0 < v → ps[v]? = some p → 0 ≤ p ∧ p < v
theorem count_two (l : List Int) {a b : Int} (h : a ≠ b) : l.count a + l.count b ≤ l.length := by
  induction l with
  | nil => simp
  | cons x l ih =>
    rw [List.count_cons, List.count_cons, List.length_cons]
    by_cases h1 : x = a
    · subst h1
      have h2 : (x == b) = false := by simpa using h
      have h3 : (x == x) = true := by simp
      rw [h2, h3]
      simp
      omega
    · have h3 : (x == a) = false := by simpa using h1
      rw [h3]
      by_cases h2 : x = b
      · subst h2
        simp
        omega
      · have h4 : (x == b) = false := by simpa using h2
        rw [h4]
        simp
        omega
def roomy (ps dl : List Int) (j : Nat) : Bool := decide (dl.getD j 0 < 3) && decide ((ps.count (j : Int) : Int) < 6)
theorem Tr.roomy {ps dl : List Int} {k : Nat} (t : Tr ps dl k) (h1 : 1 ≤ k) (h : k ≤ 11) : ∃ x xs, (List.range k).filter (roomy ps dl) = x :: xs ∧ x < k := by
  have key : ∃ x, x < k ∧ M.roomy ps dl x = true := by
    by_cases h0 : ps.count 0 < 6
    · refine ⟨0, h1, ?_⟩
      unfold M.roomy
      rw [List.getD_eq_getElem?_getD, t.d0]
      simp
      omega
    · have h2 := count_two ps (a := 0) (b := 1) (by decide)
      have h3 := t.l1
      have h4 : 1 < k := by omega
      refine ⟨1, h4, ?_⟩
      unfold M.roomy
      rw [List.getD_eq_getElem?_getD, t.d1 h4]
      simp
      omega
  obtain ⟨x, hx, hr⟩ := key
  have hm : x ∈ (List.range k).filter (M.roomy ps dl) := List.mem_filter.mpr ⟨List.mem_range.mpr hx, hr⟩
  cases e : (List.range k).filter (M.roomy ps dl) with
  | nil => rw [e] at hm; cases hm
  | cons y ys =>
    refine ⟨y, ys, rfl, ?_⟩
    have : y ∈ (List.range k).filter (M.roomy ps dl) := by rw [e]; simp
    exact List.mem_range.mp (List.mem_filter.mp this).1
theorem Tr.grow {ps dl : List Int} {k q : Nat} {d : Int} (t : Tr ps dl k) (h1 : 1 ≤ k) (hq : q < k) (hd : dl[q]? = some d) : Tr (ps ++ [(q : Int)]) (dl ++ [d + 1]) (k + 1) where
  l1 := by rw [List.length_append, t.l1]; rfl
  l2 := by rw [List.length_append, t.l2]; rfl
  p0 := by rw [List.getElem?_append_left (by have := t.l1; omega)]; exact t.p0
  d0 := by rw [List.getElem?_append_left (by have := t.l2; omega)]; exact t.d0
  d1 := fun h => by
    by_cases hk : 1 < k
    · rw [List.getElem?_append_left (by have := t.l2; omega)]; exact t.d1 hk
    · have hk1 : k = 1 := by omega
      have hq0 : q = 0 := by omega
      subst hq0
      rw [t.d0] at hd
      cases hd
      rw [List.getElem?_append_right (by have := t.l2; omega), t.l2, hk1]
      rfl
  par := fun v p hv e => by
    by_cases hk : v < k
    · rw [List.getElem?_append_left (by have := t.l1; omega)] at e
      exact t.par v p hv e
    · rw [List.getElem?_append_right (by have := t.l1; omega), t.l1] at e
      have hl := (List.getElem?_eq_some_iff.mp e).1
      simp at hl
      have : v = k := by omega
      subst this
      rw [Nat.sub_self] at e
      cases e
      omega
def lcmS : Nat := 144403552893600
theorem lcm_dvd {k : Nat} (h : k ≤ 33) (h0 : 0 < k) : k ∣ lcmS := by
  have : ∀ k, k < 34 → 0 < k → 144403552893600 % k = 0 := by decide +kernel
  exact Nat.dvd_of_mod_eq_zero (this k (by omega) h0)
theorem share_bd {i t : Int} (h1 : 1 ≤ i) (h2 : i ≤ t) (h3 : t ≤ 33) : Bd lcmS 1 (Rat.divInt i t) := by
  have e : t = ((t.toNat : Nat) : Int) := by omega
  rw [e, Rat.divInt_ofNat]
  have h : Bd t.toNat 1 (mkRat i t.toNat) := ⟨by omega, i, rfl, by omega⟩
  exact h.mono (lcm_dvd (by omega) (by omega)) (by decide) (Nat.le_refl _)
end M
namespace K
open PySem PySem.Spec PyProof.Rows L2 G M
section
variable {P : Program} {w : World} {K : PySem.W.Frag} {mg : Str → Option Value} {base : Heap}
def intsW (ns : List Int) : MO := .lst (ns.map fun n => G.W.d (.int n))
theorem intsW_app (ns : List Int) (n : Int) : MO.lst (ns.map (fun n => G.W.d (.int n)) ++ [.d (.int n)]) = intsW (ns ++ [n]) := by
  unfold intsW
  rw [List.map_append]
  rfl
theorem atW {ns : List Int} {i : Nat} {n : Int} (h : ns[i]? = some n) : atI (ns.map fun n => G.W.d (.int n)) (i : Int) = some (.d (.int n)) := atI_map (f := fun n => G.W.d (.int n)) (atI_nat h)
def pre_tree (ss ds : List PyData) : Prop := ∃ (S : Strm) (m : Nat), ss = S.enc ∧ ds = [.int (m : Nat)] ∧ 0 < m ∧ m ≤ 11
def R_tree (ss ds : List PyData) (r : PyData) (ss' : List PyData) : Prop := ∃ (S : Strm) (ps : List Int), ss' = S.enc ∧ r = intL ps ∧ Par ps
theorem d_tree (A : At K mg "_law_tree" s_law_tree ["_law_stream", "_law_most"]) (m_range : mg "range" = none) (D : DfM P w K mg base 1 "_law_draw" 1 ph_draw) : DfMR P w K mg base 2 "_law_tree" 1 pre_tree R_tree := by
  obtain ⟨f, fd, F, hm, hb⟩ := A
  have nd := sc_law_tree.nd
  refine dfMR F sc_law_tree rfl hm hb (fun cdv A outer s H E ss ds hgd hr hl hp => ?_)
  obtain ⟨S, m, rfl, rfl, h0, h1⟩ := hp
  have hv := drawV_lt S h0
  refine wp_seq (fun r o => r = [.m 0, .d (.int m), .m 1, .m 2, .un, .un, .un] ∧ o = [stW S, intsW [-1], intsW [0]])
    (wp1_asgT rfl (ea_cons (EvN.m (ws := [.d (.int (-1))]) (en_lst (ea_cons (ev_neg ev_int) ea_nil))) (ea_cons (EvN.m (ws := [.d (.int 0)]) (en_lst (ea_cons ev_int ea_nil))) ea_nil)) (tgw_cons (tg_name 2 nd) (tgw_cons (tg_name 3 nd) tgw_nil)) ⟨rfl, rfl⟩) ?_
  rintro r o ⟨rfl, rfl⟩
  refine wp_seq (fun r o => ∃ S' ps dl u4 u5, r = [.m 0, .d (.int m), .m 1, .m 2, u4, u5, .un] ∧ o = [stW S', intsW ps, intsW dl] ∧ Tr ps dl (1 + drawV S m))
    (wp1_forR (lo := 1) (n := drawV S m) (fun i r o => ∃ S' ps dl u4 u5, r = [.m 0, .d (.int m), .m 1, .m 2, u4, u5, .un] ∧ o = [stW S', intsW ps, intsW dl] ∧ Tr ps dl (1 + i)) PassesOwn.never rfl
      (it_rangeK _ m_range (ea_cons ev_int (ea_cons (ev_add ev_int (ev_callM1 D hgd hr (by decide) (ev_v 0 rfl) (ev_v 1 rfl) rfl ⟨S, m, rfl, rfl, h0, by omega, rfl, rfl⟩)) ea_nil)) rfl (by omega)) ⟨drawS S m, [-1], [0], _, _, rfl, rfl, ?_⟩ (fun i r o hi hI => ?_) (fun r o hI => hI)) ?_
  · exact ⟨rfl, rfl, rfl, rfl, fun h => by omega, fun v p hv e => by
      obtain ⟨n, rfl⟩ := Nat.exists_eq_succ_of_ne_zero (show v ≠ 0 by omega)
      simp at e⟩
  · obtain ⟨S1, ps, dl, u4, u5, rfl, rfl, t⟩ := hI
    have hd := drawV_lt S1 (show 0 < 1 + i by omega)
    refine ⟨_, tg_name 4 nd, ?_⟩
    obtain ⟨q, hq⟩ : ∃ q, q = i - drawV S1 (1 + i) := ⟨_, rfl⟩
    have hq1 : (1 + (i : Int) - 1 - (drawV S1 (1 + i) : Nat) : Int) = (q : Nat) := by omega
    have hqi : q < 1 + i := by omega
    refine wp_seq (fun r o => r = [.m 0, .d (.int m), .m 1, .m 2, .d (.int (1 + (i : Int))), .d (.int (q : Nat)), .un] ∧ o = [stW (drawS S1 (1 + i)), intsW ps, intsW dl])
      (wp1_set 5 nd (ev_sub (ev_sub (ev_v 4 rfl) ev_int) (ev_callM1 D hgd hr (by decide) (ev_v 0 rfl) (ev_v 4 rfl) rfl ⟨S1, 1 + i, rfl, by rw [Int.natCast_add]; rfl, by omega, by omega, rfl, rfl⟩)) ⟨by rw [hq1]; rfl, rfl⟩) ?_
    rintro r o ⟨rfl, rfl⟩
    refine wp_seq (fun r o => ∃ S2 q2, q2 < 1 + i ∧ r = [.m 0, .d (.int m), .m 1, .m 2, .d (.int (1 + (i : Int))), .d (.int (q2 : Nat)), .un] ∧ o = [stW S2, intsW ps, intsW dl]) ?_ ?_
    · by_cases hc : (3 : Int) ≤ (ps.count (q : Int) : Nat)
      · refine wp1_if (evw_t (evw_and (evt_ge (ev_count (ev_v 2 rfl) (ea_cons (ev_v 5 rfl) ea_nil) rfl rfl) ev_int) (fun _ => evw_and1 (evt_gt (ev_callM1 D hgd hr (by decide) (ev_v 0 rfl) ev_int rfl ⟨_, 3, rfl, rfl, by decide, by decide, rfl, rfl⟩) ev_int)) (fun h => absurd hc (of_decide_eq_false h)))) (fun _ => ?_) (fun _ => ?_)
        · refine wp_one (wp1_set 5 nd (ev_sub (ev_v 4 rfl) ev_int) ⟨_, i, by omega, ?_, rfl⟩)
          rw [show (1 + (i : Int) - 1) = (i : Nat) by omega]
          rfl
        · exact wp_nil ⟨_, q, hqi, rfl, rfl⟩
      · refine wp1_if (p := false) (evw_t (evw_and (evt_ge (ev_count (ev_v 2 rfl) (ea_cons (ev_v 5 rfl) ea_nil) rfl rfl) ev_int) (fun h => absurd (of_decide_eq_true h) hc) (fun _ => ⟨rfl, rfl⟩))) (fun h => by cases h) (fun _ => ?_)
        exact wp_nil ⟨_, q, hqi, rfl, rfl⟩
    · rintro r o ⟨S2, q2, hq2, rfl, rfl⟩
      have hdl : dl[q2]? = some (dl.getD q2 0) := by
        rw [List.getD_eq_getElem?_getD, List.getElem?_eq_getElem (by have := t.l2; omega)]; rfl
      refine wp_seq (fun r o => ∃ q3, q3 < 1 + i ∧ r = [.m 0, .d (.int m), .m 1, .m 2, .d (.int (1 + (i : Int))), .d (.int (q3 : Nat)), .un] ∧ o = [stW S2, intsW ps, intsW dl])
        (wp1_if (evw_t (evw_orP (evt_ge (ev_ixM (ev_v 3 rfl) (ev_v 5 rfl) rfl (atW hdl)) ev_int) fun _ => evw_or1 (evt_ge (ev_count (ev_v 2 rfl) (ea_cons (ev_v 5 rfl) ea_nil) rfl rfl) ev_int))) (fun _ => ?_) (fun _ => ?_)) ?_
      · obtain ⟨x, xs, hx, hxi⟩ := t.roomy (by omega) (by omega)
        refine wp_one (wp1_set 5 nd (ev_ixL (EvN.d (en_lc (lcd_rngF (own := [("_law_other", 6)]) (n := 1 + i) (roomy ps dl) (fun (k : Nat) => PyData.int (k : Int)) rfl nd
          (it_rangeN m_range (ea_cons (ev_v (w := .d (.int ((1 + i : Nat) : Int))) 4 (by rw [Int.natCast_add]; rfl)) ea_nil) (by omega)) (blkOk_by (N := N_law_tree) (sc := defScope s_law_tree) (by decide +kernel)) (szl (by omega))
          (fun k hk => ⟨_, fun s H C cl fp => tc_name 6 (by decide) nd, fun s H C cl fp => evw_t (evw_andP (evt_lt (ev_ixM (ev_v 3 rfl) (ev_v 6 rfl) rfl (atW (n := dl.getD k 0) (by
            rw [List.getD_eq_getElem?_getD, List.getElem?_eq_getElem (by have := t.l2; omega)]; rfl))) ev_int) fun _ => evw_and1 (evt_lt (ev_count (ev_v 2 rfl) (ea_cons (ev_v 6 rfl) ea_nil) rfl rfl) ev_int)), fun _ s H C cl fp => ev_v 6 rfl⟩)))) ev_int (x := .int (x : Nat)) ?_) ⟨x, hxi, rfl, rfl⟩)
        rw [hx]
        exact atI_map (f := fun (k : Nat) => PyData.int (k : Int)) (i := ((0 : Nat) : Int)) (atI_nat rfl)
      · exact wp_nil ⟨q2, hq2, rfl, rfl⟩
      · rintro r o ⟨q3, hq3, rfl, rfl⟩
        have hdl : dl[q3]? = some (dl.getD q3 0) := by
          rw [List.getD_eq_getElem?_getD, List.getElem?_eq_getElem (by have := t.l2; omega)]; rfl
        refine wp_cons (wp1_expr (ev_append (ev_v 2 rfl) (ea_cons (ev_v 5 rfl) ea_nil) rfl ⟨_, rfl⟩ (by rw [List.length_map, t.l1, sizeLine_eq]; omega)) ?_)
        refine wp_one (wp1_expr (ev_append (ev_v 3 rfl) (ea_cons (ev_add (ev_ixM (ev_v 3 rfl) (ev_v 5 rfl) rfl (atW hdl)) ev_int) ea_nil) rfl ⟨_, rfl⟩ (by rw [List.length_map, t.l2, sizeLine_eq]; omega)) ⟨S2, ps ++ [(q3 : Int)], dl ++ [dl.getD q3 0 + 1], _, _, rfl, ?_, ?_⟩)
        · rw [← intsW_app, ← intsW_app]
          rfl
        · rw [← Nat.add_assoc]
          exact t.grow (by omega) hq3 hdl
  · rintro r o ⟨S', ps, dl, u4, u5, rfl, rfl, t⟩
    refine wp_frz 1 (ds := ps.map PyData.int) (by show some (intsW ps) = _; unfold intsW; rw [List.map_map]; rfl) (wp_one (wp1_ret (ev_v 2 rfl) ⟨_, S'.enc, rfl, ⟨S', ps, rfl, rfl, ?_⟩, ?_⟩))
    · exact ⟨by rw [t.l1]; omega, by rw [t.l1]; omega, t.p0, t.par⟩
    · rfl
def pre_shares (ss ds : List PyData) : Prop := ∃ (S : Strm) (m : Nat), ss = S.enc ∧ ds = [.int (m : Nat)] ∧ m ≤ 11
def R_shares (ss ds : List PyData) (r : PyData) (ss' : List PyData) : Prop := ∃ (S : Strm) (m : Nat) (qs : List Rat), ds = [.int (m : Nat)] ∧ ss' = S.enc ∧ r = encL qs ∧ qs.length = m ∧ Bds lcmS 1 qs
theorem sum_bd : ∀ {l : List Int}, (∀ x ∈ l, 1 ≤ x ∧ x ≤ 3) → (l.length : Int) ≤ l.sum ∧ l.sum ≤ 3 * (l.length : Int)
  | [], _ => by simp
  | x :: l, h => by
    have h1 := h x (by simp)
    have h2 := sum_bd (l := l) fun y hy => h y (by simp [hy])
    simp only [List.sum_cons, List.length_cons]
    omega
theorem sum_ge : ∀ {l : List Int}, (∀ x ∈ l, 1 ≤ x ∧ x ≤ 3) → ∀ x ∈ l, x ≤ l.sum
  | [], _, x, hx => by cases hx
  | y :: l, h, x, hx => by
    have h1 := h y (by simp)
    have h2 := sum_bd (l := l) fun y hy => h y (by simp [hy])
    simp only [List.sum_cons]
    rcases List.mem_cons.mp hx with rfl | hx
    · omega
    · have := sum_ge (l := l) (fun y hy => h y (by simp [hy])) x hx
      omega
theorem d_shares (A : At K mg "_law_shares" s_law_shares ["_law_stream", "_law_many"]) (m_range : mg "range" = none) (m_sum : mg "sum" = none) (D : DfM P w K mg base 1 "_law_draw" 1 ph_draw) (Dn : DfP P w K mg base 1 "_law_number" 2 ph_number) : DfMR P w K mg base 2 "_law_shares" 1 pre_shares R_shares := by
  obtain ⟨f, fd, F, hm, hb⟩ := A
  have nd := sc_law_shares.nd
  refine dfMR F sc_law_shares rfl hm hb (fun cdv A outer s H E ss ds hgd hr hl hp => ?_)
  obtain ⟨S, m, rfl, rfl, h1⟩ := hp
  refine wp_seq (fun r o => ∃ (S' : Strm) (parts : List Int), r = [.m 0, .d (.int m), .d (.list (parts.map PyData.int)), .un, .un] ∧ o = [stW S'] ∧ parts.length = m ∧ ∀ x ∈ parts, (1 : Int) ≤ x ∧ x ≤ 3)
    (wp1_setP 2 nd (ep_lc (own := [("_law_turn", 3)]) (Ph := fun acc o => ∃ (S' : Strm) (parts : List Int), acc = (parts.map PyData.int).map G.W.d ∧ o = [stW S'] ∧ parts.length = m ∧ ∀ x ∈ parts, (1 : Int) ≤ x ∧ x ≤ 3)
      (lcp (ds := rngW 0 m) rfl nd (it_rangeN m_range (ea_cons (ev_v 1 rfl) ea_nil) (by omega)) (blkOk_by (N := N_law_shares) (sc := defScope s_law_shares) (by decide +kernel))
        (fun i acc o => ∃ (S' : Strm) (parts : List Int), acc = (parts.map PyData.int).map G.W.d ∧ o = [stW S'] ∧ parts.length = i ∧ ∀ x ∈ parts, (1 : Int) ≤ x ∧ x ≤ 3) ⟨S, [], rfl, rfl, rfl, fun x hx => by cases hx⟩ (by rw [rngW_length]; exact szl (by omega))
        (fun i w acc o hw hJ => ?_) (fun acc o hJ => by rw [rngW_length] at hJ; exact hJ)) (fun acc o hJ => ?_))) ?_
  · obtain ⟨S', parts, rfl, rfl, hpl, hpa⟩ := hJ
    obtain ⟨hi, rfl⟩ := rngW_get hw
    have hd := drawV_lt S' (show 0 < 3 by decide)
    refine ⟨_, true, _, fun s H C cl fp => tc_name 3 (by decide) nd, fun s H C cl fp => ei_nil, fun _ s H C cl fp => (ev_add ev_int (ev_callM1 D hgd hr (by decide) (ev_v 0 rfl) ev_int rfl ⟨S', 3, rfl, rfl, by decide, by decide, rfl, rfl⟩)).toP ⟨drawS S' 3, parts ++ [1 + ((drawV S' 3 : Nat) : Int)], ?_, rfl, ?_, fun x hx => ?_⟩, fun h => by cases h⟩
    · rw [List.map_append, List.map_append]
      rfl
    · rw [List.length_append, hpl]
      rfl
    · rcases List.mem_append.mp hx with z | z
      · exact hpa x z
      · rw [List.mem_singleton] at z
        omega
  · obtain ⟨S', parts, rfl, rfl, hpl, hpa⟩ := hJ
    exact ⟨_, rfl, S', parts, rfl, rfl, hpl, hpa⟩
  · rintro r o ⟨S', parts, rfl, rfl, hpl, hpa⟩
    have hsb := sum_bd hpa
    refine wp_one (wp1_ret (EvN.d (ds := parts.map fun x => encQ (Rat.divInt x parts.sum)) (en_lc (lcd_dat (own := [("_law_part", 4)]) PyData.int (fun x => encQ (Rat.divInt x parts.sum)) rfl nd (it_list (ev_v 2 rfl)) (blkOk_by (N := N_law_shares) (sc := defScope s_law_shares) (by decide +kernel)) (szl (by omega))
      (fun x hx => ⟨_, fun s H C cl fp => tc_name 4 (by decide) nd, fun s H C cl fp => ev_call2 Dn hgd hr (by decide) (ev_v 4 rfl) (ev_sum rfl m_sum (ea_cons (ev_v 2 rfl) ea_nil)) ⟨_, _, rfl, ?_, ?_, rfl⟩⟩)))) ⟨_, S'.enc, rfl, ⟨S', m, parts.map fun x => Rat.divInt x parts.sum, rfl, rfl, ?_, ?_, ?_⟩, rfl⟩)
    · have := List.length_pos_of_mem hx
      omega
    · exact Nat.lt_of_le_of_lt (m := 64) (by omega) (Nat.lt_of_lt_of_le (by decide : 64 < 2 ^ 7) (pow_le (by decide)))
    · unfold encL
      rw [List.map_map]
      rfl
    · rw [List.length_map]; exact hpl
    · intro q hq
      obtain ⟨x, hx, rfl⟩ := List.mem_map.mp hq
      exact share_bd (hpa x hx).1 (sum_ge hpa x hx) (by omega)
def underQ (ps : List Int) (v : Nat) : List Nat := (List.range ps.length).filter fun i => decide (ps.getD i 0 = (v : Int))
def ph_under (ds : List PyData) (r : PyData) : Prop := ∃ (ps : List Int) (v : Nat), ds = [intL ps, .int v] ∧ ps.length ≤ 1000 ∧ r = natL (underQ ps v)
theorem d_under (A : At K mg "_law_under" s_law_under ["_law_parents", "_law_node"]) (m_len : mg "len" = none) (m_range : mg "range" = none) : DfP P w K mg base 1 "_law_under" 2 ph_under := by
  obtain ⟨f, fd, F, hm, hb⟩ := A
  have nd := sc_law_under.nd
  refine dfP F sc_law_under rfl hm hb (fun cdv A outer s H E ds r hgd hr hl hp => ?_)
  obtain ⟨ps, v, rfl, hn, rfl⟩ := hp
  exact wp_one (wp1_ret (EvN.d (en_lc (lcd_rngF (own := [("_law_place", 2)]) (n := ps.length) (fun i => decide (ps.getD i 0 = (v : Int))) (fun (k : Nat) => PyData.int (k : Int)) rfl nd
    (it_rangeN m_range (ea_cons (ev_lenM m_len (ea_cons (ev_v 0 rfl) ea_nil)) ea_nil) (by omega)) (blkOk_by (N := N_law_under) (sc := defScope s_law_under) (by decide +kernel)) (szl (by omega))
    (fun k hk => ⟨_, fun s H C cl fp => tc_name 2 (by decide) nd, fun s H C cl fp => evt_eqI (ev_ixL (ev_v 0 rfl) (ev_v 2 rfl) (pick 0 hk)) (ev_v 1 rfl), fun _ s H C cl fp => ev_v 2 rfl⟩)))) rfl)
end
end K

set_option Elab.async false
set_option linter.all false
set_option maxRecDepth 100000
set_option maxHeartbeats 4000000
set_option exponentiation.threshold 20000
namespace M
/-- so many draws, one behind another -/
def itS (g : Strm → Strm) : Nat → Strm → Strm
  | 0, S => S
  | k + 1, S => itS g k (g S)
def itV {α : Type} (f : Strm → α) (g : Strm → Strm) : Nat → Strm → List α
  | 0, _ => []
  | k + 1, S => f S :: itV f g k (g S)
theorem itS_succ (g : Strm → Strm) : ∀ (k : Nat) (S : Strm), itS g (k + 1) S = g (itS g k S)
  | 0, _ => rfl
  | k + 1, S => itS_succ g k (g S)
theorem itV_succ {α : Type} (f : Strm → α) (g : Strm → Strm) : ∀ (k : Nat) (S : Strm), itV f g (k + 1) S = itV f g k S ++ [f (itS g k S)]
  | 0, _ => rfl
  | k + 1, S => by
    show f S :: itV f g (k + 1) (g S) = (f S :: itV f g k (g S)) ++ _
    rw [itV_succ f g k (g S)]
    rfl
theorem itV_len {α : Type} (f : Strm → α) (g : Strm → Strm) : ∀ (k : Nat) (S : Strm), (itV f g k S).length = k
  | 0, _ => rfl
  | k + 1, S => congrArg (· + 1) (itV_len f g k (g S))
theorem itV_mem {α : Type} {f : Strm → α} {g : Strm → Strm} : ∀ {k : Nat} {S : Strm} {x : α}, x ∈ itV f g k S → ∃ S', x = f S'
  | 0, _, _, h => by cases h
  | k + 1, S, x, h => by
    rcases List.mem_cons.mp h with rfl | h
    · exact ⟨S, rfl⟩
    · exact itV_mem h
theorem itV_map {α β : Type} (h : α → β) (f : Strm → α) (g : Strm → Strm) : ∀ (k : Nat) (S : Strm), (itV f g k S).map h = itV (fun S => h (f S)) g k S
  | 0, _ => rfl
  | k + 1, S => by
    show h (f S) :: _ = _ :: _
    rw [itV_map h f g k (g S)]
end M
namespace G
open PySem PySem.Spec PyProof.Rows L2 M
section
variable {X : Cx} {rho : List W} {rest : List MO} {elt tg iter : Expr} {scope : Scope} {own : List (Str × Nat)} {ds : List W} {S : Strm}
/-- a comprehension of draws: the stream is the first of the mutable lists -/
theorem lcd_st (f : Strm → PyData) (g : Strm → Strm) (st : Strm → MO) (hc : X.calm = true) (hN : X.N.Nodup) (hi : ItS X tg iter rho (st S :: rest) ds (st S :: rest)) (ok : BlkOk X.N X.env.scope scope own) (hz : ds.length ≤ sizeLine)
    (ht : ∀ (i : Nat) (w : W) (S : Strm), ds[i]? = some w → ∃ r1,
      (∀ (s : Shared) (H : Hp) (C : Addr) (cl : List (Str × Addr)) (fp : List Addr), TgC (X.blk s H scope (compEnvC scope cl C X.env) fp) (own.map (·.2)) tg w (wipeW rho (own.map (·.2))) r1) ∧
      (∀ (s : Shared) (H : Hp) (C : Addr) (cl : List (Str × Addr)) (fp : List Addr), EvS (X.blk s H scope (compEnvC scope cl C X.env) fp) elt r1 (st S :: rest) (.d (f S)) (st (g S) :: rest)))
    (hs : ∀ x, foldedSetIterable iter X.env x = pure x := by intro _; rfl) : LcD X elt tg iter [] scope own rho (st S :: rest) ((itV f g ds.length S).map W.d) (st (itS g ds.length S) :: rest) :=
  lcp hc hN hi ok (fun i acc o => acc = (itV f g i S).map W.d ∧ o = st (itS g i S) :: rest) ⟨rfl, rfl⟩ hz (fun i w acc o hw hJ => by
    obtain ⟨rfl, rfl⟩ := hJ
    obtain ⟨r1, h1, h2⟩ := ht i w (itS g i S) hw
    refine ⟨r1, true, _, h1, fun s H C cl fp => ei_nil, fun _ s H C cl fp => (h2 s H C cl fp).toP ⟨?_, ?_⟩, fun h => by cases h⟩
    · rw [itV_succ, List.map_append]; rfl
    · rw [itS_succ]) (fun acc o hJ => hJ) hs
/-- a comprehension of comprehensions that are kept as lists that change -/
theorem lcp_rows (f : Strm → List W) (g : Strm → Strm) (st : Strm → MO) (hc : X.calm = true) (hN : X.N.Nodup) (hi : ItS X tg iter rho (st S :: rest) ds (st S :: rest)) (ok : BlkOk X.N X.env.scope scope own) (hz : ds.length ≤ sizeLine)
    (ht : ∀ (i : Nat) (w : W) (S : Strm) (rest : List MO), ds[i]? = some w → ∃ r1,
      (∀ (s : Shared) (H : Hp) (C : Addr) (cl : List (Str × Addr)) (fp : List Addr), TgC (X.blk s H scope (compEnvC scope cl C X.env) fp) (own.map (·.2)) tg w (wipeW rho (own.map (·.2))) r1) ∧
      (∀ (s : Shared) (H : Hp) (C : Addr) (cl : List (Str × Addr)) (fp : List Addr), EvN (X.blk s H scope (compEnvC scope cl C X.env) fp) elt r1 (st S :: rest) (f S) (st (g S) :: rest)))
    (hs : ∀ x, foldedSetIterable iter X.env x = pure x := by intro _; rfl) : LcD X elt tg iter [] scope own rho (st S :: rest) ((List.range ds.length).map fun j => W.m (1 + rest.length + j)) (st (itS g ds.length S) :: (rest ++ (itV f g ds.length S).map MO.lst)) :=
  lcp hc hN hi ok (fun i acc o => acc = ((List.range i).map fun j => W.m (1 + rest.length + j)) ∧ o = st (itS g i S) :: (rest ++ (itV f g i S).map MO.lst)) ⟨rfl, by simp [itV, itS]⟩ hz (fun i w acc o hw hJ => by
    obtain ⟨rfl, rfl⟩ := hJ
    obtain ⟨r1, h1, h2⟩ := ht i w (itS g i S) (rest ++ (itV f g i S).map MO.lst) hw
    refine ⟨r1, true, _, h1, fun s H C cl fp => ei_nil, fun _ s H C cl fp => ((h2 s H C cl fp).m).toP ⟨?_, ?_⟩, fun h => by cases h⟩
    · rw [List.range_succ, List.map_append]
      show _ ++ [W.m _] = _ ++ [W.m _]
      rw [List.length_cons, List.length_append, List.length_map, itV_len]
      congr 3
      omega
    · rw [itS_succ, itV_succ, List.map_append, List.cons_append, List.append_assoc]
      rfl) (fun acc o hJ => hJ) hs
end
end G

set_option Elab.async false
set_option linter.all false
set_option maxRecDepth 100000
set_option maxHeartbeats 4000000
set_option exponentiation.threshold 20000
namespace M
open PySem
def asL : List Str := ["a", "b2", "c", "d9"]
def asN : List Nat := [1, 1, 1, 2, 1, 2, 1, 4]
def ruL : List Str := ["any", "any", "any", "long", "short", "none"]
def grL : List Rat := [1, 1, 2, mkRat 1 2, mkRat 3 2]
def pyL : List Rat := [0, 0, 1, mkRat (-1) 2]
def stL : List Rat := [0, 0, 1]
def rule (S : Strm) : Str := ruL.getD (drawV S 6) "any"
def grow (S : Strm) : Rat := grL.getD (drawV S 5) 1
def payo (S : Strm) : Rat := pyL.getD (drawV S 4) 0
def smal (S : Strm) : Rat := (((drawV S 9 : Nat) : Int) - 4 : Int)
def dr (m : Nat) (S : Strm) : Strm := drawS S m
def ruRow (a : Nat) (S : Strm) : List Str := itV rule (dr 6) a S
def pyRow (a : Nat) (S : Strm) : List Rat := itV payo (dr 4) a S
def amRow (a : Nat) (S : Strm) : List Rat := itV amtQ amtS a S
def smRow (a : Nat) (S : Strm) : List Rat := itV smal (dr 9) a S
theorem getD_in {α : Type} {l : List α} {k : Nat} {d : α} (h : k < l.length) : l.getD k d ∈ l := by
  rw [List.getD_eq_getElem?_getD, List.getElem?_eq_getElem h]
  exact List.getElem_mem h
theorem rule_in (S : Strm) : rule S ∈ ruL := getD_in (drawV_lt S (by decide))
theorem grow_in (S : Strm) : grow S ∈ grL := getD_in (drawV_lt S (by decide))
theorem payo_in (S : Strm) : payo S ∈ pyL := getD_in (drawV_lt S (by decide))
theorem enc_int (i : Int) : encQ (i : Rat) = .tuple [.int i, .int 1] := rfl
theorem enc_pair {n : Int} {d : Nat} (h : Nat.gcd n.natAbs d = 1) (hd : d ≠ 0) : encQ (mkRat n d) = .tuple [.int n, .int d] := by
  unfold encQ
  rw [Rat.num_mkRat, Rat.den_mkRat, if_neg hd, if_neg hd, Nat.gcd_comm, h]
  simp
theorem grL_enc : grL.map encQ = [.tuple [.int 1, .int 1], .tuple [.int 1, .int 1], .tuple [.int 2, .int 1], .tuple [.int 1, .int 2], .tuple [.int 3, .int 2]] := by
  show [encQ _, encQ _, encQ _, encQ (mkRat 1 2), encQ (mkRat 3 2)] = _
  rw [enc_pair (by decide) (by decide), enc_pair (by decide) (by decide)]
  rfl
theorem pyL_enc : pyL.map encQ = [.tuple [.int 0, .int 1], .tuple [.int 0, .int 1], .tuple [.int 1, .int 1], .tuple [.int (-1), .int 2]] := by
  show [encQ _, encQ _, encQ _, encQ (mkRat (-1) 2)] = _
  rw [enc_pair (by decide) (by decide)]
  rfl
theorem stL_enc : stL.map encQ = [.tuple [.int 0, .int 1], .tuple [.int 0, .int 1], .tuple [.int 1, .int 1]] := rfl
/-! bounds -/
def Lq : Nat := 6 * lcmS
def Lp (v : Nat) : Nat := 6 * Lq ^ (11 - v)
def Bp (v : Nat) : Nat := 400000 * 64 ^ (11 - v)
theorem Lq_pos : 0 < Lq := by decide
theorem Lp_pos (v : Nat) : 0 < Lp v := Nat.mul_pos (by decide) (Nat.pow_pos Lq_pos)
theorem Lp_dvd {u v : Nat} (h : u ≤ v) : Lp v ∣ Lp u := Nat.mul_dvd_mul_left 6 (Nat.pow_dvd_pow Lq (by omega))
theorem Bp_le {u v : Nat} (h : u ≤ v) : Bp v ≤ Bp u := Nat.mul_le_mul_left _ (Nat.pow_le_pow_right (by decide) (by omega))
theorem Bp_ge (v : Nat) : 400000 ≤ Bp v := Nat.le_mul_of_pos_right _ (Nat.pow_pos (by decide))
theorem six_dvd (v : Nat) : 6 ∣ Lp v := Nat.dvd_mul_right _ _
theorem Lp_succ {v : Nat} (h : v ≤ 10) : Lp v = Lp (v + 1) * Lq := by
  unfold Lp
  rw [show 11 - v = (11 - (v + 1)) + 1 by omega, Nat.pow_succ, Nat.mul_assoc]
theorem Bp_succ {v : Nat} (h : v ≤ 10) : Bp v = Bp (v + 1) * 64 := by
  unfold Bp
  rw [show 11 - v = (11 - (v + 1)) + 1 by omega, Nat.pow_succ, Nat.mul_assoc]
theorem tin0 : Tin (Lp 0) (Bp 0) := ⟨Lp_pos 0, by decide +kernel, by decide +kernel⟩
theorem bd_up {L B : Nat} {q : Rat} (h : Bd L B q) (h1 : L ∣ 6) (h2 : B ≤ 400000) (v : Nat) : Bd (Lp v) (Bp v) q := h.mono (Nat.dvd_trans h1 (six_dvd v)) (Lp_pos v) (Nat.le_trans h2 (Bp_ge v))
theorem bd_down {v : Nat} {q : Rat} (h : Bd (Lp v) (Bp v) q) : Bd (Lp 0) (Bp 0) q := h.mono (Lp_dvd (Nat.zero_le _)) (Lp_pos 0) (Bp_le (Nat.zero_le _))
theorem bd_frac {n : Int} {d M : Nat} (hd : 0 < d) (h : n.natAbs ≤ M * d) : Bd d M (mkRat n d) := ⟨hd, n, rfl, h⟩
theorem amt_bd (S : Strm) : Bd 6 400000 (amtQ S) := by
  unfold amtQ
  by_cases h : drawV S 4 = 0
  · rw [if_pos h]; exact Bd.zero (by decide)
  · rw [if_neg h]
    have hv := drawV_lt (drawS S 4) (show 0 < 9 by decide)
    have hn : (amtN S).natAbs ≤ 400000 := by
      unfold amtN
      dsimp only
      split <;> omega
    have hd : amtD S = 1 ∨ amtD S = 2 ∨ amtD S = 3 := by
      have hall : ∀ k, k < 5 → ([1, 1, 1, 2, 3].getD k 1 = 1 ∨ [1, 1, 1, 2, 3].getD k 1 = 2 ∨ [1, 1, 1, 2, 3].getD k 1 = 3) := by decide
      exact hall _ (drawV_lt _ (by decide))
    rw [Rat.divInt_ofNat]
    rcases hd with hd | hd | hd <;> rw [hd]
    · exact (bd_frac (by decide) (by omega)).mono (by decide) (by decide) (Nat.le_refl _)
    · exact (bd_frac (by decide) (by omega)).mono (by decide) (by decide) (Nat.le_refl _)
    · exact (bd_frac (by decide) (by omega)).mono (by decide) (by decide) (Nat.le_refl _)
theorem smal_bd (S : Strm) : Bd 6 400000 (smal S) := by
  have hv := drawV_lt S (show 0 < 9 by decide)
  unfold smal
  exact (Bd.int _).mono (by decide) (by decide) (by omega)
theorem payo_bd {q : Rat} (h : q ∈ pyL) : Bd 6 1 q := by
  unfold pyL at h
  simp only [List.mem_cons, List.not_mem_nil, or_false] at h
  rcases h with rfl | rfl | rfl | rfl
  · exact Bd.zero (by decide)
  · exact Bd.zero (by decide)
  · exact bd_one (by decide) (by decide)
  · exact (bd_frac (d := 2) (M := 1) (by decide) (by decide)).mono (by decide) (by decide) (by decide)
theorem step_bd {q : Rat} (h : q ∈ stL) : Bd 6 1 q := by
  unfold stL at h
  simp only [List.mem_cons, List.not_mem_nil, or_false] at h
  rcases h with rfl | rfl | rfl
  · exact Bd.zero (by decide)
  · exact Bd.zero (by decide)
  · exact bd_one (by decide) (by decide)
theorem grow_bd {q : Rat} (h : q ∈ grL) : Bd 6 2 q := by
  unfold grL at h
  simp only [List.mem_cons, List.not_mem_nil, or_false] at h
  rcases h with rfl | rfl | rfl | rfl | rfl
  · exact bd_one (by decide) (by decide)
  · exact bd_one (by decide) (by decide)
  · exact (Bd.int 2).mono (by decide) (by decide) (by decide)
  · exact (bd_frac (d := 2) (M := 1) (by decide) (by decide)).mono (by decide) (by decide) (by decide)
  · exact (bd_frac (d := 2) (M := 2) (by decide) (by decide)).mono (by decide) (by decide) (by decide)
/-- one through the growth -/
theorem grow_inv {q : Rat} (h : q ∈ grL) : ∃ g : Rat, PyData.tuple [.int (q.den : Int), .int q.num] = encQ g ∧ Bd 6 2 g := by
  unfold grL at h
  simp only [List.mem_cons, List.not_mem_nil, or_false] at h
  rcases h with rfl | rfl | rfl | rfl | rfl
  · exact ⟨1, rfl, bd_one (by decide) (by decide)⟩
  · exact ⟨1, rfl, bd_one (by decide) (by decide)⟩
  · refine ⟨mkRat 1 2, ?_, (bd_frac (d := 2) (M := 1) (by decide) (by decide)).mono (by decide) (by decide) (by decide)⟩
    rw [enc_pair (by decide) (by decide)]; rfl
  · refine ⟨2, ?_, (Bd.int 2).mono (by decide) (by decide) (by decide)⟩
    have := enc_pair (n := 1) (d := 2) (by decide) (by decide)
    unfold encQ at this
    injection this with this
    injection this with h1 this
    injection this with h2 _
    rw [h1, h2]; rfl
  · refine ⟨mkRat 2 3, ?_, (bd_frac (d := 3) (M := 2) (by decide) (by decide)).mono (by decide) (by decide) (by decide)⟩
    rw [enc_pair (by decide) (by decide)]
    have := enc_pair (n := 3) (d := 2) (by decide) (by decide)
    unfold encQ at this
    injection this with this
    injection this with h1 this
    injection this with h2 _
    rw [h1, h2]; rfl
/-- the fair price at a node -/
theorem fair_bd {v : Nat} {mean g : Rat} (hv : v ≤ 10) (h : Bd (lcmS * Lp (v + 1)) (11 * (Bp (v + 1) + 1) + 2) mean) (hg : Bd 6 2 g) : Bd (Lp v) (Bp v) (mean * g) := by
  have h1 := h.mul hg
  have e : lcmS * Lp (v + 1) * 6 = Lp v := by
    rw [Lp_succ hv]
    unfold Lq
    rw [Nat.mul_comm lcmS (Lp (v + 1)), Nat.mul_assoc, Nat.mul_comm lcmS 6]
  rw [e] at h1
  refine h1.mono (Nat.dvd_refl _) (Lp_pos v) ?_
  rw [Bp_succ hv]
  have := Bp_ge (v + 1)
  omega
theorem mean_bd {v : Nat} {sh la : List Rat} (hs : Bds lcmS 1 sh) (hl : Bds (Lp (v + 1)) (Bp (v + 1) + 1) la) : Bds (lcmS * Lp (v + 1)) (Bp (v + 1) + 1) (List.zipWith (· * ·) sh la) := fun q hq => by
  rw [zw_map] at hq
  obtain ⟨p, hp, rfl⟩ := List.mem_map.mp hq
  have := List.of_mem_zip hp
  have h := (hs _ this.1).mul (hl _ this.2)
  rw [Nat.one_mul] at h
  exact h
theorem Lp_lt (v : Nat) : Lp v < 2 ^ 600 := Nat.lt_of_le_of_lt (Nat.le_of_dvd (Lp_pos 0) (Lp_dvd (Nat.zero_le v))) tin0.l
theorem Bp_lt (v : Nat) : Bp v < 2 ^ 600 := Nat.lt_of_le_of_lt (Bp_le (Nat.zero_le v)) tin0.b
theorem L1_lt (v : Nat) : lcmS * Lp v < 2 ^ 700 := lt_mul (show lcmS < 2 ^ 48 by decide) (Lp_lt v) (by decide)
theorem mean_sm {v M : Nat} {q : Rat} (h : Bd (lcmS * Lp v) M q) (hM : M < 2 ^ 700) : Sm q := h.sm (Nat.lt_of_lt_of_le (L1_lt v) (pow_le (by decide))) (lt_mul hM (L1_lt v) (by decide))
theorem row_smp {v : Nat} {q : Rat} (h : Bd (Lp v) (Bp v) q) : Sm q := tin0.sm (bd_down h)
theorem six_sm {B : Nat} {q : Rat} (h : Bd 6 B q) (hB : B ≤ 400000) : Sm q := row_smp (bd_up h (Nat.dvd_refl _) hB 0)
theorem later_bd {v k : Nat} {a b : Rat} (hk : v < k) (ha : Bd (Lp k) (Bp k) a) (hb : Bd 6 1 b) : Bd (Lp (v + 1)) (Bp (v + 1) + 1) (a + b) :=
  (ha.mono (Lp_dvd hk) (Lp_pos _) (Bp_le hk)).add (hb.mono (six_dvd _) (Lp_pos _) (Nat.le_refl _))
theorem later_sm {v : Nat} {q : Rat} (h : Bd (Lp v) (Bp v + 1) q) : Sm q := h.sm (Nat.lt_of_lt_of_le (Lp_lt v) (pow_le (by decide))) (lt_mul (show Bp v + 1 < 2 ^ 601 from lt_add (Bp_lt v) (Nat.one_lt_two_pow (by decide)) (by decide)) (Lp_lt v) (by decide))
theorem M_lt (v : Nat) : 11 * (Bp v + 1) + 2 < 2 ^ 700 := by
  have h1 : 16 * Bp v < 2 ^ 700 := lt_mul (x := 5) (show 16 < 2 ^ 5 by decide) (Bp_lt v) (by decide)
  have h2 := Bp_ge v
  omega
end M

set_option Elab.async false
set_option linter.all false
set_option maxRecDepth 100000
set_option maxHeartbeats 2000000
set_option exponentiation.threshold 20000
namespace G
open PySem PySem.Spec PyProof.Rows L2
theorem W.frz_self {k : Nat} {d : PyData} : W.frz k d (.m k) = .d d := by
  show (if k = k then W.d d else .m k) = _
  rw [if_pos rfl]
theorem W.frz_ne {k j : Nat} {d : PyData} (h : j ≠ k) : W.frz k d (.m j) = .m j := by
  show (if j = k then W.d d else .m j) = _
  rw [if_neg h]
theorem MO.frz_d {k : Nat} {d : PyData} (xs : List PyData) : MO.frz k d (.lst (xs.map W.d)) = .lst (xs.map W.d) := by
  show MO.lst ((xs.map W.d).map (W.frz k d)) = _
  rw [List.map_map]
  rfl
end G
namespace K
open PySem PySem.Spec PyProof.Rows L2 G M
def rowM (r : List Rat) : MO := .lst ((r.map encQ).map G.W.d)
/-- rows frozen, one behind another -/
theorem wp_frzRows {X : Cx} {rest : List Stmt} {P : Post} {n b : Nat} {rows : List (List Rat)} {m0 m1 : List PyData} (hb : 0 < b) (hn : rows.length = n) (Q : List G.W → Prop) (hQ : ∀ k d rho, k < n → Q rho → Q (rho.map (W.frz (b + k) d)))
    (h : ∀ rho o, Q rho → o[0]? = some (.lst (m0.map G.W.d)) → o[b + n]? = some (.lst ((rows.map encL).map G.W.d)) → o[b + n + 1]? = some (.lst (m1.map G.W.d)) → Wp X rest rho o P) :
    ∀ (t k : Nat) (rho : List G.W) (o : List MO), t = n - k → k ≤ n → Q rho → o[0]? = some (.lst (m0.map G.W.d)) → (∀ j r, k ≤ j → rows[j]? = some r → o[b + j]? = some (rowM r)) →
      o[b + n]? = some (.lst ((List.range n).map fun j => if j < k then G.W.d (encL (rows.getD j [])) else G.W.m (b + j))) → o[b + n + 1]? = some (.lst (m1.map G.W.d)) → Wp X rest rho o P
  | 0, k, rho, o, ht, hk, q, h0, h1, h2, h3 => by
    obtain rfl : k = n := by omega
    refine h rho o q h0 ?_ h3
    rw [h2, List.map_map]
    congr 2
    apply List.ext_getElem?
    intro j
    rw [List.getElem?_map, List.getElem?_map]
    by_cases hj : j < k
    · rw [List.getElem?_range hj, List.getElem?_eq_getElem (show j < rows.length by omega), Option.map_some, Option.map_some, if_pos hj, List.getD_eq_getElem?_getD, List.getElem?_eq_getElem (show j < rows.length by omega)]
      rfl
    · rw [List.getElem?_eq_none (by simpa using hj), List.getElem?_eq_none (by omega)]
      rfl
  | t + 1, k, rho, o, ht, hk, q, h0, h1, h2, h3 => by
    have hkn : k < n := by omega
    obtain ⟨r, hr⟩ : ∃ r, rows[k]? = some r := ⟨_, List.getElem?_eq_getElem (by omega)⟩
    have hrd : rows.getD k [] = r := by rw [List.getD_eq_getElem?_getD, hr]; rfl
    refine wp_frz (b + k) (ds := r.map encQ) (h1 k r (Nat.le_refl _) hr) ?_
    refine wp_frzRows hb hn Q hQ h t (k + 1) _ _ (by omega) hkn (hQ k _ rho hkn q) ?_ (fun j r' hj hr' => ?_) ?_ ?_
    · rw [List.getElem?_set_ne (by omega), List.getElem?_map, h0, Option.map_some, MO.frz_d]
    · rw [List.getElem?_set_ne (by omega), List.getElem?_map, h1 j r' (by omega) hr', Option.map_some]
      unfold rowM
      rw [MO.frz_d]
    · rw [List.getElem?_set_ne (by omega), List.getElem?_map, h2, Option.map_some]
      show some (MO.lst (List.map (W.frz (b + k) _) (List.map _ (List.range n)))) = _
      rw [List.map_map]
      congr 2
      apply List.map_congr_left
      intro j hj
      show W.frz (b + k) _ (if j < k then _ else _) = _
      by_cases h4 : j < k
      · rw [if_pos h4, if_pos (by omega)]
        rfl
      · rw [if_neg h4]
        by_cases h5 : j = k
        · subst h5
          rw [if_pos (by omega), W.frz_self, hrd]
          rfl
        · rw [if_neg (by omega), W.frz_ne (by omega)]
    · rw [List.getElem?_set_ne (by omega), List.getElem?_map, h3, Option.map_some, MO.frz_d]
theorem kids_under {m : Mkt} {ps : List Int} (h : m.nodes.length = ps.length) (hp : ∀ v, v < ps.length → (m.at v).parent = ps.getD v 0) (v : Nat) : kids m v = ((List.range ps.length).filter fun i => decide (ps.getD i 0 = (v : Int))) := by
  unfold kids Mkt.n
  rw [h]
  apply List.filter_congr
  intro i hi
  rw [hp i (List.mem_range.mp hi)]
/-- a node by its parts -/
def ndQ (ps : List Int) (gs : List Rat) (rl : List (List Str)) (rows py : List (List Rat)) (v : Nat) : Node := ⟨ps.getD v 0, gs.getD v 1, rl.getD v [], rows.getD v [], py.getD v [], []⟩
end K

set_option Elab.async false
set_option linter.all false
set_option maxRecDepth 100000
set_option maxHeartbeats 8000000
set_option exponentiation.threshold 20000
namespace G
open PySem PySem.Spec PyProof.Rows L2 M
section
variable {X : Cx} {rho : List W} {rest : List MO} {elt tg iter : Expr} {scope : Scope} {own : List (Str × Nat)} {ds : List W} {S : Strm}
theorem EvS.to {X : Cx} {e : Expr} {rho : List W} {om om1 om2 : List MO} {w w' : W} (h : EvS X e rho om w om1) (hw : w = w') (ho : om1 = om2) : EvS X e rho om w' om2 := by
  subst hw
  subst ho
  exact h
theorem lcd_stN (n : Nat) (f : Strm → PyData) (g : Strm → Strm) (st : Strm → MO) (hn : ds.length = n) (hc : X.calm = true) (hN : X.N.Nodup) (hi : ItS X tg iter rho (st S :: rest) ds (st S :: rest)) (ok : BlkOk X.N X.env.scope scope own) (hz : n ≤ 1000)
    (ht : ∀ (i : Nat) (w : W) (S : Strm), ds[i]? = some w → ∃ r1,
      (∀ (s : Shared) (H : Hp) (C : Addr) (cl : List (Str × Addr)) (fp : List Addr), TgC (X.blk s H scope (compEnvC scope cl C X.env) fp) (own.map (·.2)) tg w (wipeW rho (own.map (·.2))) r1) ∧
      (∀ (s : Shared) (H : Hp) (C : Addr) (cl : List (Str × Addr)) (fp : List Addr), EvS (X.blk s H scope (compEnvC scope cl C X.env) fp) elt r1 (st S :: rest) (.d (f S)) (st (g S) :: rest)))
    (hs : ∀ x, foldedSetIterable iter X.env x = pure x := by intro _; rfl) : LcD X elt tg iter [] scope own rho (st S :: rest) ((itV f g n S).map W.d) (st (itS g n S) :: rest) := by
  subst hn
  exact lcd_st f g st hc hN hi ok (by rw [sizeLine_eq]; omega) ht hs
theorem lcp_rowsN (n : Nat) (f : Strm → List W) (g : Strm → Strm) (st : Strm → MO) (hn : ds.length = n) (hc : X.calm = true) (hN : X.N.Nodup) (hi : ItS X tg iter rho (st S :: rest) ds (st S :: rest)) (ok : BlkOk X.N X.env.scope scope own) (hz : n ≤ 1000)
    (ht : ∀ (i : Nat) (w : W) (S : Strm) (rest : List MO), ds[i]? = some w → ∃ r1,
      (∀ (s : Shared) (H : Hp) (C : Addr) (cl : List (Str × Addr)) (fp : List Addr), TgC (X.blk s H scope (compEnvC scope cl C X.env) fp) (own.map (·.2)) tg w (wipeW rho (own.map (·.2))) r1) ∧
      (∀ (s : Shared) (H : Hp) (C : Addr) (cl : List (Str × Addr)) (fp : List Addr), EvN (X.blk s H scope (compEnvC scope cl C X.env) fp) elt r1 (st S :: rest) (f S) (st (g S) :: rest)))
    (hs : ∀ x, foldedSetIterable iter X.env x = pure x := by intro _; rfl) : LcD X elt tg iter [] scope own rho (st S :: rest) ((List.range n).map fun j => W.m (1 + rest.length + j)) (st (itS g n S) :: (rest ++ (itV f g n S).map MO.lst)) := by
  subst hn
  exact lcp_rows f g st hc hN hi ok (by rw [sizeLine_eq]; omega) ht hs
end
end G
namespace K
open PySem PySem.Spec PyProof.Rows L2 G M
section
variable {P : Program} {w : World} {K : PySem.W.Frag} {mg : Str → Option Value} {base : Heap}
def shW (sh : List (List Rat)) : MO := .lst ((sh.map encL).map G.W.d)
def ruW (rl : List (List Str)) : MO := .lst ((rl.map encS).map G.W.d)
theorem encL_itV (f : Strm → Rat) (g : Strm → Strm) (n : Nat) (S : Strm) : PyData.list (itV (fun S => encQ (f S)) g n S) = encL (itV f g n S) := by
  unfold encL
  rw [itV_map]
theorem encS_itV (f : Strm → Str) (g : Strm → Strm) (n : Nat) (S : Strm) : PyData.list (itV (fun S => PyData.str (f S)) g n S) = encS (itV f g n S) := by
  unfold encS
  rw [itV_map]
theorem ruW_app (rl : List (List Str)) (r : List Str) : MO.lst ((rl.map encS).map G.W.d ++ [.d (encS r)]) = ruW (rl ++ [r]) := by
  unfold ruW
  rw [List.map_append, List.map_append]
  rfl
def ouW (b n : Nat) : MO := .lst ((List.range n).map fun j => G.W.m (b + j))
structure Sto (n : Nat) (o : List MO) (S : Strm) (b : Nat) (rows sh : List (List Rat)) : Prop where
  b0 : 0 < b
  st : o[0]? = some (stW S)
  rl : rows.length = n
  row : ∀ j r, rows[j]? = some r → o[b + j]? = some (rowW r)
  ou : o[b + n]? = some (ouW b n)
  hs : o[b + n + 1]? = some (shW sh)
  sl : sh.length = n
theorem lt_of {α : Type} {l : List α} {k : Nat} {x : α} (h : l[k]? = some x) : k < l.length := (List.getElem?_eq_some_iff.mp h).1
section
variable {n b : Nat} {o : List MO} {S S' : Strm} {rows sh : List (List Rat)}
theorem Sto.draw (t : Sto n o S b rows sh) : Sto n (o.set 0 (stW S')) S' b rows sh where
  b0 := t.b0
  st := List.getElem?_set_self (lt_of t.st)
  rl := t.rl
  row := fun j r h => by rw [List.getElem?_set_ne (by have := t.b0; omega)]; exact t.row j r h
  ou := by rw [List.getElem?_set_ne (by have := t.b0; omega)]; exact t.ou
  hs := by rw [List.getElem?_set_ne (by omega)]; exact t.hs
  sl := t.sl
theorem Sto.put {v : Nat} {r : List Rat} (t : Sto n o S b rows sh) (hv : v < n) : Sto n (o.set (b + v) (rowW r)) S b (rows.set v r) sh where
  b0 := t.b0
  st := by rw [List.getElem?_set_ne (by have := t.b0; omega)]; exact t.st
  rl := by rw [List.length_set]; exact t.rl
  row := fun j r' h => by
    have hl := lt_of (t.row v _ (List.getElem?_eq_getElem (by rw [t.rl]; exact hv)))
    by_cases e : v = j
    · subst e
      rw [List.getElem?_set_self (by rw [t.rl]; exact hv)] at h
      cases h
      exact List.getElem?_set_self hl
    · rw [List.getElem?_set_ne e] at h
      rw [List.getElem?_set_ne (by omega)]
      exact t.row j r' h
  ou := by rw [List.getElem?_set_ne (by omega)]; exact t.ou
  hs := by rw [List.getElem?_set_ne (by omega)]; exact t.hs
  sl := t.sl
theorem Sto.share {v : Nat} {r : List Rat} (t : Sto n o S b rows sh) (hv : v < n) : Sto n (o.set (b + n + 1) (shW (sh.set v r))) S b rows (sh.set v r) where
  b0 := t.b0
  st := by rw [List.getElem?_set_ne (by omega)]; exact t.st
  rl := t.rl
  row := fun j r h => by
    have := lt_of h
    rw [t.rl] at this
    rw [List.getElem?_set_ne (by omega)]; exact t.row j r h
  ou := by rw [List.getElem?_set_ne (by omega)]; exact t.ou
  hs := List.getElem?_set_self (lt_of t.hs)
  sl := by rw [List.length_set]; exact t.sl
end
theorem sto0 {n : Nat} {S : Strm} {rest : List MO} {rows sh : List (List Rat)} (h1 : rows.length = n) (h2 : sh.length = n) : Sto n (stW S :: ((rest ++ rows.map rowW) ++ [ouW (1 + rest.length) n]) ++ [shW sh]) S (1 + rest.length) rows sh where
  b0 := by omega
  st := rfl
  rl := h1
  row := fun j r h => by
    have hj := lt_of h
    rw [List.cons_append, show 1 + rest.length + j = (rest.length + j) + 1 by omega, List.getElem?_cons_succ, List.append_assoc, List.append_assoc, List.getElem?_append_right (by omega), List.getElem?_append_left (by rw [List.length_map]; omega),
      show rest.length + j - rest.length = j by omega, List.getElem?_map, h]
    rfl
  ou := by
    rw [List.cons_append, show 1 + rest.length + n = (rest.length + n) + 1 by omega, List.getElem?_cons_succ, List.append_assoc, List.append_assoc, List.getElem?_append_right (by omega), List.getElem?_append_right (by rw [List.length_map]; omega),
      show rest.length + n - rest.length - (rows.map rowW).length = 0 by rw [List.length_map]; omega]
    rfl
  hs := by
    rw [List.cons_append, show 1 + rest.length + n + 1 = (rest.length + n + 1) + 1 by omega, List.getElem?_cons_succ, List.append_assoc, List.append_assoc, List.getElem?_append_right (by omega), List.getElem?_append_right (by rw [List.length_map]; omega),
      show rest.length + n + 1 - rest.length - (rows.map rowW).length = 1 by rw [List.length_map]; omega]
    rfl
  sl := h2
theorem shW_nil {α : Type} (n : Nat) (xs : List α) (h : xs.length = n) : MO.lst ((xs.map fun _ => PyData.list []).map G.W.d) = shW (List.replicate n []) := by
  subst h
  unfold shW
  rw [List.map_map, List.map_map]
  congr 1
  induction xs with
  | nil => rfl
  | cons x xs ih => rw [List.length_cons, List.replicate_succ, List.map_cons, List.map_cons, ih]; rfl
theorem atD {α : Type} {xs : List α} {f : α → PyData} {v : Nat} (d : α) (h : v < xs.length) : atI ((xs.map f).map G.W.d) (v : Int) = some (.d (f (xs.getD v d))) := atI_map (f := G.W.d) (pick d h)
theorem getD_some {α : Type} {xs : List α} {v : Nat} (d : α) (h : v < xs.length) : xs[v]? = some (xs.getD v d) := by
  rw [List.getD_eq_getElem?_getD, List.getElem?_eq_getElem h]; rfl
theorem shW_set (sh : List (List Rat)) (i : Nat) (r : List Rat) : MO.lst (((sh.map encL).map G.W.d).set i (.d (encL r))) = shW (sh.set i r) := by
  unfold shW
  rw [← List.map_set, ← List.map_set]
def RowsOk (a : Nat) (rows : List (List Rat)) : Prop := ∀ j r, rows[j]? = some r → r.length = a ∧ Bds (Lp j) (Bp j) r
theorem RowsOk.put {a v : Nat} {rows : List (List Rat)} {r : List Rat} (h : RowsOk a rows) (h1 : r.length = a) (h2 : Bds (Lp v) (Bp v) r) : RowsOk a (rows.set v r) := fun j r' e => by
  by_cases z : v = j
  · subst z
    have hl := lt_of e
    rw [List.length_set] at hl
    rw [List.getElem?_set_self hl] at e
    cases e
    exact ⟨h1, h2⟩
  · rw [List.getElem?_set_ne z] at e
    exact h j r' e
abbrev mkR (mo : Nat) (fr lg : Bool) (ps : List Int) (as : List Str) (gs : List Rat) (a7 a8 a9 a10 a11 a12 a13 a14 a15 a16 a17 a18 a19 a20 a21 : G.W) : List G.W :=
  [.m 0, .d (.int (mo : Nat)), .d (.bool fr), .d (.bool lg), .d (intL ps), .d (encS as), .d (encL gs), a7, a8, a9, a10, a11, a12, a13, a14, a15, a16, a17, a18, a19, a20, a21]
def scPr : Scope := { kind := .function, names := [(".0", .local), ("_law_node", .local), ("_law_assets", .free), ("_law_stream", .free)], isGenerator := false, isCoroutine := false }
theorem mkR_frz {mo : Nat} {fr lg : Bool} {ps : List Int} {as : List Str} {gs : List Rat} {a7 a8 a9 a10 a11 a12 a13 a14 a15 a16 a17 a18 a19 a20 a21 : G.W} {k : Nat} {d : PyData} (h : 0 ≠ k) :
    (mkR mo fr lg ps as gs a7 a8 a9 a10 a11 a12 a13 a14 a15 a16 a17 a18 a19 a20 a21).map (W.frz k d) = mkR mo fr lg ps as gs (W.frz k d a7) (W.frz k d a8) (W.frz k d a9) (W.frz k d a10) (W.frz k d a11) (W.frz k d a12) (W.frz k d a13) (W.frz k d a14) (W.frz k d a15) (W.frz k d a16) (W.frz k d a17) (W.frz k d a18) (W.frz k d a19) (W.frz k d a20) (W.frz k d a21) := by
  simp only [mkR, List.map_cons, List.map_nil]
  rw [W.frz_ne (k := k) (j := 0) h]
  rfl
theorem frz_at {o : List MO} {k j : Nat} {d : PyData} {xs : List PyData} (h : o[j]? = some (.lst (xs.map G.W.d))) (hj : k ≠ j) : ((o.map (MO.frz k d)).set k .dead)[j]? = some (.lst (xs.map G.W.d)) := by
  rw [List.getElem?_set_ne hj, List.getElem?_map, h, Option.map_some, MO.frz_d]
theorem last_at {o : List MO} {x : MO} : (o ++ [x])[o.length]? = some x := by simp
theorem last_set {o : List MO} {x y : MO} : (o ++ [x]).set o.length y = o ++ [y] := by simp
/-- what is known of a market made -/
structure Mk (m : Mkt) (sh : List (List Rat)) : Prop where
  wf : Wf (Lp 0) (Bp 0) m
  n11 : m.n ≤ 11
  gr : ∀ v, v < m.n → (m.at v).growth ∈ grL
  sl : sh.length = m.n
  sk : ∀ v, v < m.n → (sh.getD v []).length = (kids m v).length
  sb : ∀ v, v < m.n → Bds lcmS 1 (sh.getD v [])
  sn : m.seen = []
  an : ∀ x ∈ m.assets, x ∈ asL
  ru : ∀ v, v < m.n → ∀ x ∈ (m.at v).rules, x ∈ ruL
  va : ∀ v, v < m.n → (m.at v).values = []
def mkM (as : List Str) (ps : List Int) (gs : List Rat) (rl : List (List Str)) (rows py : List (List Rat)) : Mkt := ⟨as, [], (List.range ps.length).map (ndQ ps gs rl rows py)⟩
theorem mk_of {as : List Str} {ps : List Int} {gs : List Rat} {rl : List (List Str)} {rows py sh : List (List Rat)} (hps : Par ps) (ha4 : as.length ≤ 4) (has : ∀ x ∈ as, x ∈ asL) (hgl : gs.length = ps.length) (hgs : ∀ g ∈ gs, g ∈ grL)
    (hrl : rl.length = ps.length) (hra : ∀ x ∈ rl, x.length = as.length ∧ ∀ y ∈ x, y ∈ ruL) (hrw : rows.length = ps.length) (hro : RowsOk as.length rows) (hpl : py.length = ps.length) (hpa : ∀ x ∈ py, x.length = as.length ∧ ∀ q ∈ x, q ∈ pyL)
    (hsl : sh.length = ps.length) (hsh : ∀ v, v < ps.length → (sh.getD v []).length = (underQ ps v).length ∧ Bds lcmS 1 (sh.getD v [])) : Mk (mkM as ps gs rl rows py) sh := by
  have hn1 := hps.n1
  have hn11 := hps.n12
  have hat : ∀ v, v < ps.length → (mkM as ps gs rl rows py).at v = ndQ ps gs rl rows py v := fun v hv => by
    unfold Mkt.at mkM
    rw [List.getD_eq_getElem?_getD, List.getElem?_map, List.getElem?_range hv]
    rfl
  have hn : (mkM as ps gs rl rows py).n = ps.length := by
    unfold Mkt.n mkM
    simp
  have h1 : ∀ v, v < ps.length → rl.getD v [] ∈ rl := fun v hv => getD_in (by rw [hrl]; exact hv)
  have h2 : ∀ v, v < ps.length → py.getD v [] ∈ py := fun v hv => getD_in (by rw [hpl]; exact hv)
  have h3 : ∀ v, v < ps.length → rows[v]? = some (rows.getD v []) := fun v hv => getD_some [] (by rw [hrw]; exact hv)
  have h4 : ∀ v, v < ps.length → gs.getD v 1 ∈ gs := fun v hv => getD_in (by rw [hgl]; exact hv)
  have h5 : ∀ v, v < ps.length → ps[v]? = some (ps.getD v 0) := fun v hv => getD_some 0 hv
  have hp0 : ps.getD 0 0 = -1 := by
    rw [List.getD_eq_getElem?_getD, hps.p0]; rfl
  refine ⟨⟨tin0, by omega, by omega, ha4, fun v hv => ?_, ?_, fun v hv h0 => ?_, fun v hv => ?_, fun v hv => ?_, fun v hv => ?_, fun v hv => ?_, fun v hv => ?_, fun v hv => ?_⟩, by omega, fun v hv => ?_, by rw [hn]; exact hsl, fun v hv => ?_, fun v hv => ?_, rfl, has, fun v hv => ?_, fun v hv => ?_⟩
  all_goals try rw [hn] at hv
  all_goals try rw [hat v hv]
  · show ps.getD v 0 < _
    rcases Nat.eq_zero_or_pos v with z | z
    · subst z; rw [hp0]; decide
    · have := hps.par v _ z (h5 v hv); omega
  · rw [hat 0 (by omega)]
    exact hp0
  · exact (hps.par v _ h0 (h5 v hv)).1
  · exact (hra _ (h1 v hv)).1
  · exact (hro v _ (h3 v hv)).1
  · exact (hpa _ (h2 v hv)).1
  · exact bd_up (grow_bd (hgs _ (h4 v hv))) (Nat.dvd_refl _) (by decide) 0
  · intro q hq
    exact bd_down ((hro v _ (h3 v hv)).2 q hq)
  · intro q hq
    exact bd_up (payo_bd ((hpa _ (h2 v hv)).2 q hq)) (Nat.dvd_refl _) (by decide) 0
  · exact hgs _ (h4 v hv)
  · rw [kids_under hn (fun u hu => by rw [hat u hu]; rfl)]
    exact (hsh v hv).1
  · exact (hsh v hv).2
  · exact (hra _ (h1 v hv)).2
  · rfl
def pre_market (ss ds : List PyData) : Prop := ∃ (S : Strm) (mo : Nat) (fr : Bool), ss = S.enc ∧ ds = [.int (mo : Nat), .bool fr] ∧ 0 < mo ∧ mo ≤ 11
def R_market (ss ds : List PyData) (r : PyData) (ss' : List PyData) : Prop := ∃ (S : Strm) (m : Mkt) (sh : List (List Rat)), ss' = S.enc ∧ r = .tuple [M.encM m, .list (sh.map encL)] ∧ Mk m sh
theorem d_market (A : At K mg "_law_market" s_law_market ["_law_stream", "_law_most", "_law_free"]) (m_len : mg "len" = none) (m_range : mg "range" = none) (D : DfM P w K mg base 1 "_law_draw" 1 ph_draw) (Dt : DfMR P w K mg base 2 "_law_tree" 1 pre_tree R_tree) (Da : DfM P w K mg base 2 "_law_amount" 0 ph_amount)
    (Du : DfP P w K mg base 1 "_law_under" 2 ph_under) (Ds : DfMR P w K mg base 2 "_law_shares" 1 pre_shares R_shares) (Dp : DfP P w K mg base 2 "_law_plus" 2 ph_plus) (Dd : DfP P w K mg base 3 "_law_dot" 2 ph_ldot) (Dm : DfP P w K mg base 3 "_law_minus" 2 ph_minus) (Dx : DfP P w K mg base 2 "_law_times" 2 ph_times) : DfMR P w K mg base 4 "_law_market" 2 pre_market R_market := by
  obtain ⟨f, fd, F, hm, hb⟩ := A
  have nd := sc_law_market.nd
  refine dfMR F sc_law_market rfl hm hb (fun cdv A outer s H E ss ds hgd hr hl hp => ?_)
  obtain ⟨S0, mo, fr, rfl, rfl, h0, h1⟩ := hp
  refine wp_seq (fun r o => ∃ S lg, r = [.m 0, .d (.int mo), .d (.bool fr), .d (.bool lg), .un, .un, .un, .un, .un, .un, .un, .un, .un, .un, .un, .un, .un, .un, .un, .un, .un, .un] ∧ o = [stW S])
    (wp1_set 3 nd (ev_eqI (ev_callM1 D hgd hr (by decide) (ev_v 0 rfl) ev_int rfl ⟨S0, 16, rfl, rfl, by decide, by decide, rfl, rfl⟩) ev_int) ⟨_, _, rfl, rfl⟩) ?_
  rintro r o ⟨S, lg, rfl, rfl⟩
  refine wp_seq (fun r o => ∃ mo, 0 < mo ∧ mo ≤ 11 ∧ r = [.m 0, .d (.int (mo : Nat)), .d (.bool fr), .d (.bool lg), .un, .un, .un, .un, .un, .un, .un, .un, .un, .un, .un, .un, .un, .un, .un, .un, .un, .un] ∧ o = [stW S])
    (wp1_if (evt_b (ev_v 3 rfl)) (fun _ => wp_one (wp1_set 1 nd ev_int ⟨11, by decide, by decide, rfl, rfl⟩)) (fun _ => wp_nil ⟨mo, h0, h1, rfl, rfl⟩)) ?_
  rintro r o ⟨mo, h0, h1, rfl, rfl⟩
  refine wp_seq (fun r o => ∃ S ps, Par ps ∧ r = [.m 0, .d (.int (mo : Nat)), .d (.bool fr), .d (.bool lg), .d (intL ps), .un, .un, .un, .un, .un, .un, .un, .un, .un, .un, .un, .un, .un, .un, .un, .un, .un] ∧ o = [stW S])
    (wp1_setP 4 nd (ep_callM Dt hgd hr (by decide) (EvA.toP (ea_cons (ev_v 0 rfl) (ea_cons (ev_v 1 rfl) ea_nil)) ⟨0, S.enc, [.int mo], rfl, rfl, rfl, ⟨S, mo, rfl, rfl, h0, h1⟩, fun r ss' hR => by
      obtain ⟨S', ps, rfl, rfl, hp⟩ := hR
      exact ⟨S', ps, hp, rfl, rfl⟩⟩))) ?_
  clear S
  rintro r o ⟨S, ps, hps, rfl, rfl⟩
  refine wp_seq (fun r o => ∃ (S : Strm) (as : List Str), as.length ≤ 4 ∧ (∀ x ∈ as, x ∈ asL) ∧ r = [.m 0, .d (.int (mo : Nat)), .d (.bool fr), .d (.bool lg), .d (intL ps), .d (encS as), .un, .un, .un, .un, .un, .un, .un, .un, .un, .un, .un, .un, .un, .un, .un, .un] ∧ o = [stW S])
    (wp1_set 5 nd (EvN.d (en_slD (EvN.d (ds := asL.map PyData.str) (en_lst (ea_cons ev_str (ea_cons ev_str (ea_cons ev_str (ea_cons ev_str ea_nil)))) (szl (by decide)))) eo_none (eo_some (ev_ixL (EvN.d (ds := asN.map fun (k : Nat) => PyData.int (k : Int)) (en_lst (ea_cons ev_int (ea_cons ev_int (ea_cons ev_int (ea_cons ev_int (ea_cons ev_int (ea_cons ev_int (ea_cons ev_int (ea_cons ev_int ea_nil)))))))) (szl (by decide))))
      (ev_callM1 D hgd hr (by decide) (ev_v 0 rfl) ev_int rfl ⟨S, 8, rfl, rfl, by decide, by decide, rfl, rfl⟩) (pick 1 (drawV_lt S (show 0 < 8 by decide))))))) ⟨drawS S 8, asL.take (asN.getD (drawV S 8) 1), ?_, fun x hx => List.mem_of_mem_take hx, ?_, rfl⟩) ?_
  · rw [List.length_take]
    exact Nat.min_le_right _ _
  · have hall : ∀ k, k < 8 → cutA (asL.map PyData.str) none (some ((asN.getD k 1 : Nat) : Int)) = (asL.take (asN.getD k 1)).map PyData.str := by
      intro k hk
      match k, hk with
      | 0, _ => rfl
      | 1, _ => rfl
      | 2, _ => rfl
      | 3, _ => rfl
      | 4, _ => rfl
      | 5, _ => rfl
      | 6, _ => rfl
      | 7, _ => rfl
    rw [hall _ (drawV_lt S (show 0 < 8 by decide))]
    rfl
  clear S
  rintro r o ⟨S, as, ha4, has, rfl, rfl⟩
  have hn1 := hps.n1
  have hn11 := hps.n12
  have ndL : ((ps.map PyData.int).map G.W.d).length = ps.length := by rw [List.length_map, List.length_map]
  have naL : ((as.map PyData.str).map G.W.d).length = as.length := by rw [List.length_map, List.length_map]
  refine wp_seq (fun r o => ∃ (S : Strm) (gs : List Rat), gs.length = ps.length ∧ (∀ g ∈ gs, g ∈ grL) ∧ r = mkR mo fr lg ps as gs .un .un .un .un .un .un .un .un .un .un .un .un .un .un .un ∧ o = [stW S])
    (wp1_lcD 6 (lcd_stN (own := [("_law_node", 8)]) ps.length (fun S => encQ (grow S)) (dr 5) stW ndL rfl nd (it_list (ev_v 4 rfl)) (blkOk_by (N := N_law_market) (sc := defScope s_law_market) (by decide +kernel)) (by omega)
      ?_)
      ⟨itS (dr 5) ps.length S, itV grow (dr 5) ps.length S, itV_len _ _ _ _, fun g hg => by obtain ⟨S', rfl⟩ := itV_mem hg; exact grow_in S', by rw [encL_itV]; rfl, rfl⟩) ?_
  · intro i w S hw
    refine ⟨_, fun s H C cl fp => tc_name 8 (by decide) nd, fun s H C cl fp => ?_⟩
    exact EvS.to (ev_ixL (x := encQ (grow S)) (EvN.d (ds := [_, _, _, _, _]) (en_lst (ea_cons (ev_t2 ev_int ev_int) (ea_cons (ev_t2 ev_int ev_int) (ea_cons (ev_t2 ev_int ev_int) (ea_cons (ev_t2 ev_int ev_int) (ea_cons (ev_t2 ev_int ev_int) ea_nil)))))))
        (ev_callM1 D hgd hr (by decide) (ev_v 0 rfl) ev_int rfl ⟨S, 5, rfl, rfl, by decide, by decide, rfl, rfl⟩) (by rw [← grL_enc]; exact pick 1 (drawV_lt S (show 0 < 5 by decide)))) rfl rfl
  clear S
  rintro r o ⟨S, gs, hgl, hgs, rfl, rfl⟩
  refine wp_seq (fun r o => r = mkR mo fr lg ps as gs (.m 1) .un .un .un .un .un .un .un .un .un .un .un .un .un .un ∧ o = [stW S, ruW []]) (wp1_set 7 nd (EvN.m (en_lst ea_nil)) ⟨rfl, rfl⟩) ?_
  rintro r o ⟨rfl, rfl⟩
  refine wp_seq (fun r o => ∃ (S : Strm) (rl : List (List Str)) (u8 : G.W), rl.length = ps.length ∧ (∀ x ∈ rl, x.length = as.length ∧ ∀ y ∈ x, y ∈ ruL) ∧ r = mkR mo fr lg ps as gs (.m 1) u8 .un .un .un .un .un .un .un .un .un .un .un .un .un ∧ o = [stW S, ruW rl])
    (wp1_for PassesOwn.never rfl (it_list (ev_v 4 rfl)) (fun i r o => ∃ (S : Strm) (rl : List (List Str)) (u8 : G.W), rl.length = i ∧ (∀ x ∈ rl, x.length = as.length ∧ ∀ y ∈ x, y ∈ ruL) ∧ r = mkR mo fr lg ps as gs (.m 1) u8 .un .un .un .un .un .un .un .un .un .un .un .un .un ∧ o = [stW S, ruW rl])
      ⟨S, [], _, rfl, (fun x hx => by cases hx), rfl, rfl⟩ (fun i w r o hw hI => ?_) (fun r o hI => by rw [ndL] at hI; exact hI)) ?_
  · obtain ⟨S1, rl, u8, hrl, hra, rfl, rfl⟩ := hI
    have hi := lt_of hw
    rw [ndL] at hi
    refine ⟨_, tg_name 8 nd, wp_one (wp1_expr (ev_append (ev_v 7 rfl) (ea_cons (EvN.d (ds := itV (fun S => PyData.str (rule S)) (dr 6) as.length S1) (en_lc (lcd_stN (own := [("_law_asset", 14)]) as.length (fun S => PyData.str (rule S)) (dr 6) stW naL rfl nd (it_list (ev_v 5 rfl)) (blkOk_by (N := N_law_market) (sc := defScope s_law_market) (by decide +kernel)) (by omega) ?_))) ea_nil) rfl ⟨_, rfl⟩ ?_)
      ⟨itS (dr 6) as.length S1, rl ++ [ruRow as.length S1], _, ?_, ?_, rfl, ?_⟩)⟩
    · intro i w S hw
      refine ⟨_, fun s H C cl fp => tc_name 14 (by decide) nd, fun s H C cl fp => ?_⟩
      exact EvS.to (ev_ixL (EvN.d (ds := ruL.map PyData.str) (en_lst (ea_cons ev_str (ea_cons ev_str (ea_cons ev_str (ea_cons ev_str (ea_cons ev_str (ea_cons ev_str ea_nil)))))) (szl (by decide))))
        (ev_callM1 D hgd hr (by decide) (ev_v 0 rfl) ev_int rfl ⟨S, 6, rfl, rfl, by decide, by decide, rfl, rfl⟩) (pick (xs := ruL) (f := PyData.str) "any" (drawV_lt S (show 0 < 6 by decide)))) rfl rfl
    · rw [List.length_map, List.length_map, hrl, sizeLine_eq]; omega
    · rw [List.length_append, hrl]; rfl
    · intro x hx
      rcases List.mem_append.mp hx with z | z
      · exact hra x z
      · rw [List.mem_singleton] at z
        subst z
        exact ⟨itV_len _ _ _ _, fun y hy => by obtain ⟨S', rfl⟩ := itV_mem hy; exact rule_in S'⟩
    · rw [encS_itV, ← ruW_app]
      rfl
  clear S
  rintro r o ⟨S, rl, u8, hrl, hra, rfl, rfl⟩
  refine wp_frz 1 (ds := rl.map encS) rfl ?_
  show Wp _ _ (mkR mo fr lg ps as gs (.d (.list (rl.map encS))) (W.frz 1 (.list (rl.map encS)) u8) .un .un .un .un .un .un .un .un .un .un .un .un .un) [stW S, .dead] _
  generalize W.frz 1 (.list (rl.map encS)) u8 = v8
  refine wp_seq (fun r o => ∃ (S : Strm) (rest : List MO) (rows : List (List Rat)) (kp : Nat), kp = 1 + rest.length + ps.length ∧ rows.length = ps.length ∧ RowsOk as.length rows ∧ r = mkR mo fr lg ps as gs (.d (.list (rl.map encS))) v8 (.m kp) .un .un .un .un .un .un .un .un .un .un .un .un ∧ o = stW S :: (rest ++ rows.map rowW) ++ [ouW (1 + rest.length) ps.length])
    (wp1_setP (om := [stW S, .dead]) 9 nd (ep_lcM (own := [("_law_node", 8)]) (lcp_rowsN (S := S) (rest := [.dead]) ps.length (fun S => (itV (fun S => encQ (amtQ S)) amtS as.length S).map G.W.d) (itS amtS as.length) stW ndL rfl nd (it_list (ev_v 4 rfl)) (blkOk_by (N := N_law_market) (sc := defScope s_law_market) (by decide +kernel)) (by omega) ?_) (fun acc o hJ => ?_))) ?_
  · intro i w S rest hw
    refine ⟨_, fun s H C cl fp => tc_name 8 (by decide) nd, fun s H C cl fp => en_lc (lcd_stN (own := [("_law_asset", 14)]) as.length (fun S => encQ (amtQ S)) amtS stW naL rfl nd (it_list (ev_v 5 rfl)) (blkOk_by (N := N_law_market) (sc := relS scPr (defScope s_law_market)) (by decide +kernel)) (by omega) ?_)⟩
    intro i w S hw
    refine ⟨_, fun s H C cl fp => tc_name 14 (by decide) nd, fun s H C cl fp => ?_⟩
    exact EvS.to (ev_callM0 Da hgd hr (by decide) (ev_v 0 rfl) rfl ⟨S, rfl, rfl, rfl, rfl⟩) rfl rfl
  · obtain ⟨rfl, rfl⟩ := hJ
    refine ⟨itS (itS amtS as.length) ps.length S, [.dead], itV (amRow as.length) (itS amtS as.length) ps.length S, _, ?_, itV_len _ _ _ _, fun j r hr => ?_, rfl, ?_⟩
    · simp only [List.length_cons, List.length_append, List.length_map, itV_len, List.length_nil]; omega
    · obtain ⟨S', rfl⟩ := itV_mem (List.mem_of_getElem? hr)
      exact ⟨itV_len _ _ _ _, fun q hq => by
        obtain ⟨S2, rfl⟩ := itV_mem hq
        exact bd_up (amt_bd S2) (Nat.dvd_refl _) (Nat.le_refl _) j⟩
    · rw [itV_map, itV_map]
      show _ = stW _ :: ([MO.dead] ++ itV _ _ _ _) ++ [_]
      simp only [rowW, amRow, itV_map]
      rfl
  rintro r o ⟨S, rest, rows, kp, hkp, hrw, hro, rfl, rfl⟩
  refine wp_seq (fun r o => ∃ (S : Strm) (rest : List MO) (rows : List (List Rat)) (kp : Nat), kp = 1 + rest.length + ps.length ∧ rows.length = ps.length ∧ RowsOk as.length rows ∧ r = mkR mo fr lg ps as gs (.d (.list (rl.map encS))) v8 (.m kp) .un .un .un .un .un .un .un .un .un .un .un .un ∧ o = stW S :: (rest ++ rows.map rowW) ++ [ouW (1 + rest.length) ps.length])
    (wp1_if (evt_b (ev_v 3 rfl)) (fun _ => wp_one (wp1_setP 9 nd (ep_lcM (own := [("_law_node", 8)]) (lcp_rowsN (S := S) (rest := (rest ++ rows.map rowW) ++ [ouW (1 + rest.length) ps.length]) ps.length (fun S => (itV (fun S => encQ (smal S)) (dr 9) as.length S).map G.W.d) (itS (dr 9) as.length) stW ndL rfl nd (it_list (ev_v 4 rfl)) (blkOk_by (N := N_law_market) (sc := defScope s_law_market) (by decide +kernel)) (by omega) ?_) (fun acc o hJ => ?_)))) (fun _ => wp_nil ⟨S, rest, rows, kp, hkp, hrw, hro, rfl, rfl⟩)) ?_
  · intro i w S rest hw
    refine ⟨_, fun s H C cl fp => tc_name 8 (by decide) nd, fun s H C cl fp => en_lc (lcd_stN (own := [("_law_asset", 14)]) as.length (fun S => encQ (smal S)) (dr 9) stW naL rfl nd (it_list (ev_v 5 rfl)) (blkOk_by (N := N_law_market) (sc := relS scPr (defScope s_law_market)) (by decide +kernel)) (by omega) ?_)⟩
    intro i w S hw
    refine ⟨_, fun s H C cl fp => tc_name 14 (by decide) nd, fun s H C cl fp => ?_⟩
    exact EvS.to (ev_t2 (ev_sub (ev_callM1 D hgd hr (by decide) (ev_v 0 rfl) ev_int rfl ⟨S, 9, rfl, rfl, by decide, by decide, rfl, rfl⟩) ev_int) ev_int) rfl rfl
  · obtain ⟨rfl, rfl⟩ := hJ
    refine ⟨itS (itS (dr 9) as.length) ps.length S, (rest ++ rows.map rowW) ++ [ouW (1 + rest.length) ps.length], itV (smRow as.length) (itS (dr 9) as.length) ps.length S, _, ?_, itV_len _ _ _ _, fun j r hr => ?_, rfl, ?_⟩
    · simp only [List.length_cons, List.length_append, List.length_map, itV_len, List.length_nil]; omega
    · obtain ⟨S', rfl⟩ := itV_mem (List.mem_of_getElem? hr)
      exact ⟨itV_len _ _ _ _, fun q hq => by
        obtain ⟨S2, rfl⟩ := itV_mem hq
        exact bd_up (smal_bd S2) (Nat.dvd_refl _) (Nat.le_refl _) j⟩
    · rw [itV_map, itV_map]
      simp only [rowW, smRow, itV_map, ouW]
  clear hrw hro hkp kp rows rest S
  rintro r o ⟨S, rest, rows, kp, hkp, hrw, hro, rfl, rfl⟩
  have hRl : ((rest ++ rows.map rowW) ++ [ouW (1 + rest.length) ps.length]).length = kp := by
    simp only [List.length_append, List.length_map, List.length_cons, List.length_nil, hkp, hrw]
    omega
  refine wp_seq (fun r o => ∃ (S : Strm) (py : List (List Rat)), py.length = ps.length ∧ (∀ x ∈ py, x.length = as.length ∧ ∀ q ∈ x, q ∈ pyL) ∧ r = mkR mo fr lg ps as gs (.d (.list (rl.map encS))) v8 (.m kp) (.d (.list (py.map encL))) .un .un .un .un .un .un .un .un .un .un .un ∧ o = stW S :: ((rest ++ rows.map rowW) ++ [ouW (1 + rest.length) ps.length]))
    (wp1_set 10 nd (EvN.d (ds := itV (fun S => PyData.list (itV (fun S => encQ (payo S)) (dr 4) as.length S)) (itS (dr 4) as.length) ps.length S) (en_lc (lcd_stN (own := [("_law_node", 8)]) (S := S) (rest := (rest ++ rows.map rowW) ++ [ouW (1 + rest.length) ps.length]) ps.length (fun S => PyData.list (itV (fun S => encQ (payo S)) (dr 4) as.length S)) (itS (dr 4) as.length) stW ndL rfl nd (it_list (ev_v 4 rfl)) (blkOk_by (N := N_law_market) (sc := defScope s_law_market) (by decide +kernel)) (by omega) ?_)))
      ⟨_, itV (pyRow as.length) (itS (dr 4) as.length) ps.length S, itV_len _ _ _ _, fun x hx => ?_, ?_, rfl⟩) ?_
  · intro i w S hw
    refine ⟨_, fun s H C cl fp => tc_name 8 (by decide) nd, fun s H C cl fp => EvN.d (en_lc (lcd_stN (own := [("_law_asset", 14)]) as.length (fun S => encQ (payo S)) (dr 4) stW naL rfl nd (it_list (ev_v 5 rfl)) (blkOk_by (N := N_law_market) (sc := relS scPr (defScope s_law_market)) (by decide +kernel)) (by omega) ?_))⟩
    intro i w S hw
    refine ⟨_, fun s H C cl fp => tc_name 14 (by decide) nd, fun s H C cl fp => ?_⟩
    exact EvS.to (ev_ixL (x := encQ (payo S)) (EvN.d (ds := [_, _, _, _]) (en_lst (ea_cons (ev_t2 ev_int ev_int) (ea_cons (ev_t2 ev_int ev_int) (ea_cons (ev_t2 ev_int ev_int) (ea_cons (ev_t2 (ev_neg ev_int) ev_int) ea_nil))))))
      (ev_callM1 D hgd hr (by decide) (ev_v 0 rfl) ev_int rfl ⟨S, 4, rfl, rfl, by decide, by decide, rfl, rfl⟩) (by
        have := pick (xs := pyL) (f := encQ) 0 (drawV_lt S (show 0 < 4 by decide))
        rw [pyL_enc] at this
        exact this)) rfl rfl
  · obtain ⟨S', rfl⟩ := itV_mem hx
    exact ⟨itV_len _ _ _ _, fun q hq => by
      obtain ⟨S2, rfl⟩ := itV_mem hq
      exact payo_in S2⟩
  · have e : (itV (pyRow as.length) (itS (dr 4) as.length) ps.length S).map encL = itV (fun S => PyData.list (itV (fun S => encQ (payo S)) (dr 4) as.length S)) (itS (dr 4) as.length) ps.length S := by
      rw [itV_map]
      simp only [pyRow, encL_itV]
    rw [e]
    rfl
  clear S
  rintro r o ⟨S, py, hpl, hpa, rfl, rfl⟩
  obtain ⟨b, hb'⟩ : ∃ b, b = 1 + rest.length := ⟨_, rfl⟩
  obtain rfl : kp = b + ps.length := by rw [hkp, hb']
  refine wp_seq (fun r o => ∃ (S : Strm) (sh : List (List Rat)), Sto ps.length o S b rows sh ∧ r = mkR mo fr lg ps as gs (.d (.list (rl.map encS))) v8 (.m (b + ps.length)) (.d (.list (py.map encL))) (.m (b + ps.length + 1)) .un .un .un .un .un .un .un .un .un .un)
    (wp1_lcM 11 (lcd_dat (own := [("_law_node", 8)]) PyData.int (fun _ => PyData.list []) rfl nd (it_list (ev_v 4 rfl)) (blkOk_by (N := N_law_market) (sc := defScope s_law_market) (by decide +kernel)) (szl (by omega))
      (fun x hx => ⟨_, fun s H C cl fp => tc_name 8 (by decide) nd, fun s H C cl fp => EvN.d (ds := []) (en_lst ea_nil)⟩)) ⟨S, List.replicate ps.length [], ?_, ?_⟩) ?_
  · have := sto0 (n := ps.length) (S := S) (rest := rest) (rows := rows) (sh := List.replicate ps.length []) hrw (by simp)
    rw [← shW_nil ps.length ps rfl] at this
    rw [hb']
    exact this
  · show mkR mo fr lg ps as gs (.d (.list (rl.map encS))) v8 (.m (b + ps.length)) (.d (.list (py.map encL))) (.m (stW S :: ((rest ++ rows.map rowW) ++ [ouW (1 + rest.length) ps.length])).length) .un .un .un .un .un .un .un .un .un .un = _
    rw [List.length_cons, hRl]
  clear S
  rintro r o ⟨S, sh, sto, rfl⟩
  have hun : ∀ v, (underQ ps v).length ≤ 11 := fun v => by
    unfold underQ
    exact Nat.le_trans (List.length_filter_le _ _) (by simp; omega)
  refine wp_seq (fun r o => ∃ (S : Strm) (rows sh : List (List Rat)) (u8 u12 u13 u14 u15 u16 u17 u18 u19 : G.W), Sto ps.length o S b rows sh ∧ RowsOk as.length rows ∧ (∀ v, v < ps.length → (sh.getD v []).length = (underQ ps v).length ∧ Bds lcmS 1 (sh.getD v []))
      ∧ r = mkR mo fr lg ps as gs (.d (.list (rl.map encS))) u8 (.m (b + ps.length)) (.d (.list (py.map encL))) (.m (b + ps.length + 1)) u12 u13 u14 u15 u16 u17 u18 u19 .un .un)
    (wp1_forR (lo := 0) (n := ps.length) (fun i r o => ∃ (S : Strm) (rows sh : List (List Rat)) (u8 u12 u13 u14 u15 u16 u17 u18 u19 : G.W), Sto ps.length o S b rows sh ∧ RowsOk as.length rows ∧ (∀ v, ps.length - i ≤ v → v < ps.length → (sh.getD v []).length = (underQ ps v).length ∧ Bds lcmS 1 (sh.getD v []))
      ∧ r = mkR mo fr lg ps as gs (.d (.list (rl.map encS))) u8 (.m (b + ps.length)) (.d (.list (py.map encL))) (.m (b + ps.length + 1)) u12 u13 u14 u15 u16 u17 u18 u19 .un .un) PassesOwn.never rfl
      (it_rangeN m_range (ea_cons (ev_lenM m_len (ea_cons (ev_v 4 rfl) ea_nil)) ea_nil) (by omega)) ⟨S, rows, sh, _, _, _, _, _, _, _, _, _, sto, hro, (fun v h1 h2 => by omega), rfl⟩ (fun i r o hi hI => ?_) (fun r o hI => ?_)) ?_
  · clear sto hro hrw hRl hkp
    clear S rows sh
    obtain ⟨S, rows, sh, u8, u12, u13, u14, u15, u16, u17, u18, u19, sto, hro, hsh, rfl⟩ := hI
    refine ⟨_, tg_name 12 nd, ?_⟩
    rw [Int.zero_add]
    obtain ⟨v, hv⟩ : ∃ v, v = ps.length - 1 - i := ⟨_, rfl⟩
    have hvn : v < ps.length := by omega
    refine wp_seq (fun r o' => r = mkR mo fr lg ps as gs (.d (.list (rl.map encS))) (.d (.int (v : Nat))) (.m (b + ps.length)) (.d (.list (py.map encL))) (.m (b + ps.length + 1)) (.d (.int (i : Nat))) u13 u14 u15 u16 u17 u18 u19 .un .un ∧ Sto ps.length o' S b rows sh)
      (wp1_set 8 nd (ev_sub (ev_sub (ev_lenM m_len (ea_cons (ev_v 4 rfl) ea_nil)) ev_int) (ev_v 12 rfl)) ⟨?_, sto⟩) ?_
    · rw [show ((ps.length : Nat) : Int) - 1 - (i : Nat) = (v : Nat) by omega]
      rfl
    clear sto
    rintro r o ⟨rfl, sto⟩
    refine wp_seq (fun r o' => r = mkR mo fr lg ps as gs (.d (.list (rl.map encS))) (.d (.int (v : Nat))) (.m (b + ps.length)) (.d (.list (py.map encL))) (.m (b + ps.length + 1)) (.d (.int (i : Nat))) (.d (natL (underQ ps v))) u14 u15 u16 u17 u18 u19 .un .un ∧ Sto ps.length o' S b rows sh)
      (wp1_set 13 nd (ev_call2 Du hgd hr (by decide) (ev_v 4 rfl) (ev_v 8 rfl) ⟨ps, v, rfl, by omega, rfl⟩) ⟨rfl, sto⟩) ?_
    clear sto
    rintro r o ⟨rfl, sto⟩
    refine wp_seq (fun r o' => ∃ (S : Strm) (sh : List (List Rat)), Sto ps.length o' S b rows sh ∧ (∀ v', v ≤ v' → v' < ps.length → (sh.getD v' []).length = (underQ ps v').length ∧ Bds lcmS 1 (sh.getD v' []))
        ∧ r = mkR mo fr lg ps as gs (.d (.list (rl.map encS))) (.d (.int (v : Nat))) (.m (b + ps.length)) (.d (.list (py.map encL))) (.m (b + ps.length + 1)) (.d (.int (i : Nat))) (.d (natL (underQ ps v))) u14 u15 u16 u17 u18 u19 .un .un)
      (wp1_setixP (ep_callM Ds hgd hr (by decide) (EvA.toP (ea_cons (ev_v 0 rfl) (ea_cons (ev_lenM m_len (ea_cons (ev_v 13 rfl) ea_nil)) ea_nil)) ⟨0, S.enc, [.int ((underQ ps v).length : Nat)], rfl, rfl, sto.st, ⟨S, _, rfl, rfl, hun v⟩, fun r ss' hR => ?_⟩))) ?_
    · obtain ⟨S', m', qs, hm', rfl, rfl, hql, hqb⟩ := hR
      have hm2 : m' = (underQ ps v).length := by
        injection hm' with h1 _
        injection h1 with h1
        omega
      have t2 := (sto.draw (S' := S')).share (r := qs) hvn
      refine ⟨_, _, _, v, (v : Nat), _, ev_v 11 rfl, ev_v 8 rfl, (sto.draw (S' := S')).hs, ixN_nat (by rw [List.length_map, List.length_map, sto.sl]; exact hvn), S', sh.set v qs, ?_, fun v' h1 h2 => ?_, rfl⟩
      · rw [shW_set]
        exact t2
      · rw [List.getD_eq_getElem?_getD]
        by_cases e : v = v'
        · subst e
          rw [List.getElem?_set_self (by rw [sto.sl]; exact h2)]
          exact ⟨by rw [← hm2]; exact hql, hqb⟩
        · rw [List.getElem?_set_ne e, ← List.getD_eq_getElem?_getD]
          exact hsh v' (by omega) h2
    clear sto hsh
    clear S sh
    rintro r o' ⟨S, sh, sto, hsh, rfl⟩
    refine wp_one (wp1_if (evw_t (evw_andP (evt_b (ev_v 2 rfl)) fun _ => evw_and1 (evt_gt (ev_lenM m_len (ea_cons (ev_v 13 rfl) ea_nil)) ev_int))) (fun _ => ?_) (fun _ => wp_nil ⟨S, rows, sh, _, _, _, _, _, _, _, _, _, sto, hro, (fun v' h1 h2 => hsh v' (by omega) h2), rfl⟩))
    refine wp_one (wp1_forR (lo := 0) (n := as.length) (fun j r o => ∃ (S : Strm) (rows : List (List Rat)) (u14 u15 u16 u17 u18 u19 : G.W), Sto ps.length o S b rows sh ∧ RowsOk as.length rows
        ∧ r = mkR mo fr lg ps as gs (.d (.list (rl.map encS))) (.d (.int (v : Nat))) (.m (b + ps.length)) (.d (.list (py.map encL))) (.m (b + ps.length + 1)) (.d (.int (i : Nat))) (.d (natL (underQ ps v))) u14 u15 u16 u17 u18 u19 .un .un) PassesOwn.never rfl
      (it_rangeN m_range (ea_cons (ev_lenM m_len (ea_cons (ev_v 5 rfl) ea_nil)) ea_nil) (by omega)) ⟨S, rows, _, _, _, _, _, _, sto, hro, rfl⟩ (fun j r o hj hI => ?_) (fun r o hI => ?_))
    · clear sto hro
      clear S rows u14 u15 u16 u17 u18 u19
      obtain ⟨S, rows, u14, u15, u16, u17, u18, u19, sto, hro, rfl⟩ := hI
      refine ⟨_, tg_name 14 nd, ?_⟩
      rw [Int.zero_add]
      obtain ⟨lat, hlat⟩ : ∃ lat : Nat → Rat, lat = fun k => (rows.getD k []).getD j 0 + (py.getD k []).getD j 0 := ⟨_, rfl⟩
      have hsv := hsh v (Nat.le_refl _) hvn
      have hlk : ∀ k ∈ underQ ps v, Bd (Lp (v + 1)) (Bp (v + 1) + 1) (lat k) ∧ k < ps.length ∧ (rows.getD k []).length = as.length ∧ (py.getD k []).length = as.length ∧ Sm ((rows.getD k []).getD j 0) ∧ Sm ((py.getD k []).getD j 0) := fun k hk => by
        unfold underQ at hk
        rw [List.mem_filter, List.mem_range] at hk
        have hk2 := of_decide_eq_true hk.2
        have hkv : v < k := by
          have h0 : 0 < k := by
            rcases Nat.eq_zero_or_pos k with z | z
            · subst z
              rw [List.getD_eq_getElem?_getD, hps.p0] at hk2
              simp at hk2
            · exact z
          have := hps.par k _ h0 (getD_some 0 hk.1)
          omega
        have h1 := hro k _ (getD_some (xs := rows) [] (by rw [sto.rl]; exact hk.1))
        have h2 := hpa _ (getD_in (l := py) (k := k) (d := []) (by rw [hpl]; exact hk.1))
        have b1 := h1.2 _ (getD_in (l := rows.getD k []) (k := j) (d := 0) (by rw [h1.1]; exact hj))
        have b2 := payo_bd (h2.2 _ (getD_in (l := py.getD k []) (k := j) (d := 0) (by rw [h2.1]; exact hj)))
        subst hlat
        exact ⟨later_bd hkv b1 b2, hk.1, h1.1, h2.1, row_smp b1, six_sm b2 (by decide)⟩
      refine wp_seq (fun r o => r = mkR mo fr lg ps as gs (.d (.list (rl.map encS))) (.d (.int (v : Nat))) (.m (b + ps.length)) (.d (.list (py.map encL))) (.m (b + ps.length + 1)) (.d (.int (i : Nat))) (.d (natL (underQ ps v))) (.d (.int (j : Nat))) (.d (encL ((underQ ps v).map lat))) u16 u17 u18 u19 .un .un ∧ Sto ps.length o S b rows sh)
        (wp1_lcD 15 (lcd_dat (own := [("_law_child", 21)]) (fun (k : Nat) => PyData.int (k : Int)) (fun k => encQ (lat k)) rfl nd (it_list (ev_v 13 rfl)) (blkOk_by (N := N_law_market) (sc := defScope s_law_market) (by decide +kernel)) (szl (by have := hun v; omega)) ?_) ⟨?_, sto⟩) ?_
      · intro k hk
        obtain ⟨k1, k2, k3, k4, k5, k6⟩ := hlk k hk
        refine ⟨_, fun s H C cl fp => tc_name 21 (by decide) nd, fun s H C cl fp => ?_⟩
        have hout : atI ((List.range ps.length).map fun j => G.W.m (b + j)) (k : Int) = some (.m (b + k)) := atI_map (f := fun j => G.W.m (b + j)) (atI_nat (List.getElem?_range k2))
        have hrow := sto.row k _ (getD_some (xs := rows) [] (by rw [sto.rl]; exact k2))
        subst hlat
        exact ev_call2 Dp hgd hr (by decide) (ev_ixM (ev_ixM (ev_v 9 rfl) (ev_v 21 rfl) sto.ou hout) (ev_v 14 rfl) hrow (atD 0 (by rw [k3]; exact hj))) (ev_ixL (ev_ixL (ev_v 10 rfl) (ev_v 21 rfl) (pick [] (by rw [hpl]; exact k2))) (ev_v 14 rfl) (pick 0 (by rw [k4]; exact hj)))
          ⟨_, _, rfl, k5, k6, rfl⟩
      · rw [show encL ((underQ ps v).map lat) = .list ((underQ ps v).map fun k => encQ (lat k)) by unfold encL; rw [List.map_map]; rfl]
        rfl
      clear sto
      rintro r o ⟨rfl, sto⟩
      have hla : Bds (Lp (v + 1)) (Bp (v + 1) + 1) ((underQ ps v).map lat) := fun q hq => by
        obtain ⟨k, hk, rfl⟩ := List.mem_map.mp hq
        exact (hlk k hk).1
      have hzl : (List.zipWith (· * ·) (sh.getD v []) ((underQ ps v).map lat)).length ≤ 11 := by
        rw [List.length_zipWith, List.length_map]
        have := hun v
        omega
      have hmb := mean_bd hsv.2 hla
      have hl1 : 0 < lcmS * Lp (v + 1) := Nat.mul_pos (by decide) (Lp_pos _)
      have hM := M_lt (v + 1)
      have hm0 : Bd (lcmS * Lp (v + 1)) (11 * (Bp (v + 1) + 1)) (dotQ (sh.getD v []) ((underQ ps v).map lat)) := (Bds.sum hl1 hmb).mono (Nat.dvd_refl _) hl1 (Nat.mul_le_mul_right _ hzl)
      refine wp_seq (fun r o => ∃ q : Rat, Bd (lcmS * Lp (v + 1)) (11 * (Bp (v + 1) + 1)) q ∧ r = mkR mo fr lg ps as gs (.d (.list (rl.map encS))) (.d (.int (v : Nat))) (.m (b + ps.length)) (.d (.list (py.map encL))) (.m (b + ps.length + 1)) (.d (.int (i : Nat))) (.d (natL (underQ ps v))) (.d (.int (j : Nat))) (.d (encL ((underQ ps v).map lat))) (.d (encQ q)) u17 u18 u19 .un .un ∧ Sto ps.length o S b rows sh)
        (wp1_set 16 nd (ev_call2 Dd hgd hr (by decide) (ev_ixM (ev_v 11 rfl) (ev_v 8 rfl) sto.hs (atD [] (by rw [sto.sl]; exact hvn))) (ev_v 15 rfl)
          ⟨sh.getD v [], (underQ ps v).map lat, lcmS * Lp (v + 1), Bp (v + 1) + 1, rfl, by rw [hsv.1]; have := hun v; omega, by rw [hsv.1, List.length_map], fun q hq => ?_, fun q hq => later_sm (hla q hq), hl1, hmb, Nat.lt_of_lt_of_le (L1_lt _) (pow_le (by decide)), ?_, rfl⟩) ⟨_, hm0, rfl, sto⟩) ?_
      · have := hsv.2 q hq
        exact this.sm (Nat.lt_of_lt_of_le (show lcmS < 2 ^ 48 by decide) (pow_le (by decide))) (Nat.lt_of_lt_of_le (show 1 * lcmS < 2 ^ 48 by decide) (pow_le (by decide)))
      · refine lt_mul (x := 1400) (y := 700) ?_ (L1_lt _) (by decide)
        have h1 := hun v
        refine Nat.lt_of_le_of_lt (Nat.mul_le_mul_right _ (show (sh.getD v []).length + 1 ≤ 16 by rw [hsv.1]; omega)) ?_
        exact lt_mul (x := 5) (y := 700) (by decide) (by omega) (by decide)
      clear sto
      rintro r o ⟨mean, hmean, rfl, sto⟩
      refine wp_seq (fun r o => ∃ S st, st ∈ stL ∧ r = mkR mo fr lg ps as gs (.d (.list (rl.map encS))) (.d (.int (v : Nat))) (.m (b + ps.length)) (.d (.list (py.map encL))) (.m (b + ps.length + 1)) (.d (.int (i : Nat))) (.d (natL (underQ ps v))) (.d (.int (j : Nat))) (.d (encL ((underQ ps v).map lat))) (.d (encQ mean)) (.d (encQ st)) u18 u19 .un .un ∧ Sto ps.length o S b rows sh)
        (wp1_set 17 nd (ev_ixL (x := encQ (stL.getD (drawV S 3) 0)) (EvN.d (ds := [_, _, _]) (en_lst (ea_cons (ev_t2 ev_int ev_int) (ea_cons (ev_t2 ev_int ev_int) (ea_cons (ev_t2 ev_int ev_int) ea_nil))))) (ev_callM1 D hgd hr (by decide) (ev_v 0 rfl) ev_int sto.st ⟨S, 3, rfl, rfl, by decide, by decide, rfl, rfl⟩)
          (by rw [← stL_enc]; exact pick 0 (drawV_lt S (show 0 < 3 by decide)))) ⟨drawS S 3, _, getD_in (drawV_lt S (show 0 < 3 by decide)), rfl, sto.draw⟩) ?_
      clear sto
      clear S
      rintro r o ⟨S, st, hst, rfl, sto⟩
      have hsb := step_bd hst
      have hssm := six_sm hsb (by decide)
      have hsb1 : Bd (lcmS * Lp (v + 1)) 1 st := hsb.mono (Nat.dvd_trans (six_dvd _) (Nat.dvd_mul_left _ _)) hl1 (Nat.le_refl _)
      have hru : atI (rl.map encS) (v : Int) = some (encS (rl.getD v [])) := pick [] (by rw [hrl]; exact hvn)
      have hrin : rl.getD v [] ∈ rl := getD_in (by rw [hrl]; exact hvn)
      have hru2 : atI ((rl.getD v []).map PyData.str) (j : Int) = some (.str ((rl.getD v []).getD j "any")) := pick (xs := rl.getD v []) (f := PyData.str) "any" (by rw [(hra _ hrin).1]; exact hj)
      refine wp_seq (fun r o => ∃ q : Rat, Bd (lcmS * Lp (v + 1)) (11 * (Bp (v + 1) + 1) + 1) q ∧ r = mkR mo fr lg ps as gs (.d (.list (rl.map encS))) (.d (.int (v : Nat))) (.m (b + ps.length)) (.d (.list (py.map encL))) (.m (b + ps.length + 1)) (.d (.int (i : Nat))) (.d (natL (underQ ps v))) (.d (.int (j : Nat))) (.d (encL ((underQ ps v).map lat))) (.d (encQ q)) (.d (encQ st)) u18 u19 .un .un ∧ Sto ps.length o S b rows sh)
        (wp1_if (evt_eqS (ev_ixL (ev_ixL (ev_v 7 rfl) (ev_v 8 rfl) hru) (ev_v 14 rfl) hru2) ev_str) (fun _ => wp_one (wp1_set 16 nd (ev_call2 Dp hgd hr (by decide) (ev_v 16 rfl) (ev_v 17 rfl) ⟨mean, st, rfl, mean_sm hmean (by omega), hssm, rfl⟩) ⟨_, hmean.add hsb1, rfl, sto⟩))
          (fun _ => wp_nil ⟨mean, hmean.mono (Nat.dvd_refl _) hl1 (by omega), rfl, sto⟩)) ?_
      clear sto hmean mean
      rintro r o ⟨mean, hmean, rfl, sto⟩
      refine wp_seq (fun r o => ∃ q : Rat, Bd (lcmS * Lp (v + 1)) (11 * (Bp (v + 1) + 1) + 2) q ∧ r = mkR mo fr lg ps as gs (.d (.list (rl.map encS))) (.d (.int (v : Nat))) (.m (b + ps.length)) (.d (.list (py.map encL))) (.m (b + ps.length + 1)) (.d (.int (i : Nat))) (.d (natL (underQ ps v))) (.d (.int (j : Nat))) (.d (encL ((underQ ps v).map lat))) (.d (encQ q)) (.d (encQ st)) u18 u19 .un .un ∧ Sto ps.length o S b rows sh)
        (wp1_if (evt_eqS (ev_ixL (ev_ixL (ev_v 7 rfl) (ev_v 8 rfl) hru) (ev_v 14 rfl) hru2) ev_str) (fun _ => wp_one (wp1_set 16 nd (ev_call2 Dm hgd hr (by decide) (ev_v 16 rfl) (ev_v 17 rfl) ⟨mean, st, rfl, mean_sm hmean (by omega), hssm, rfl⟩) ⟨_, hmean.sub hsb1, rfl, sto⟩))
          (fun _ => wp_nil ⟨mean, hmean.mono (Nat.dvd_refl _) hl1 (by omega), rfl, sto⟩)) ?_
      clear sto hmean mean
      rintro r o ⟨mean, hmean, rfl, sto⟩
      refine wp_one (wp1_if (evt_neS (ev_ixL (ev_ixL (ev_v 7 rfl) (ev_v 8 rfl) hru) (ev_v 14 rfl) hru2) ev_str) (fun _ => ?_) (fun _ => wp_nil ⟨S, rows, _, _, _, _, _, _, sto, hro, rfl⟩))
      have hgr : atI (gs.map encQ) (v : Int) = some (encQ (gs.getD v 1)) := pick 1 (by rw [hgl]; exact hvn)
      obtain ⟨gi, hgi, hgb⟩ := grow_inv (hgs _ (getD_in (d := 1) (show v < gs.length by rw [hgl]; exact hvn)))
      have hfair := fair_bd (show v ≤ 10 by omega) hmean hgb
      refine wp_seq (fun r o => r = mkR mo fr lg ps as gs (.d (.list (rl.map encS))) (.d (.int (v : Nat))) (.m (b + ps.length)) (.d (.list (py.map encL))) (.m (b + ps.length + 1)) (.d (.int (i : Nat))) (.d (natL (underQ ps v))) (.d (.int (j : Nat))) (.d (encL ((underQ ps v).map lat))) (.d (encQ mean)) (.d (encQ st)) (.d (encQ (mean * gi))) u19 .un .un ∧ Sto ps.length o S b rows sh)
        (wp1_set 18 nd (ev_call2 Dx hgd hr (by decide) (ev_v 16 rfl) (ev_t2 (ev_ixT (ev_ixL (ev_v 6 rfl) (ev_v 8 rfl) hgr) ev_int rfl) (ev_ixT (ev_ixL (ev_v 6 rfl) (ev_v 8 rfl) hgr) ev_int rfl)) ⟨mean, gi, by rw [← hgi], mean_sm hmean (by omega), six_sm hgb (by decide), rfl⟩) ⟨rfl, sto⟩) ?_
      clear sto
      rintro r o ⟨rfl, sto⟩
      have hrow := getD_some (xs := rows) (v := v) [] (by rw [sto.rl]; exact hvn)
      have hout : atI ((List.range ps.length).map fun j => G.W.m (b + j)) (v : Int) = some (.m (b + v)) := atI_map (f := fun j => G.W.m (b + j)) (atI_nat (List.getElem?_range hvn))
      refine wp_seq (fun r o => r = mkR mo fr lg ps as gs (.d (.list (rl.map encS))) (.d (.int (v : Nat))) (.m (b + ps.length)) (.d (.list (py.map encL))) (.m (b + ps.length + 1)) (.d (.int (i : Nat))) (.d (natL (underQ ps v))) (.d (.int (j : Nat))) (.d (encL ((underQ ps v).map lat))) (.d (encQ mean)) (.d (encQ st)) (.d (encQ (mean * gi))) (.m (b + v)) .un .un ∧ Sto ps.length o S b rows sh)
        (wp1_set 19 nd (ev_ixM (ev_v 9 rfl) (ev_v 8 rfl) sto.ou hout) ⟨rfl, sto⟩) ?_
      clear sto
      rintro r o ⟨rfl, sto⟩
      have hrl2 := (hro v _ hrow)
      refine wp_one (wp1_setix (ev_v 18 rfl) (ev_v 19 rfl) (ev_v 14 rfl) (sto.row v _ hrow) (ixN_nat (by rw [List.length_map, List.length_map, hrl2.1]; exact hj)) ⟨S, rows.set v ((rows.getD v []).set j (mean * gi)), _, _, _, _, _, _, ?_, ?_, rfl⟩)
      · rw [rowW_set]
        exact sto.put hvn
      · refine hro.put (by rw [List.length_set]; exact hrl2.1) fun q hq => ?_
        rcases List.mem_or_eq_of_mem_set hq with z | z
        · exact hrl2.2 q z
        · rw [z]; exact hfair
    · obtain ⟨S, rows, u14, u15, u16, u17, u18, u19, sto, hro, rfl⟩ := hI
      exact ⟨S, rows, sh, _, _, _, _, _, _, _, _, _, sto, hro, (fun v' h1 h2 => hsh v' (by omega) h2), rfl⟩
  · obtain ⟨S, rows, sh, u8, u12, u13, u14, u15, u16, u17, u18, u19, sto, hro, hsh, rfl⟩ := hI
    exact ⟨S, rows, sh, _, _, _, _, _, _, _, _, _, sto, hro, (fun v h => hsh v (by omega) h), rfl⟩
  clear sto hro hrw hRl hkp
  clear S rows sh
  rintro r o ⟨S, rows, sh, u8, u12, u13, u14, u15, u16, u17, u18, u19, sto, hro, hsh, rfl⟩
  have hmk := mk_of hps ha4 has hgl hgs hrl hra sto.rl hro hpl hpa sto.sl hsh
  have hb0 := sto.b0
  refine wp_frzRows (n := ps.length) (b := b) (rows := rows) (m0 := S.enc) (m1 := sh.map encL) sto.b0 sto.rl (fun rho => ∃ u8 u12 u13 u14 u15 u16 u17 u18 u19, rho = mkR mo fr lg ps as gs (.d (.list (rl.map encS))) u8 (.m (b + ps.length)) (.d (.list (py.map encL))) (.m (b + ps.length + 1)) u12 u13 u14 u15 u16 u17 u18 u19 .un .un)
    (fun k d rho hk hq => ?_) (fun rho o hq o0 o1 o2 => ?_) ps.length 0 _ _ rfl (Nat.zero_le _) ⟨u8, u12, u13, u14, u15, u16, u17, u18, u19, rfl⟩ sto.st (fun j r _ h => sto.row j r h) ?_ sto.hs
  · obtain ⟨u8, u12, u13, u14, u15, u16, u17, u18, u19, rfl⟩ := hq
    refine ⟨W.frz (b + k) d u8, W.frz (b + k) d u12, W.frz (b + k) d u13, W.frz (b + k) d u14, W.frz (b + k) d u15, W.frz (b + k) d u16, W.frz (b + k) d u17, W.frz (b + k) d u18, W.frz (b + k) d u19, ?_⟩
    rw [mkR_frz (by omega), W.frz_ne (k := b + k) (j := b + ps.length) (by omega), W.frz_ne (k := b + k) (j := b + ps.length + 1) (by omega)]
    rfl
  · obtain ⟨u8, u12, u13, u14, u15, u16, u17, u18, u19, rfl⟩ := hq
    refine wp_frz (b + ps.length) (ds := rows.map encL) o1 ?_
    rw [mkR_frz (by omega), W.frz_self, W.frz_ne (k := b + ps.length) (j := b + ps.length + 1) (by omega)]
    have p0 := frz_at (d := .list (rows.map encL)) o0 (show b + ps.length ≠ 0 by omega)
    have p2 := frz_at (d := .list (rows.map encL)) o2 (show b + ps.length ≠ b + ps.length + 1 by omega)
    generalize ((o.map (MO.frz (b + ps.length) (.list (rows.map encL)))).set (b + ps.length) .dead) = o at p0 p2 ⊢
    refine wp_frz (b + ps.length + 1) (ds := sh.map encL) p2 ?_
    rw [mkR_frz (by omega), W.frz_self]
    have q0 := frz_at (d := .list (sh.map encL)) p0 (show b + ps.length + 1 ≠ 0 by omega)
    generalize ((o.map (MO.frz (b + ps.length + 1) (.list (sh.map encL)))).set (b + ps.length + 1) .dead) = o at q0 ⊢
    have hol := lt_of q0
    refine wp_seq (fun r o' => ∃ (u8 u12 u13 u14 u15 u16 u17 u18 u19 : G.W), r = mkR mo fr lg ps as gs (.d (.list (rl.map encS))) u8 (.d (.list (rows.map encL))) (.d (.list (py.map encL))) (.d (.list (sh.map encL))) u12 u13 u14 u15 u16 u17 u18 u19 (.m o.length) .un ∧ o' = o ++ [.lst []])
      (wp1_set 20 nd (EvN.m (ws := []) (en_lst ea_nil)) ⟨_, _, _, _, _, _, _, _, _, rfl, rfl⟩) ?_
    rintro r o' ⟨u8, u12, u13, u14, u15, u16, u17, u18, u19, rfl, rfl⟩
    refine wp_seq (fun r o' => ∃ (u8 u12 u13 u14 u15 u16 u17 u18 u19 : G.W), r = mkR mo fr lg ps as gs (.d (.list (rl.map encS))) u8 (.d (.list (rows.map encL))) (.d (.list (py.map encL))) (.d (.list (sh.map encL))) u12 u13 u14 u15 u16 u17 u18 u19 (.m o.length) .un ∧ o' = o ++ [.lst (((List.range ps.length).map fun v => encN (ndQ ps gs rl rows py v)).map G.W.d)])
      (wp1_forR (lo := 0) (n := ps.length) (fun i r o' => ∃ (u8 u12 u13 u14 u15 u16 u17 u18 u19 : G.W), r = mkR mo fr lg ps as gs (.d (.list (rl.map encS))) u8 (.d (.list (rows.map encL))) (.d (.list (py.map encL))) (.d (.list (sh.map encL))) u12 u13 u14 u15 u16 u17 u18 u19 (.m o.length) .un ∧ o' = o ++ [.lst (((List.range i).map fun v => encN (ndQ ps gs rl rows py v)).map G.W.d)]) PassesOwn.never rfl
        (it_rangeN m_range (ea_cons (ev_lenM m_len (ea_cons (ev_v 4 rfl) ea_nil)) ea_nil) (by omega)) ⟨_, _, _, _, _, _, _, _, _, rfl, rfl⟩ (fun i r o' hi hI => ?_) (fun r o' hI => hI)) ?_
    · obtain ⟨u8, u12, u13, u14, u15, u16, u17, u18, u19, rfl, rfl⟩ := hI
      refine ⟨_, tg_name 8 nd, ?_⟩
      rw [Int.zero_add]
      refine wp_one (wp1_expr (ev_append (ev_v 20 rfl) (ea_cons (ev_tup (ds := [_, _, _, _, _, _]) (ea_cons (ev_ixL (ev_v 4 rfl) (ev_v 8 rfl) (pick 0 hi)) (ea_cons (ev_ixL (ev_v 6 rfl) (ev_v 8 rfl) (pick 1 (by rw [hgl]; exact hi))) (ea_cons (ev_ixL (ev_v 7 rfl) (ev_v 8 rfl) (pick [] (by rw [hrl]; exact hi)))
        (ea_cons (ev_ixL (ev_v 9 rfl) (ev_v 8 rfl) (pick [] (by rw [sto.rl]; exact hi))) (ea_cons (ev_ixL (ev_v 10 rfl) (ev_v 8 rfl) (pick [] (by rw [hpl]; exact hi))) (ea_cons (EvN.d (ds := []) (en_lst ea_nil)) ea_nil))))))) ea_nil) last_at ⟨_, last_at⟩ ?_) ⟨_, _, _, _, _, _, _, _, _, rfl, ?_⟩)
      · rw [List.length_map, List.length_map, List.length_range, sizeLine_eq]
        omega
      · rw [last_set, List.range_succ, List.map_append, List.map_append]
        rfl
    · rintro r o' ⟨u8, u12, u13, u14, u15, u16, u17, u18, u19, rfl, rfl⟩
      refine wp_frz o.length (ds := (List.range ps.length).map fun v => encN (ndQ ps gs rl rows py v)) last_at ?_
      rw [mkR_frz (by omega), W.frz_self]
      have r0 := frz_at (o := o ++ [.lst (((List.range ps.length).map fun v => encN (ndQ ps gs rl rows py v)).map G.W.d)]) (d := .list ((List.range ps.length).map fun v => encN (ndQ ps gs rl rows py v))) (k := o.length) (j := 0) (by rw [List.getElem?_append_left hol]; exact q0) (by omega)
      refine wp_one (wp1_ret (ev_t2 (ev_t3 (ev_v 5 rfl) (EvN.d (ds := []) (en_lst ea_nil)) (ev_v 20 rfl)) (ev_v 11 rfl)) ⟨_, S.enc, rfl, ⟨S, mkM as ps gs rl rows py, sh, rfl, ?_, hmk⟩, r0⟩)
      unfold mkM M.encM encS
      rw [List.map_map]
      rfl
  · rw [sto.ou]
    rfl
end
end K

set_option Elab.async false
set_option linter.all false
set_option maxRecDepth 100000
set_option maxHeartbeats 8000000
set_option exponentiation.threshold 20000
namespace M
open PySem
def ginv (q : Rat) : Rat := mkRat q.den q.num.toNat
theorem ginv_enc {q : Rat} (h : 0 < q.num) : PyData.tuple [.int (q.den : Int), .int q.num] = encQ (ginv q) := by
  unfold ginv
  have hr := q.reduced
  unfold Nat.Coprime at hr
  rw [enc_pair (by rw [Int.natAbs_natCast, show q.num.toNat = q.num.natAbs by omega, Nat.gcd_comm]; exact hr) (by omega)]
  rw [show ((q.num.toNat : Nat) : Int) = q.num by omega]
theorem grL_pos {q : Rat} (h : q ∈ grL) : 0 < q.num := by
  unfold grL at h
  simp only [List.mem_cons, List.not_mem_nil, or_false] at h
  rcases h with rfl | rfl | rfl | rfl | rfl <;> decide +kernel
theorem ginv_bd {q : Rat} (h : q ∈ grL) : Bd 6 2 (ginv q) := by
  obtain ⟨g, h1, h2⟩ := grow_inv h
  rw [ginv_enc (grL_pos h)] at h1
  rw [encQ_inj h1]
  exact h2
/-- the masses that shares make -/
def massQ (m : Mkt) (sh : List (List Rat)) : Nat → List Rat
  | 0 => [1]
  | i + 1 => let ms := massQ m sh i; let p := (m.at (i + 1)).parent.toNat
    ms ++ [ms.getD p 0 * (sh.getD p []).getD ((kids m p).idxOf (i + 1)) 0 * ginv (m.at p).growth]
theorem massQ_len (m : Mkt) (sh : List (List Rat)) : ∀ i, (massQ m sh i).length = i + 1
  | 0 => rfl
  | i + 1 => by
    show (massQ m sh i ++ [_]).length = _
    rw [List.length_append, massQ_len m sh i]
    rfl
def Lm (v : Nat) : Nat := Lq ^ v
theorem Lm_dvd {u v : Nat} (h : u ≤ v) : Lm u ∣ Lm v := Nat.pow_dvd_pow Lq h
theorem Lm_pos (v : Nat) : 0 < Lm v := Nat.pow_pos Lq_pos
theorem Lm_top {v : Nat} (h : v ≤ 11) : Lm v ∣ Lp 0 := Nat.dvd_trans (Lm_dvd h) (Nat.dvd_mul_left _ _)
theorem mass_bd1 {v p : Nat} {a s g : Rat} (hp : p < v) (ha : Bd (Lm p) (2 ^ p) a) (hs : Bd lcmS 1 s) (hg : Bd 6 2 g) : Bd (Lm v) (2 ^ v) (a * s * g) := by
  have h := (ha.mul hs).mul hg
  have e : Lm p * lcmS * 6 = Lm (p + 1) := by
    unfold Lm
    rw [Nat.pow_succ, Nat.mul_assoc]
    show _ = Lq ^ p * (6 * lcmS)
    rw [Nat.mul_comm 6 lcmS]
  rw [e] at h
  refine h.mono (Lm_dvd hp) (Lm_pos v) ?_
  calc 2 ^ p * 1 * 2 = 2 ^ (p + 1) := by rw [Nat.mul_one, Nat.pow_succ]
    _ ≤ 2 ^ v := Nat.pow_le_pow_right (by decide) hp
theorem mass_top {v : Nat} {q : Rat} (hv : v ≤ 11) (h : Bd (Lm v) (2 ^ v) q) : Bd (Lp 0) 2048 q := h.mono (Lm_top hv) (Lp_pos 0) (Nat.pow_le_pow_right (n := 2) (by decide) hv)
theorem B0_ge : 400000 ≤ Bp 0 := Bp_ge 0
theorem top_sm {B : Nat} {q : Rat} (h : Bd (Lp 0) B q) (hB : B ≤ 2000000) : Sm q := h.sm (Nat.lt_of_lt_of_le (Lp_lt 0) (pow_le (by decide))) (lt_mul (show B < 2 ^ 21 by omega) (Lp_lt 0) (by decide))
theorem kid_mem {m : Mkt} {p c : Nat} (h1 : c < m.n) (h2 : (m.at c).parent = (p : Int)) : c ∈ kids m p := by
  unfold kids
  exact List.mem_filter.mpr ⟨List.mem_range.mpr h1, decide_eq_true h2⟩
theorem mass_ok {m : Mkt} {sh : List (List Rat)} (hpar : ∀ v, v < m.n → 0 < v → 0 ≤ (m.at v).parent ∧ (m.at v).parent < v) (hg : ∀ v, v < m.n → (m.at v).growth ∈ grL) (hb : ∀ v, v < m.n → Bds lcmS 1 (sh.getD v [])) :
    ∀ i, i < m.n → ∀ v q, (massQ m sh i)[v]? = some q → Bd (Lm v) (2 ^ v) q
  | 0, _, v, q, h => by
    have hv : v < 1 := (List.getElem?_eq_some_iff.mp h).1
    obtain rfl : v = 0 := by omega
    cases h
    exact Bd.int 1
  | i + 1, hi, v, q, h => by
    have ih := mass_ok hpar hg hb i (by omega)
    have hl := massQ_len m sh i
    by_cases hv : v < i + 1
    · have e : (massQ m sh (i + 1))[v]? = (massQ m sh i)[v]? := List.getElem?_append_left (by omega)
      rw [e] at h
      exact ih v q h
    · have e : (massQ m sh (i + 1))[v]? = [_][v - (massQ m sh i).length]? := List.getElem?_append_right (by omega)
      rw [e] at h
      have h0 : v - (massQ m sh i).length < 1 := (List.getElem?_eq_some_iff.mp h).1
      obtain rfl : v = i + 1 := by omega
      rw [hl, Nat.sub_self] at h
      cases h
      obtain ⟨p, hp⟩ : ∃ p, p = (m.at (i + 1)).parent.toNat := ⟨_, rfl⟩
      have h2 := hpar (i + 1) hi (by omega)
      have hpi : p < i + 1 := by omega
      rw [← hp]
      have h3 : (massQ m sh i)[p]? = some ((massQ m sh i).getD p 0) := by
        rw [List.getD_eq_getElem?_getD, List.getElem?_eq_getElem (by omega)]; rfl
      refine mass_bd1 hpi (ih p _ h3) ?_ (ginv_bd (hg p (by omega)))
      exact getD_mem (Bd.zero (by decide)) (hb p (by omega))
end M
namespace K
open PySem PySem.Spec PyProof.Rows L2 G M
section
variable {P : Program} {w : World} {K : PySem.W.Frag} {mg : Str → Option Value} {base : Heap}
def ph_masses (ds : List PyData) (r : PyData) : Prop := ∃ (m : Mkt) (sh : List (List Rat)), ds = [M.encM m, .list (sh.map encL)] ∧ Mk m sh ∧ r = encL (massQ m sh (m.n - 1))
theorem Mk.par {m : Mkt} {sh : List (List Rat)} (h : Mk m sh) : ∀ v, v < m.n → 0 < v → 0 ≤ (m.at v).parent ∧ (m.at v).parent < v := fun v hv h0 => ⟨h.wf.par1 v hv h0, h.wf.par v hv⟩
theorem d_masses (A : At K mg "_law_masses" s_law_masses ["_law_market_here", "_law_shares_here"]) (m_len : mg "len" = none) (m_range : mg "range" = none) (Dx : DfP P w K mg base 2 "_law_times" 2 ph_times) : DfP P w K mg base 3 "_law_masses" 2 ph_masses := by
  obtain ⟨f, fd, F, hm, hb⟩ := A
  have nd := sc_law_masses.nd
  refine dfP F sc_law_masses rfl hm hb (fun cdv A outer s H E ds r hgd hr hl hp => ?_)
  obtain ⟨m, sh, rfl, hk, rfl⟩ := hp
  have hn1 := hk.wf.n1
  have hn11 := hk.n11
  refine wp_seq (fun r o => r = [.d (M.encM m), .d (.list (sh.map encL)), .m 0, .un, .un, .un, .un, .un, .un] ∧ o = [rowW (massQ m sh 0)]) (wp1_set 2 nd (EvN.m (ws := [.d (encQ 1)]) (en_lst (ea_cons (ev_t2 ev_int ev_int) ea_nil))) ⟨rfl, rfl⟩) ?_
  rintro r o ⟨rfl, rfl⟩
  refine wp_seq (fun r o => ∃ u3 u4 u5 u6 u7, r = [.d (M.encM m), .d (.list (sh.map encL)), .m 0, u3, u4, u5, u6, u7, .un] ∧ o = [rowW (massQ m sh (m.n - 1))])
    (wp1_forR (lo := 1) (n := m.n - 1) (fun i r o => ∃ u3 u4 u5 u6 u7, r = [.d (M.encM m), .d (.list (sh.map encL)), .m 0, u3, u4, u5, u6, u7, .un] ∧ o = [rowW (massQ m sh i)]) PassesOwn.never rfl
      (it_rangeK _ m_range (ea_cons ev_int (ea_cons (ev_lenM m_len (ea_cons (ev_ixT (ev_v 0 rfl) ev_int rfl) ea_nil)) ea_nil)) (by show ((m.n : Nat) : Int) = _; omega) (by omega)) ⟨_, _, _, _, _, rfl, rfl⟩ (fun i r o hi hI => ?_) (fun r o hI => hI)) ?_
  · obtain ⟨u3, u4, u5, u6, u7, rfl, rfl⟩ := hI
    refine ⟨_, tg_name 3 nd, ?_⟩
    rw [show (1 : Int) + (i : Int) = ((i + 1 : Nat) : Int) by omega]
    have hv : i + 1 < m.n := by omega
    have hpr := hk.par (i + 1) hv (by omega)
    obtain ⟨p, hp⟩ : ∃ p, p = (m.at (i + 1)).parent.toNat := ⟨_, rfl⟩
    have hpe : (m.at (i + 1)).parent = (p : Int) := by omega
    have hpn : p < m.n := by omega
    have hmo := mass_ok hk.par hk.gr hk.sb i (by omega)
    have hml := massQ_len m sh i
    have hpa : atI (m.nodes.map encN) ((i + 1 : Nat) : Int) = some (encN (m.at (i + 1))) := atN hv
    refine wp_seq (fun r o => r = [.d (M.encM m), .d (.list (sh.map encL)), .m 0, .d (.int (i + 1 : Nat)), .d (.int (p : Nat)), u5, u6, u7, .un] ∧ o = [rowW (massQ m sh i)])
      (wp1_set 4 nd (ev_ixT (ev_ixL (ev_ixT (ev_v 0 rfl) ev_int rfl) (ev_v 3 rfl) hpa) ev_int rfl) ⟨by rw [hpe]; rfl, rfl⟩) ?_
    rintro r o ⟨rfl, rfl⟩
    refine wp_seq (fun r o => r = [.d (M.encM m), .d (.list (sh.map encL)), .m 0, .d (.int (i + 1 : Nat)), .d (.int (p : Nat)), .d (natL (kids m p)), u6, u7, .un] ∧ o = [rowW (massQ m sh i)])
      (wp1_lcD 5 (lcd_rngF (own := [("_law_place", 8)]) (n := m.n) (fun j => decide ((m.at j).parent = (p : Int))) (fun (k : Nat) => PyData.int (k : Int)) rfl nd
        (it_rangeN m_range (ea_cons (ev_lenM m_len (ea_cons (ev_ixT (ev_v 0 rfl) ev_int rfl) ea_nil)) ea_nil) (by omega)) (blkOk_by (N := N_law_masses) (sc := defScope s_law_masses) (by decide +kernel)) (szl (by omega))
        (fun k hk => ⟨_, fun s H C cl fp => tc_name 8 (by decide) nd, fun s H C cl fp => evt_eqI (ev_ixT (ev_ixL (ev_ixT (ev_v 0 rfl) ev_int rfl) (ev_v 8 rfl) (atN hk)) ev_int rfl) (ev_v 4 rfl), fun _ s H C cl fp => ev_v 8 rfl⟩)) ⟨rfl, rfl⟩) ?_
    rintro r o ⟨rfl, rfl⟩
    refine wp_cons (wp1_set 6 nd (ev_ixT (ev_ixL (ev_ixT (ev_v 0 rfl) ev_int rfl) (ev_v 4 rfl) (atN hpn)) ev_int rfl) ?_)
    have hin : i + 1 ∈ kids m p := kid_mem hv hpe
    have hidx : (kids m p).idxOf (i + 1) < (sh.getD p []).length := by
      rw [hk.sk p hpn]
      exact List.idxOf_lt_length_of_mem hin
    have hix : ((kids m p).map fun (k : Nat) => (k : Int)).idxOf ((i + 1 : Nat) : Int) = (kids m p).idxOf (i + 1) := by
      generalize kids m p = l
      induction l with
      | nil => rfl
      | cons x l ih =>
        rw [List.map_cons, List.idxOf_cons, List.idxOf_cons, ih]
        by_cases e : x = i + 1
        · subst e; simp
        · have e1 : (x == i + 1) = false := by simpa using e
          have e2 : ((x : Int) == ((i + 1 : Nat) : Int)) = false := by
            rw [beq_eq_false_iff_ne]
            omega
          rw [e1, e2]
    have hls : LsM ([rowW (massQ m sh i)]) (.d (natL (kids m p))) (((kids m p).map fun (k : Nat) => (k : Int)).map fun n => G.W.d (.int n)) := by
      show _ = ((kids m p).map fun (k : Nat) => PyData.int (k : Int)).map G.W.d
      rw [List.map_map, List.map_map]
      rfl
    have hsh : atI (sh.map encL) (p : Int) = some (encL (sh.getD p [])) := pick [] (by rw [hk.sl]; exact hpn)
    refine wp_seq (fun r o => r = [.d (M.encM m), .d (.list (sh.map encL)), .m 0, .d (.int (i + 1 : Nat)), .d (.int (p : Nat)), .d (natL (kids m p)), .d (encQ (m.at p).growth), .d (encQ ((sh.getD p []).getD ((kids m p).idxOf (i + 1)) 0)), .un] ∧ o = [rowW (massQ m sh i)])
      (wp1_set 7 nd (ev_ixL (ev_ixL (ev_v 1 rfl) (ev_v 4 rfl) hsh) (ev_index (ev_v 5 rfl) (ea_cons (ev_v 3 rfl) ea_nil) hls hls (List.mem_map.mpr ⟨_, hin, rfl⟩)) (by rw [hix]; exact pick 0 hidx)) ⟨rfl, rfl⟩) ?_
    rintro r o ⟨rfl, rfl⟩
    have hmp : (massQ m sh i)[p]? = some ((massQ m sh i).getD p 0) := getD_some 0 (by omega)
    have hb1 := hmo p _ hmp
    have hs1 : Bd lcmS 1 ((sh.getD p []).getD ((kids m p).idxOf (i + 1)) 0) := hk.sb p hpn _ (getD_in hidx)
    have hg1 := ginv_bd (hk.gr p hpn)
    have e1 : Bd (Lp 0) 2048 ((massQ m sh i).getD p 0) := mass_top (by omega) hb1
    have e2 : Sm ((sh.getD p []).getD ((kids m p).idxOf (i + 1)) 0) := hs1.sm (Nat.lt_of_lt_of_le (show lcmS < 2 ^ 48 by decide) (pow_le (by decide))) (Nat.lt_of_lt_of_le (show 1 * lcmS < 2 ^ 48 by decide) (pow_le (by decide)))
    have e3 := hb1.mul hs1
    have e4 : Sm ((massQ m sh i).getD p 0 * (sh.getD p []).getD ((kids m p).idxOf (i + 1)) 0) := by
      have h1 : Lm p * lcmS < 2 ^ 700 := lt_mul (Nat.lt_of_le_of_lt (Nat.le_of_dvd (Lp_pos 0) (Lm_top (by omega))) (Lp_lt 0)) (show lcmS < 2 ^ 48 by decide) (by decide)
      have h2 : 2 ^ p * 1 < 2 ^ 100 := by
        rw [Nat.mul_one]
        exact Nat.pow_lt_pow_right (by decide) (by omega)
      exact e3.sm (Nat.lt_of_lt_of_le h1 (pow_le (by decide))) (lt_mul h2 h1 (by decide))
    refine wp_one (wp1_expr (ev_append (ev_v 2 rfl) (ea_cons (ev_call2 Dx hgd hr (by decide) (ev_call2 Dx hgd hr (by decide) (ev_ixM (ev_v 2 rfl) (ev_v 4 rfl) rfl (atD 0 (by omega))) (ev_v 7 rfl) ⟨_, _, rfl, top_sm e1 (by decide), e2, rfl⟩) (ev_t2 (ev_ixT (ev_v 6 rfl) ev_int rfl) (ev_ixT (ev_v 6 rfl) ev_int rfl)) ⟨_, _, by rw [ginv_enc (grL_pos (hk.gr p hpn))], e4, six_sm hg1 (by decide), rfl⟩) ea_nil) rfl ⟨_, rfl⟩ ?_) ⟨_, _, _, _, _, rfl, ?_⟩)
    · rw [List.length_map, List.length_map, hml, sizeLine_eq]; omega
    · show [MO.lst (_ ++ [_])] = _
      unfold rowW
      show _ = [MO.lst (((massQ m sh i ++ [_]).map encQ).map G.W.d)]
      rw [← hp, List.map_append, List.map_append]
      rfl
  · rintro r o ⟨u3, u4, u5, u6, u7, rfl, rfl⟩
    exact wp_frz 0 (ds := (massQ m sh (m.n - 1)).map encQ) rfl (wp_one (wp1_ret (ev_v 2 rfl) rfl))
end
end K

set_option Elab.async false
set_option linter.all false
set_option maxRecDepth 100000
set_option maxHeartbeats 400000
set_option exponentiation.threshold 20000
namespace M
def flowOk (m : Mkt) (bs : List Rat) (v : Nat) : Bool := decide ((m.at v).growth * sumQ ((kids m v).map fun c => bs.getD c 0) = bs.getD v 0)
def meanQ (m : Mkt) (bs : List Rat) (v a : Nat) : Rat := sumQ ((kids m v).map fun c => bs.getD c 0 * (gainsIn m v c).getD a 0)
def ruleOk (rule : PySem.Str) (q : Rat) : Bool := !(decide (rule = "any") && !decide (q = 0)) && !((decide (rule = "long") && decide (0 < q)) || (decide (rule = "short") && decide (q < 0)))
def nodeOk (m : Mkt) (bs : List Rat) (v : Nat) : Bool := decide ((kids m v).length = 0) || (flowOk m bs v && (List.range m.assets.length).all fun a => ruleOk ((m.at v).rules.getD a "any") (meanQ m bs v a))
def lawBal (m : Mkt) (bs : List Rat) : Bool := (List.range m.n).all (nodeOk m bs)
end M
namespace K
open PySem PySem.Spec PyProof.Rows L2 G M
section
variable {P : Program} {w : World} {K : PySem.W.Frag} {mg : Str → Option Value} {base : Heap}
theorem d_lchildren (A : At K mg "_law_children" s_law_children ["_law_market_here", "_law_node"]) (m_len : mg "len" = none) (m_range : mg "range" = none) : DfP P w K mg base 1 "_law_children" 2 ph_children := by
  obtain ⟨f, fd, F, hm, hb⟩ := A
  refine dfP F sc_law_children rfl hm hb (fun cdv A outer s H E ds r hgd hr hl hp => ?_)
  obtain ⟨L, B, m, v, rfl, W, rfl⟩ := hp
  have hn : m.n ≤ 60 := W.n60
  exact wp_one (wp1_ret (EvN.d (en_lc (lcd_rngF (own := [("_law_place", 2)]) (n := m.n) (fun i => decide ((m.at i).parent = (v : Int))) (fun (k : Nat) => PyData.int (k : Int)) rfl sc_law_children.nd
    (it_rangeN m_range (ea_cons (ev_lenM m_len (ea_cons (ev_ixT (ev_v 0 rfl) ev_int rfl) ea_nil)) ea_nil) (by omega)) (blkOk_by (N := N_law_children) (sc := defScope s_law_children) (by decide +kernel)) (szl (by omega))
    (fun k hk => ⟨_, fun s H C cl fp => tc_name 2 (by decide) sc_law_children.nd, fun s H C cl fp => evt_eqI (ev_ixT (ev_ixL (ev_ixT (ev_v 0 rfl) ev_int rfl) (ev_v 2 rfl) (atN hk)) ev_int rfl) (ev_v 1 rfl), fun _ s H C cl fp => ev_v 2 rfl⟩)))) rfl)
def ph_lgains (ds : List PyData) (r : PyData) : Prop := ∃ (L B : Nat) (m : Mkt) (v c : Nat), ds = [M.encM m, .int c] ∧ Wf L B m ∧ v < m.n ∧ c < m.n ∧ (m.at c).parent = (v : Int) ∧ r = encL (gainsIn m v c)
theorem gainsIn_at {L B : Nat} {m : Mkt} (W : Wf L B m) {v c a : Nat} (hv : v < m.n) (hc : c < m.n) (ha : a < m.assets.length) : (gainsIn m v c)[a]? = some (gain (m.at v).growth ((m.at v).prices.getD a 0) ((m.at c).prices.getD a 0) ((m.at c).payouts.getD a 0)) := by
  unfold gainsIn
  rw [List.getElem?_zipWith, getD_some (xs := (m.at v).prices) 0 (by rw [W.prices v hv]; exact ha)]
  have h : ((m.at c).prices.zip (m.at c).payouts)[a]? = some ((m.at c).prices.getD a 0, (m.at c).payouts.getD a 0) := by
    rw [List.getElem?_zip_eq_some]
    exact ⟨getD_some 0 (by rw [W.prices c hc]; exact ha), getD_some 0 (by rw [W.payouts c hc]; exact ha)⟩
  rw [h]
theorem d_lgains (A : At K mg "_law_gains" s_law_gains ["_law_market_here", "_law_child"]) (m_len : mg "len" = none) (m_range : mg "range" = none) (Dp : DfP P w K mg base 2 "_law_plus" 2 ph_plus) (Dm : DfP P w K mg base 3 "_law_minus" 2 ph_minus) (Dt : DfP P w K mg base 2 "_law_times" 2 ph_times) : DfP P w K mg base 4 "_law_gains" 2 ph_lgains := by
  obtain ⟨f, fd, F, hm, hb⟩ := A
  have nd := sc_law_gains.nd
  refine dfP F sc_law_gains rfl hm hb (fun cdv A outer s H E ds r hgd hr hl hp => ?_)
  obtain ⟨L, B, m, v, c, rfl, W, hv, hc, hpar, rfl⟩ := hp
  have t := W.tin
  have ha4 := W.a4
  refine wp_cons (wp1_set 2 nd (ev_ixL (ev_ixT (ev_v 0 rfl) ev_int rfl) (ev_v 1 rfl) (atN hc)) ?_)
  refine wp_cons (wp1_set 3 nd (ev_ixL (ev_ixT (ev_v 0 rfl) ev_int rfl) (ev_ixT (ev_v 2 rfl) ev_int rfl) (by rw [hpar]; exact atN hv)) ?_)
  refine wp_seq (fun r o => r = [.d (M.encM m), .d (.int c), .d (encN (m.at c)), .d (encN (m.at v)), .m 0, .un, .un] ∧ o = [rowW []]) (wp1_set 4 nd (EvN.m (ws := []) (en_lst ea_nil)) ⟨rfl, rfl⟩) ?_
  rintro r o ⟨rfl, rfl⟩
  refine wp_seq (fun r o => ∃ u5 u6, r = [.d (M.encM m), .d (.int c), .d (encN (m.at c)), .d (encN (m.at v)), .m 0, u5, u6] ∧ o = [rowW (gainsIn m v c)])
    (wp1_forR (lo := 0) (n := m.assets.length) (fun i r o => ∃ u5 u6, r = [.d (M.encM m), .d (.int c), .d (encN (m.at c)), .d (encN (m.at v)), .m 0, u5, u6] ∧ o = [rowW ((gainsIn m v c).take i)]) PassesOwn.never rfl
      (it_rangeN m_range (ea_cons (ev_lenM m_len (ea_cons (ev_ixT (ev_v 0 rfl) ev_int rfl) ea_nil)) ea_nil) (by omega)) ⟨_, _, rfl, rfl⟩ (fun i r o hi hI => ?_) (fun r o hI => ?_)) ?_
  · obtain ⟨u5, u6, rfl, rfl⟩ := hI
    refine ⟨_, tg_name 5 nd, ?_⟩
    rw [Int.zero_add]
    have g1 := getD_some (xs := (m.at c).prices) 0 (by rw [W.prices c hc]; exact hi)
    have g2 := getD_some (xs := (m.at c).payouts) 0 (by rw [W.payouts c hc]; exact hi)
    have g3 := getD_some (xs := (m.at v).prices) 0 (by rw [W.prices v hv]; exact hi)
    have b1 := W.bp c hc _ (List.mem_of_getElem? g1)
    have b2 := W.by_ c hc _ (List.mem_of_getElem? g2)
    have b3 := W.bp v hv _ (List.mem_of_getElem? g3)
    have bg := W.bg v hv
    have e1 : Sm ((m.at c).prices.getD i 0 + (m.at c).payouts.getD i 0) := (b1.add b2).sm (Nat.lt_of_lt_of_le t.l (pow_le (by decide))) (Nat.lt_of_lt_of_le (lt_mul (lt_add t.b t.b (Nat.le_refl 601)) t.l (Nat.le_refl _)) (pow_le (by decide)))
    have e2 : Sm ((m.at v).growth * (m.at v).prices.getD i 0) := (bg.mul b3).sm (lt_mul t.l t.l (by decide)) (lt_mul (lt_mul t.b t.b (Nat.le_refl _)) (lt_mul t.l t.l (Nat.le_refl _)) (by decide))
    refine wp_cons (wp1_set 6 nd (ev_call2 Dp hgd hr (by decide) (ev_ixL (ev_ixT (ev_v 2 rfl) ev_int rfl) (ev_v 5 rfl) (atL g1)) (ev_ixL (ev_ixT (ev_v 2 rfl) ev_int rfl) (ev_v 5 rfl) (atL g2)) ⟨_, _, rfl, t.sm b1, t.sm b2, rfl⟩) ?_)
    refine wp_one (wp1_expr (ev_append (ev_v 4 rfl) (ea_cons (ev_call2 Dm hgd hr (by decide) (ev_v 6 rfl) (ev_call2 Dt hgd hr (by decide) (ev_ixT (ev_v 3 rfl) ev_int rfl) (ev_ixL (ev_ixT (ev_v 3 rfl) ev_int rfl) (ev_v 5 rfl) (atL g3)) ⟨_, _, rfl, t.sm bg, t.sm b3, rfl⟩) ⟨_, _, rfl, e1, e2, rfl⟩) ea_nil) rfl ⟨_, rfl⟩ ?_) ⟨_, _, rfl, ?_⟩)
    · rw [List.length_map, List.length_map, List.length_take, sizeLine_eq]; omega
    · show [MO.lst (_ ++ [_])] = _
      unfold rowW
      rw [List.take_add_one, gainsIn_at W hv hc hi, Option.toList_some, List.map_append, List.map_append]
      rfl
  · obtain ⟨u5, u6, rfl, rfl⟩ := hI
    rw [List.take_of_length_le (by rw [gainsIn_len W hv hc]; exact Nat.le_refl _)]
    exact ⟨_, _, rfl, rfl⟩
  · rintro r o ⟨u5, u6, rfl, rfl⟩
    exact wp_frz 0 (ds := (gainsIn m v c).map encQ) rfl (wp_one (wp1_ret (ev_v 4 rfl) rfl))
/-- loose -/
def loosen (n : Node) : Node := { n with rules := n.rules.map fun _ => "none" }
def looseM (m : Mkt) : Mkt := { m with nodes := m.nodes.map loosen }
theorem loose_at {m : Mkt} {v : Nat} (h : v < m.n) : (looseM m).at v = loosen (m.at v) := by
  unfold Mkt.at looseM
  have h' : v < m.nodes.length := h
  rw [List.getD_eq_getElem?_getD, List.getD_eq_getElem?_getD, List.getElem?_map, List.getElem?_eq_getElem h']
  rfl
theorem loose_n (m : Mkt) : (looseM m).n = m.n := by
  unfold Mkt.n looseM
  simp
theorem loose_kids (m : Mkt) (v : Nat) : kids (looseM m) v = kids m v := by
  unfold kids
  rw [loose_n]
  apply List.filter_congr
  intro i hi
  rw [loose_at (List.mem_range.mp hi)]
  rfl
theorem Mk.loose {m : Mkt} {sh : List (List Rat)} (h : Mk m sh) : Mk (looseM m) sh := by
  have w := h.wf
  have hn := loose_n m
  have hat : ∀ v, v < m.n → (looseM m).at v = loosen (m.at v) := fun v hv => loose_at hv
  have hn1 := w.n1
  refine ⟨⟨w.tin, by rw [hn]; exact w.n1, by rw [hn]; exact w.n60, w.a4, fun v hv => ?_, ?_, fun v hv h0 => ?_, fun v hv => ?_, fun v hv => ?_, fun v hv => ?_, fun v hv => ?_, fun v hv => ?_, fun v hv => ?_⟩, by rw [hn]; exact h.n11, fun v hv => ?_, by rw [hn]; exact h.sl, fun v hv => ?_, fun v hv => ?_, h.sn, h.an, fun v hv => ?_, fun v hv => ?_⟩
  all_goals try rw [hn] at hv
  all_goals try rw [hat v hv]
  · exact w.par v hv
  · rw [hat 0 (by omega)]; exact w.par0
  · exact w.par1 v hv h0
  · show ((m.at v).rules.map _).length = _
    rw [List.length_map]
    exact w.rules v hv
  · exact w.prices v hv
  · exact w.payouts v hv
  · exact w.bg v hv
  · exact w.bp v hv
  · exact w.by_ v hv
  · exact h.gr v hv
  · rw [loose_kids]; exact h.sk v hv
  · exact h.sb v hv
  · intro x hx
    obtain ⟨y, _, rfl⟩ := List.mem_map.mp hx
    show ("none" : Str) ∈ ruL
    unfold ruL
    simp
  · exact h.va v hv
theorem loosen_enc (n : Node) : encN (loosen n) = .tuple [.int n.parent, encQ n.growth, .list (n.rules.map fun _ => PyData.str "none"), encL n.prices, encL n.payouts, encL n.values] := by
  show PyData.tuple [_, _, .list ((n.rules.map fun _ => ("none" : Str)).map PyData.str), _, _, _] = _
  rw [List.map_map]
  rfl
def ph_loose (ds : List PyData) (r : PyData) : Prop := ∃ (m : Mkt) (sh : List (List Rat)), ds = [M.encM m] ∧ Mk m sh ∧ r = M.encM (looseM m)
theorem d_loose (A : At K mg "_law_loose" s_law_loose ["_law_market_here"]) : DfP P w K mg base 1 "_law_loose" 1 ph_loose := by
  obtain ⟨f, fd, F, hm, hb⟩ := A
  have nd := sc_law_loose.nd
  refine dfP F sc_law_loose rfl hm hb (fun cdv A outer s H E ds r hgd hr hl hp => ?_)
  obtain ⟨m, sh, rfl, hk, rfl⟩ := hp
  have hn11 : m.nodes.length ≤ 11 := hk.n11
  refine wp_seq (fun r o => r = [.d (M.encM m), .m 0, .un, .un, .un, .un, .un, .un, .un] ∧ o = [.lst []]) (wp1_set 1 nd (EvN.m (ws := []) (en_lst ea_nil)) ⟨rfl, rfl⟩) ?_
  rintro r o ⟨rfl, rfl⟩
  refine wp_seq (fun r o => ∃ u2 u3 u4 u5 u6 u7, r = [.d (M.encM m), .m 0, u2, u3, u4, u5, u6, u7, .un] ∧ o = [.lst (((m.nodes.map loosen).map encN).map G.W.d)])
    (wp1_forD (xs := m.nodes) encN (fun i r o => ∃ u2 u3 u4 u5 u6 u7, r = [.d (M.encM m), .m 0, u2, u3, u4, u5, u6, u7, .un] ∧ o = [.lst ((((m.nodes.take i).map loosen).map encN).map G.W.d)]) PassesOwn.never rfl
      (it_list (ev_ixT (ev_v 0 rfl) ev_int rfl)) ⟨_, _, _, _, _, _, rfl, rfl⟩ (fun i nd' r o hi hI => ?_) (fun r o hI => ?_)) ?_
  · obtain ⟨u2, u3, u4, u5, u6, u7, rfl, rfl⟩ := hI
    have hil := lt_of hi
    have hrl : nd'.rules.length ≤ 4 := by
      have := hk.wf.rules i hil
      have h4 := hk.wf.a4
      rw [at_get hil] at hi
      cases hi
      omega
    refine ⟨_, tg_tup rfl (tgs_cons (tg_name 2 nd) (tgs_cons (tg_name 3 nd) (tgs_cons (tg_name 4 nd) (tgs_cons (tg_name 5 nd) (tgs_cons (tg_name 6 nd) (tgs_cons (tg_name 7 nd) tgs_nil)))))), ?_⟩
    refine wp_one (wp1_expr (ev_append (ev_v 1 rfl) (ea_cons (ev_tup (ds := [_, _, _, _, _, _]) (ea_cons (ev_v 2 rfl) (ea_cons (ev_v 3 rfl) (ea_cons (EvN.d (ds := nd'.rules.map fun _ => PyData.str "none") (en_lc (lcd_dat (own := [("_law_rule", 8)]) PyData.str (fun _ => PyData.str "none") rfl nd (it_list (ev_v 4 rfl)) (blkOk_by (N := N_law_loose) (sc := defScope s_law_loose) (by decide +kernel)) (szl (by omega)) ?_)))
      (ea_cons (ev_v 5 rfl) (ea_cons (ev_v 6 rfl) (ea_cons (ev_v 7 rfl) ea_nil))))))) ea_nil) rfl ⟨_, rfl⟩ ?_) ⟨_, _, _, _, _, _, rfl, ?_⟩)
    · intro x hx
      exact ⟨_, fun s H C cl fp => tc_name 8 (by decide) nd, fun s H C cl fp => ev_str⟩
    · rw [List.length_map, List.length_map, List.length_map, List.length_take, sizeLine_eq]; omega
    · show [MO.lst (_ ++ [_])] = _
      rw [List.take_add_one, hi, Option.toList_some, List.map_append, List.map_append, List.map_append]
      show _ = [MO.lst (_ ++ [G.W.d (encN (loosen nd'))])]
      rw [loosen_enc]
  · obtain ⟨u2, u3, u4, u5, u6, u7, rfl, rfl⟩ := hI
    rw [List.take_length]
    exact ⟨_, _, _, _, _, _, rfl, rfl⟩
  · rintro r o ⟨u2, u3, u4, u5, u6, u7, rfl, rfl⟩
    exact wp_frz 0 (ds := (m.nodes.map loosen).map encN) rfl (wp_one (wp1_ret (ev_t3 (ev_ixT (ev_v 0 rfl) ev_int rfl) (ev_ixT (ev_v 0 rfl) ev_int rfl) (ev_v 1 rfl)) rfl))
end
end K

set_option Elab.async false
set_option linter.all false
set_option maxRecDepth 100000
set_option maxHeartbeats 400000
set_option exponentiation.threshold 20000
namespace K
open PySem PySem.Spec PyProof.Rows L2 G M
section
variable {P : Program} {w : World} {K : PySem.W.Frag} {mg : Str → Option Value} {base : Heap}
theorem bal_false {m : Mkt} {bs : List Rat} {v : Nat} (hv : v < m.n) (h : nodeOk m bs v = false) : lawBal m bs = false := by
  unfold lawBal
  rw [List.all_eq_false]
  exact ⟨v, List.mem_range.mpr hv, by simp [h]⟩
theorem all_succ (f : Nat → Bool) (i : Nat) : (List.range (i + 1)).all f = ((List.range i).all f && f i) := by
  rw [List.range_succ, List.all_append]
  simp
theorem bd_term {L B : Nat} {m : Mkt} {bs : List Rat} {v c a : Nat} (W : Wf L B m) (hb : Bds L B bs) (hl : bs.length = m.n) (hv : v < m.n) (hc : c < m.n) (ha : a < m.assets.length) : Bd (L * (L * L)) (B * (B + B + B * B)) (bs.getD c 0 * (gainsIn m v c).getD a 0) := by
  refine (hb _ (getD_in (by omega))).mul (gainsIn_bd W hv hc _ (getD_in ?_))
  rw [gainsIn_len W hv hc]
  exact ha
theorem term_sz {L B : Nat} (t : Tin L B) : L * (L * L) < 2 ^ 1800 ∧ B * (B + B + B * B) < 2 ^ 1802 := by
  obtain ⟨h1, h2⟩ := gain_sz t
  exact ⟨lt_mul t.l h1 (by decide), lt_mul t.b h2 (by decide)⟩
def ph_balanced (ds : List PyData) (r : PyData) : Prop := ∃ (L B : Nat) (m : Mkt) (bs : List Rat), ds = [M.encM m, encL bs] ∧ Wf L B m ∧ Bds L B bs ∧ bs.length = m.n ∧ r = .bool (lawBal m bs)
theorem d_balanced (A : At K mg "_law_balanced" s_law_balanced ["_law_market_here", "_law_masses_here"]) (m_len : mg "len" = none) (m_range : mg "range" = none) (Dc : DfP P w K mg base 1 "_law_children" 2 ph_children) (Dp : DfP P w K mg base 2 "_law_plus" 2 ph_plus) (Dx : DfP P w K mg base 2 "_law_times" 2 ph_times)
    (Dl : DfP P w K mg base 1 "_law_less" 2 ph_less) (Dg : DfP P w K mg base 4 "_law_gains" 2 ph_lgains) : DfP P w K mg base 5 "_law_balanced" 2 ph_balanced := by
  obtain ⟨f, fd, F, hm, hb⟩ := A
  have nd := sc_law_balanced.nd
  refine dfP F sc_law_balanced rfl hm hb (fun cdv A outer s H E ds r hgd hr hl hp => ?_)
  obtain ⟨L, B, m, bs, rfl, W, hbs, hbl, rfl⟩ := hp
  have hu : (cxG P w K mg base N_law_balanced "_law_balanced" s_law_balanced f cdv A outer s H E).A.units + 64 < cLine := hr.units
  have t := W.tin
  have hn60 := W.n60
  have ha4 := W.a4
  refine wp_seq (fun r o => lawBal m bs = true) (wp1_forR (lo := 0) (n := m.n) (fun i r o => ∃ u2 u3 u4 u5 u6 u7 u8, r = [.d (M.encM m), .d (encL bs), u2, u3, u4, u5, u6, u7, u8] ∧ (List.range i).all (nodeOk m bs) = true) PassesOwn.never rfl
    (it_rangeN m_range (ea_cons (ev_lenM m_len (ea_cons (ev_ixT (ev_v 0 rfl) ev_int rfl) ea_nil)) ea_nil) (by show m.n ≤ _; omega)) ⟨_, _, _, _, _, _, _, rfl, rfl⟩ (fun v r o hv hI => ?_) (fun r o hI => ?_)) ?_
  · obtain ⟨u2, u3, u4, u5, u6, u7, u8, rfl, hal⟩ := hI
    refine ⟨_, tg_name 2 nd, ?_⟩
    rw [Int.zero_add]
    have hkl := kids_len m v
    refine wp_seq (fun r o => r = [.d (M.encM m), .d (encL bs), .d (.int v), .d (natL (kids m v)), u4, u5, u6, u7, u8]) (wp1_set 3 nd (ev_call2 Dc hgd hr (by decide) (ev_v 0 rfl) (ev_v 2 rfl) ⟨L, B, m, v, rfl, W, rfl⟩) rfl) ?_
    rintro r o rfl
    refine wp_seq (fun r o => r = [.d (M.encM m), .d (encL bs), .d (.int v), .d (natL (kids m v)), u4, u5, u6, u7, u8] ∧ ¬ (kids m v).length = 0)
      (wp1_if (evt_eqI (ev_lenM m_len (ea_cons (ev_v 3 rfl) ea_nil)) ev_int) (fun h => wp_one (wp1_cont ⟨_, _, _, _, _, _, _, rfl, ?_⟩)) (fun h => wp_nil ⟨rfl, ?_⟩)) ?_
    · have h := of_decide_eq_true h
      rw [all_succ, hal]
      unfold nodeOk
      rw [decide_eq_true (show (kids m v).length = 0 by omega)]
      rfl
    · have h := of_decide_eq_false h
      omega
    rintro r o ⟨rfl, hne⟩
    have hbk : ∀ c ∈ kids m v, Bd L B (bs.getD c 0) := fun c hc => hbs _ (getD_in (by have := (kids_lt hc).1; omega))
    obtain ⟨fs, hfs⟩ : ∃ fs, fs = (kids m v).map fun c => bs.getD c 0 := ⟨_, rfl⟩
    have hfb : Bds L B fs := fun q hq => by
      rw [hfs] at hq
      obtain ⟨c, hc, rfl⟩ := List.mem_map.mp hq
      exact hbk c hc
    have z1 : L < 2 ^ 4000 := Nat.lt_of_lt_of_le t.l (pow_le (by decide))
    have z2 : (100 + 1) * B * L < 2 ^ 4000 := lt_mul (lt_mul (show 100 + 1 < 2 ^ 7 by decide) t.b (Nat.le_refl _)) t.l (by decide)
    have hfl : fs.length = (kids m v).length := by rw [hfs, List.length_map]
    refine wp_seq (fun r o => ∃ u5, r = [.d (M.encM m), .d (encL bs), .d (.int v), .d (natL (kids m v)), .d (encQ (sumQ [])), u5, u6, u7, u8]) (wp1_set 4 nd (ev_t2 ev_int ev_int) ⟨_, rfl⟩) ?_
    clear u5
    rintro r o ⟨u5, rfl⟩
    refine wp_seq (fun r o => ∃ u5, r = [.d (M.encM m), .d (encL bs), .d (.int v), .d (natL (kids m v)), .d (encQ (sumQ fs)), u5, u6, u7, u8])
      (wp1_forD (xs := kids m v) (fun (k : Nat) => PyData.int (k : Int)) (fun i r o => ∃ u5, r = [.d (M.encM m), .d (encL bs), .d (.int v), .d (natL (kids m v)), .d (encQ (sumQ (fs.take i))), u5, u6, u7, u8]) PassesOwn.never rfl
        (it_list (ev_v 3 rfl)) ⟨_, rfl⟩ (fun i c r o hi hI => ?_) (fun r o hI => ?_)) ?_
    · obtain ⟨u5, rfl⟩ := hI
      have hcm := List.mem_of_getElem? hi
      have hcl := kids_lt hcm
      have hfi : fs[i]? = some (bs.getD c 0) := by rw [hfs, List.getElem?_map, hi]; rfl
      refine ⟨_, tg_name 5 nd, wp_one (wp1_set 4 nd (ev_call2 Dp hgd hr (by decide) (ev_v 4 rfl) (ev_ixL (ev_v 1 rfl) (ev_v 5 rfl) (pick 0 (by omega))) ⟨_, _, rfl, (hfb.take i).sm t.l0 z1 z2 (by rw [List.length_take]; omega), t.sm (hbk c hcm), rfl⟩) ⟨.d (.int c), ?_⟩)⟩
      rw [List.take_add_one, hfi]
      show _ = [_, _, _, _, G.W.d (encQ (sumQ (_ ++ [_]))), _, _, _, _]
      rw [sumQ_snoc]
      rfl
    · obtain ⟨u5, rfl⟩ := hI
      rw [List.take_of_length_le (by omega)]
      exact ⟨_, rfl⟩
    clear u5
    rintro r o ⟨u5, rfl⟩
    have hfok : flowOk m bs v = decide ((m.at v).growth * sumQ fs = bs.getD v 0) := by rw [hfs]; rfl
    refine wp_seq (fun r o => r = [.d (M.encM m), .d (encL bs), .d (.int v), .d (natL (kids m v)), .d (encQ (sumQ fs)), u5, u6, u7, u8] ∧ flowOk m bs v = true)
      (wp1_if (evt_neD hu (ev_call2 Dx hgd hr (by decide) (ev_ixT (ev_ixL (ev_ixT (ev_v 0 rfl) ev_int rfl) (ev_v 2 rfl) (atN hv)) ev_int rfl) (ev_v 4 rfl) ⟨_, _, rfl, t.sm (W.bg v hv), hfb.sm t.l0 z1 z2 (by omega), rfl⟩) (ev_ixL (ev_v 1 rfl) (ev_v 2 rfl) (pick 0 (by omega))) (shaped_Q _) (shaped_Q _)) (fun h => ?_) (fun h => ?_)) ?_
    · rw [eqv_Q, ← hfok, Bool.not_eq_true'] at h
      refine wp_one (wp1_ret ev_bl ?_)
      show G.W.d _ = G.W.d _
      rw [bal_false hv (by unfold nodeOk; rw [h, decide_eq_false hne]; rfl)]
    · rw [eqv_Q, ← hfok, Bool.not_eq_false'] at h
      exact wp_nil ⟨rfl, h⟩
    rintro r o ⟨rfl, hfo⟩
    refine wp_one (wp1_forR (lo := 0) (n := m.assets.length) (fun a r o => ∃ u5 u6 u7 u8, r = [.d (M.encM m), .d (encL bs), .d (.int v), .d (natL (kids m v)), .d (encQ (sumQ fs)), u5, u6, u7, u8] ∧ ((List.range a).all fun a => ruleOk ((m.at v).rules.getD a "any") (meanQ m bs v a)) = true) PassesOwn.never rfl
      (it_rangeN m_range (ea_cons (ev_lenM m_len (ea_cons (ev_ixT (ev_v 0 rfl) ev_int rfl) ea_nil)) ea_nil) (by omega)) ⟨_, _, _, _, rfl, rfl⟩ (fun a r o ha hI => ?_) (fun r o hI => ?_))
    · clear u5 u6 u7 u8
      obtain ⟨u5, u6, u7, u8, rfl, hra⟩ := hI
      refine ⟨_, tg_name 6 nd, ?_⟩
      rw [Int.zero_add]
      obtain ⟨ms, hms⟩ : ∃ ms, ms = (kids m v).map fun c => bs.getD c 0 * (gainsIn m v c).getD a 0 := ⟨_, rfl⟩
      have hmb : Bds (L * (L * L)) (B * (B + B + B * B)) ms := fun q hq => by
        rw [hms] at hq
        obtain ⟨c, hc, rfl⟩ := List.mem_map.mp hq
        exact bd_term W hbs hbl hv (kids_lt hc).1 ha
      obtain ⟨s1, s2⟩ := term_sz t
      have y0 : 0 < L * (L * L) := Nat.mul_pos t.l0 (Nat.mul_pos t.l0 t.l0)
      have y1 : L * (L * L) < 2 ^ 4000 := Nat.lt_of_lt_of_le s1 (pow_le (by decide))
      have y2 : (100 + 1) * (B * (B + B + B * B)) * (L * (L * L)) < 2 ^ 4000 := lt_mul (lt_mul (show 100 + 1 < 2 ^ 7 by decide) s2 (Nat.le_refl _)) s1 (by decide)
      have hml : ms.length = (kids m v).length := by rw [hms, List.length_map]
      have hmq : meanQ m bs v a = sumQ ms := by rw [hms]; rfl
      refine wp_seq (fun r o => ∃ u5, r = [.d (M.encM m), .d (encL bs), .d (.int v), .d (natL (kids m v)), .d (encQ (sumQ fs)), u5, .d (.int a), .d (encQ (sumQ [])), u8]) (wp1_set 7 nd (ev_t2 ev_int ev_int) ⟨_, rfl⟩) ?_
      clear u5 u7
      rintro r o ⟨u5, rfl⟩
      refine wp_seq (fun r o => ∃ u5, r = [.d (M.encM m), .d (encL bs), .d (.int v), .d (natL (kids m v)), .d (encQ (sumQ fs)), u5, .d (.int a), .d (encQ (sumQ ms)), u8])
        (wp1_forD (xs := kids m v) (fun (k : Nat) => PyData.int (k : Int)) (fun i r o => ∃ u5, r = [.d (M.encM m), .d (encL bs), .d (.int v), .d (natL (kids m v)), .d (encQ (sumQ fs)), u5, .d (.int a), .d (encQ (sumQ (ms.take i))), u8]) PassesOwn.never rfl
          (it_list (ev_v 3 rfl)) ⟨_, rfl⟩ (fun i c r o hi hI => ?_) (fun r o hI => ?_)) ?_
      · obtain ⟨u5, rfl⟩ := hI
        have hcm := List.mem_of_getElem? hi
        have hcl := kids_lt hcm
        have hmi : ms[i]? = some (bs.getD c 0 * (gainsIn m v c).getD a 0) := by rw [hms, List.getElem?_map, hi]; rfl
        have hga : a < (gainsIn m v c).length := by rw [gainsIn_len W hv hcl.1]; exact ha
        have hgs : Sm ((gainsIn m v c).getD a 0) := by
          obtain ⟨q1, q2⟩ := gain_sz t
          exact (gainsIn_bd W hv hcl.1 _ (getD_in hga)).sm (Nat.lt_of_lt_of_le q1 (pow_le (by decide))) (lt_mul q2 q1 (by decide))
        refine ⟨_, tg_name 5 nd, wp_one (wp1_set 7 nd (ev_call2 Dp hgd hr (by decide) (ev_v 7 rfl) (ev_call2 Dx hgd hr (by decide) (ev_ixL (ev_v 1 rfl) (ev_v 5 rfl) (pick 0 (by omega))) (ev_ixL (ev_call2 Dg hgd hr (by decide) (ev_v 0 rfl) (ev_v 5 rfl) ⟨L, B, m, v, c, rfl, W, hv, hcl.1, hcl.2, rfl⟩) (ev_v 6 rfl) (pick 0 hga))
          ⟨_, _, rfl, t.sm (hbk c hcm), hgs, rfl⟩) ⟨_, _, rfl, (hmb.take i).sm y0 y1 y2 (by rw [List.length_take]; omega), hmb.sm1 y1 y2 (List.mem_of_getElem? hmi), rfl⟩) ⟨.d (.int c), ?_⟩)⟩
        rw [List.take_add_one, hmi]
        show _ = [_, _, _, _, _, _, _, G.W.d (encQ (sumQ (_ ++ [_]))), _]
        rw [sumQ_snoc]
        rfl
      · obtain ⟨u5, rfl⟩ := hI
        rw [List.take_of_length_le (by omega)]
        exact ⟨_, rfl⟩
      clear u5
      rintro r o ⟨u5, rfl⟩
      have hrl : a < (m.at v).rules.length := by rw [W.rules v hv]; exact ha
      have hsm : Sm (sumQ ms) := hmb.sm y0 y1 y2 (by omega)
      obtain ⟨ru, hru⟩ : ∃ ru, ru = (m.at v).rules.getD a "any" := ⟨_, rfl⟩
      refine wp_seq (fun r o => r = [.d (M.encM m), .d (encL bs), .d (.int v), .d (natL (kids m v)), .d (encQ (sumQ fs)), u5, .d (.int a), .d (encQ (sumQ ms)), .d (.str ru)]) (wp1_set 8 nd (ev_ixL (ev_ixT (ev_ixL (ev_ixT (ev_v 0 rfl) ev_int rfl) (ev_v 2 rfl) (atN hv)) ev_int rfl) (ev_v 6 rfl) (pick (xs := (m.at v).rules) (f := PyData.str) "any" hrl)) (by rw [hru]; rfl)) ?_
      rintro r o rfl
      have hbad : ruleOk ru (sumQ ms) = false → lawBal m bs = false := fun h => bal_false hv (by
        unfold nodeOk
        rw [hfo, decide_eq_false hne, Bool.false_or, Bool.true_and, List.all_eq_false]
        exact ⟨a, List.mem_range.mpr ha, by rw [← hru, hmq, h]; simp⟩)
      have he0 : PyData.eqv (encQ (sumQ ms)) (.tuple [.int 0, .int 1]) = decide (sumQ ms = 0) := eqv_Q _ 0
      refine wp_seq (fun r o => r = [.d (M.encM m), .d (encL bs), .d (.int v), .d (natL (kids m v)), .d (encQ (sumQ fs)), u5, .d (.int a), .d (encQ (sumQ ms)), .d (.str ru)] ∧ (decide (ru = "any") && !decide (sumQ ms = 0)) = false)
        (wp1_if (evw_t (evw_andP (evt_eqS (ev_v 8 rfl) ev_str) fun _ => evw_and1 (evt_neD hu (ev_v 7 rfl) (ev_t2 ev_int ev_int) (shaped_Q _) (shaped_Q 0)))) (fun h => ?_) (fun h => ?_)) ?_
      · rw [he0] at h
        refine wp_one (wp1_ret ev_bl ?_)
        show G.W.d _ = G.W.d _
        rw [hbad (by unfold ruleOk; rw [h]; rfl)]
      · rw [he0] at h
        exact wp_nil ⟨rfl, h⟩
      rintro r o ⟨rfl, hany⟩
      refine wp_one (wp1_if (evw_t (evw_orP (evw_t (evw_andP (evt_eqS (ev_v 8 rfl) ev_str) fun _ => evw_and1 (evt_b (ev_call2 Dl hgd hr (by decide) (ev_t2 ev_int ev_int) (ev_v 7 rfl) ⟨0, sumQ ms, rfl, sm_zero, hsm, rfl⟩)))) fun _ => evw_or1 (evw_t (evw_andP (evt_eqS (ev_v 8 rfl) ev_str) fun _ => evw_and1 (evt_b (ev_call2 Dl hgd hr (by decide) (ev_v 7 rfl) (ev_t2 ev_int ev_int) ⟨sumQ ms, 0, rfl, hsm, sm_zero, rfl⟩)))))) (fun h => ?_) (fun h => ?_))
      · refine wp_one (wp1_ret ev_bl ?_)
        show G.W.d _ = G.W.d _
        rw [hbad (by unfold ruleOk; rw [h, Bool.and_comm]; rfl)]
      · refine wp_nil ⟨_, _, _, _, rfl, ?_⟩
        rw [all_succ, hra, ← hru, hmq]
        unfold ruleOk
        rw [h, hany]
        rfl
    · obtain ⟨u5, u6, u7, u8, rfl, hra⟩ := hI
      refine ⟨_, _, _, _, _, _, _, rfl, ?_⟩
      rw [all_succ, hal]
      unfold nodeOk
      rw [hfo, hra, Bool.true_and, Bool.and_true, Bool.or_true]
  · obtain ⟨u2, u3, u4, u5, u6, u7, u8, rfl, hal⟩ := hI
    exact hal
  · rintro r o h
    refine wp_one (wp1_ret ev_bl ?_)
    show G.W.d _ = G.W.d _
    rw [h]
end
end K

set_option Elab.async false
set_option linter.all false
set_option maxRecDepth 100000
set_option maxHeartbeats 400000
/-! the plain law: the rows of the document say what the law looks at node by node -/
namespace M
open PySem
theorem dot_set : ∀ (r bs : List Rat) (c : Nat) (x : Rat), c < r.length → r.length = bs.length → dotQ (r.set c x) bs = dotQ r bs + (x - r.getD c 0) * bs.getD c 0
  | [], _, _, _, h, _ => by simp at h
  | a :: r, [], _, _, _, h => by simp at h
  | a :: r, b :: bs, 0, x, _, _ => by
    show x * b + sumQ _ = a * b + sumQ _ + (x - a) * b
    grind
  | a :: r, b :: bs, c + 1, x, h, hl => by
    have ih := dot_set r bs c x (by simpa using h) (by simpa using hl)
    show a * b + dotQ (r.set c x) bs = a * b + dotQ r bs + (x - (r.getD c 0)) * (bs.getD c 0)
    rw [ih]
    grind
theorem getD_set_ne {r : List Rat} {c d : Nat} {x : Rat} (h : c ≠ d) : (r.set c x).getD d 0 = r.getD d 0 := by
  rw [List.getD_eq_getElem?_getD, List.getElem?_set_ne h, ← List.getD_eq_getElem?_getD]
theorem dot_fold (f : Nat → Rat) (bs : List Rat) : ∀ (ks : List Nat) (r : List Rat), ks.Nodup → (∀ c ∈ ks, c < r.length ∧ r.getD c 0 = 0) → r.length = bs.length →
    dotQ (ks.foldl (fun r c => r.set c (f c)) r) bs = dotQ r bs + sumQ (ks.map fun c => f c * bs.getD c 0)
  | [], r, _, _, _ => by
    show dotQ r bs = dotQ r bs + 0
    rw [Rat.add_zero]
  | k :: ks, r, hn, hz, hl => by
    have hn' := List.nodup_cons.mp hn
    have h1 := hz k (by simp)
    rw [List.foldl_cons, dot_fold f bs ks (r.set k (f k)) hn'.2 (fun c hc => by
      have h2 := hz c (by simp [hc])
      have hne : k ≠ c := fun e => hn'.1 (e ▸ hc)
      exact ⟨by rw [List.length_set]; exact h2.1, by rw [getD_set_ne hne]; exact h2.2⟩) (by rw [List.length_set]; exact hl), dot_set r bs k _ h1.1 hl, h1.2]
    show _ = dotQ r bs + (f k * bs.getD k 0 + sumQ _)
    grind
theorem dot_zeros : ∀ (n : Nat) (bs : List Rat), dotQ (List.replicate n 0) bs = 0
  | 0, _ => by simp [dotQ, sumQ]
  | n + 1, [] => by simp [dotQ, sumQ]
  | n + 1, b :: bs => by
    rw [List.replicate_succ]
    show 0 * b + dotQ (List.replicate n 0) bs = 0
    rw [dot_zeros n bs]
    grind
theorem kids_nodup (m : Mkt) (v : Nat) : (kids m v).Nodup := List.Pairwise.filter _ List.nodup_range
theorem rep_getD (n c : Nat) : (List.replicate n (0 : Rat)).getD c 0 = 0 := by
  rw [List.getD_eq_getElem?_getD, List.getElem?_replicate]
  split <;> rfl
theorem sumQ_mul (g : Rat) : ∀ l : List Rat, sumQ (l.map fun x => g * x) = g * sumQ l
  | [] => by simp [sumQ]
  | x :: l => by
    show g * x + sumQ _ = g * (x + sumQ l)
    rw [sumQ_mul g l]
    grind
theorem flow_dot {L B : Nat} {m : Mkt} (W : Wf L B m) {v : Nat} (hv : v < m.n) {bs : List Rat} (hl : bs.length = m.n) : dotQ (flowRow m v) bs = (m.at v).growth * sumQ ((kids m v).map fun c => bs.getD c 0) - bs.getD v 0 := by
  have hvk : ∀ c ∈ kids m v, c < m.n ∧ v ≠ c := fun c hc => by
    obtain ⟨h1, h2⟩ := kids_lt hc
    have := W.par c h1
    exact ⟨h1, by omega⟩
  unfold flowRow
  rw [dot_fold (fun _ => (m.at v).growth) bs _ _ (kids_nodup m v) (fun c hc => ?_) (by simp [hl]), dot_set _ _ _ _ (by simp; exact hv) (by simp [hl]), dot_zeros, rep_getD]
  · have e : ((kids m v).map fun c => (m.at v).growth * bs.getD c 0) = ((kids m v).map fun c => bs.getD c 0).map fun x => (m.at v).growth * x := by rw [List.map_map]; rfl
    rw [e, sumQ_mul]
    grind
  · obtain ⟨h1, h2⟩ := hvk c hc
    exact ⟨by simp; exact h1, by rw [getD_set_ne h2, rep_getD]⟩
theorem gain_dot {m : Mkt} {v a : Nat} {bs : List Rat} (hl : bs.length = m.n) : dotQ (gainRow m v a) bs = meanQ m bs v a := by
  unfold gainRow
  rw [dot_fold (fun c => (gainsIn m v c).getD a 0) bs _ _ (kids_nodup m v) (fun c hc => ⟨by simp; exact (kids_lt hc).1, rep_getD _ _⟩) (by simp [hl]), dot_zeros, Rat.zero_add]
  unfold meanQ
  congr 1
  apply List.map_congr_left
  intro c _
  exact Rat.mul_comm _ _
theorem turned_dot : ∀ (r bs : List Rat), dotQ (turned r) bs = - dotQ r bs
  | [], _ => by simp [turned, dotQ, sumQ]
  | a :: r, [] => by simp [turned, dotQ, sumQ]
  | a :: r, b :: bs => by
    have ih := turned_dot r bs
    show (-1) * a * b + dotQ (turned r) bs = -(a * b + dotQ r bs)
    rw [ih]
    grind
theorem fulf_append (a b : List Row) (ms : List Rat) : fulfQ (a ++ b) ms = (fulfQ a ms && fulfQ b ms) := by
  unfold fulfQ
  exact List.all_append
theorem neg_pos (q : Rat) : decide (0 < -q) = decide (q < 0) := decide_eq_decide.mpr ⟨fun h => by grind, fun h => by grind⟩
theorem signed_fulf (lab : List PyData) (row ms : List Rat) (signs : List Int) : fulfQ (signed lab row signs) ms = signs.all fun s => if s = 1 then !decide (0 < dotQ row ms) else !decide (dotQ row ms < 0) := by
  unfold fulfQ signed
  rw [List.all_map]
  congr 1
  funext s
  show (!decide (0 < dotQ (if s = 1 then row else turned row) ms)) = _
  by_cases h : s = 1
  · rw [if_pos h, if_pos h]
  · rw [if_neg h, if_neg h, turned_dot, neg_pos]
theorem two_zero (q : Rat) : (!decide (0 < q) && !decide (q < 0)) = decide (q = 0) := by
  by_cases h1 : 0 < q
  · rw [decide_eq_true h1, decide_eq_false (show ¬ q = 0 by grind)]; rfl
  · by_cases h2 : q < 0
    · rw [decide_eq_true h2, decide_eq_false (show ¬ q = 0 by grind), Bool.and_comm]; rfl
    · rw [decide_eq_false h1, decide_eq_false h2, decide_eq_true (show q = 0 by grind)]; rfl
theorem rule_fulf (lab : List PyData) (row ms : List Rat) (rule : Str) : fulfQ (signed lab row (signsOf rule)) ms = ruleOk rule (dotQ row ms) := by
  rw [signed_fulf]
  unfold signsOf ruleOk
  by_cases h1 : rule = "any"
  · subst h1
    rw [if_pos rfl]
    show ((if (1 : Int) = 1 then _ else _) && ((if (-1 : Int) = 1 then _ else _) && true)) = _
    rw [if_pos rfl, if_neg (by decide), Bool.and_true, two_zero]
    have e1 : decide (("any" : Str) = "long") = false := by decide +kernel
    have e2 : decide (("any" : Str) = "short") = false := by decide +kernel
    rw [e1, e2]
    simp
  · rw [if_neg h1]
    by_cases h2 : rule = "long"
    · subst h2
      rw [if_pos rfl]
      show ((if (1 : Int) = 1 then _ else _) && true) = _
      have e1 : decide (("long" : Str) = "any") = false := by decide +kernel
      have e2 : decide (("long" : Str) = "short") = false := by decide +kernel
      rw [if_pos rfl, e1, e2]
      simp
    · rw [if_neg h2]
      by_cases h3 : rule = "short"
      · subst h3
        rw [if_pos rfl]
        show ((if (-1 : Int) = 1 then _ else _) && true) = _
        have e1 : decide (("short" : Str) = "any") = false := by decide +kernel
        have e2 : decide (("short" : Str) = "long") = false := by decide +kernel
        rw [if_neg (by decide), e1, e2]
        simp
      · rw [if_neg h3, decide_eq_false h1, decide_eq_false h2, decide_eq_false h3]
        rfl
theorem gains_fulf {m : Mkt} {v : Nat} {bs : List Rat} (hl : bs.length = m.n) (d : Str) : ∀ j, j ≤ (m.at v).rules.length → fulfQ (gainRows m v j) bs = (List.range j).all fun a => ruleOk ((m.at v).rules.getD a d) (meanQ m bs v a)
  | 0, _ => rfl
  | j + 1, hj => by
    rw [gainRows_succ, fulf_append, gains_fulf hl d j (by omega), rule_fulf, gain_dot hl, List.range_succ, List.all_append]
    have e : (m.at v).rules.getD j default = (m.at v).rules.getD j d := by
      rw [List.getD_eq_getElem?_getD, List.getD_eq_getElem?_getD, List.getElem?_eq_getElem (by omega)]
      rfl
    rw [e]
    simp
theorem at_fulf {L B : Nat} {m : Mkt} (W : Wf L B m) {v : Nat} (hv : v < m.n) {bs : List Rat} (hl : bs.length = m.n) : fulfQ (rowsAt m v) bs = (flowOk m bs v && (List.range m.assets.length).all fun a => ruleOk ((m.at v).rules.getD a "any") (meanQ m bs v a)) := by
  unfold rowsAt
  rw [fulf_append, signed_fulf, gains_fulf hl "any" _ (Nat.le_refl _), W.rules v hv]
  congr 1
  show ((if (1 : Int) = 1 then _ else _) && ((if (-1 : Int) = 1 then _ else _) && true)) = _
  rw [if_pos rfl, if_neg (by decide), Bool.and_true, two_zero, flow_dot W hv hl]
  unfold flowOk
  exact decide_eq_decide.mpr ⟨fun h => by grind, fun h => by grind⟩
theorem inner_iff {m : Mkt} {v : Nat} : decide ((v : Int) ∈ m.nodes.map (·.parent)) = !decide ((kids m v).length = 0) := by
  rw [← decide_not]
  apply decide_eq_decide.mpr
  constructor
  · intro h
    obtain ⟨nd, hnd, he⟩ := List.mem_map.mp h
    obtain ⟨c, hc⟩ := List.getElem?_of_mem hnd
    have hcl : c < m.n := (List.getElem?_eq_some_iff.mp hc).1
    have hat := at_get hcl
    rw [hc] at hat
    injection hat with hat
    have : c ∈ kids m v := kid_mem hcl (by rw [← hat]; exact he)
    have := List.length_pos_of_mem this
    omega
  · intro h
    obtain ⟨c, hc⟩ : ∃ c, c ∈ kids m v := by
      cases e : kids m v with
      | nil => rw [e] at h; simp at h
      | cons x xs => exact ⟨x, by simp⟩
    obtain ⟨h1, h2⟩ := kids_lt hc
    exact List.mem_map.mpr ⟨m.at c, List.mem_of_getElem? (at_get h1), h2⟩
theorem plain {L B : Nat} {m : Mkt} (W : Wf L B m) {bs : List Rat} (hl : bs.length = m.n) : fulfQ (massRows m) bs = lawBal m bs := by
  unfold massRows rowsOf fulfQ lawBal inner
  rw [List.all_flatMap, List.all_filter]
  apply Bool.eq_iff_iff.mpr
  rw [List.all_eq_true, List.all_eq_true]
  have key : ∀ v, v < m.n → (((!decide ((v : Int) ∈ m.nodes.map (·.parent))) || (rowsAt m v).all fun r => !decide (0 < dotQ r.2 bs)) = nodeOk m bs v) := fun v hv => by
    have := at_fulf W hv hl
    unfold fulfQ at this
    rw [this, inner_iff, Bool.not_not]
    rfl
  constructor
  · intro h v hv
    rw [← key v (List.mem_range.mp hv)]
    exact h v hv
  · intro h v hv
    have := h v hv
    rw [← key v (List.mem_range.mp hv)] at this
    exact this
theorem isBal_eq {L B : Nat} {m : Mkt} (W : Wf L B m) (bs : List Rat) : isBalQ m bs = (decide (bs.length = m.n) && (decide (bs.getD 0 1 = 0) && lawBal m bs)) := by
  unfold isBalQ
  rw [Bool.decide_and, Bool.and_assoc]
  by_cases h : bs.length = m.n
  · rw [plain W h]
  · rw [decide_eq_false h]
    rfl
end M

set_option Elab.async false
set_option linter.all false
set_option maxRecDepth 100000
set_option maxHeartbeats 400000
set_option exponentiation.threshold 20000
/-! how long what is shown can be -/
namespace M
open PySem
structure Sw (n k : Nat) (d : PyData) : Prop where
  s : d.showable = true
  l : d.shown.length ≤ n
  d : d.depth ≤ k
theorem Sw.mono {n k n' k' : Nat} {d : PyData} (h : Sw n k d) (h1 : n ≤ n') (h2 : k ≤ k') : Sw n' k' d := ⟨h.s, Nat.le_trans h.l h1, Nat.le_trans h.d h2⟩
theorem sw_int {i : Int} (h : i.natAbs.log2 < 1920) : Sw 1921 1 (.int i) := by
  refine ⟨?_, ?_, ?_⟩
  · simp only [PyData.showable, decide_eq_true h]
  · simp only [PyData.shown]
    exact PyProof.Rows.int_text_len_1921 h
  · simp [PyData.depth]
theorem sw_all {n k : Nat} : ∀ {xs : List PyData}, (∀ x ∈ xs, Sw n k x) → PyData.showableAll xs = true ∧ ((PyData.shownAll xs).map (·.length)).sum ≤ n * xs.length ∧ (PyData.shownAll xs).length = xs.length ∧ PyData.depthAll xs ≤ k
  | [], _ => by simp [PyData.showableAll, PyData.shownAll, PyData.depthAll]
  | x :: xs, h => by
    obtain ⟨h1, h2, h3, h4⟩ := sw_all (xs := xs) fun y hy => h y (by simp [hy])
    have hx := h x (by simp)
    have hl := hx.l
    have hd := hx.d
    refine ⟨?_, ?_, ?_, ?_⟩
    · simp only [PyData.showableAll, hx.s, h1, Bool.and_self]
    · simp only [PyData.shownAll, List.map_cons, List.sum_cons, List.length_cons, Nat.mul_succ]
      omega
    · simp only [PyData.shownAll, List.length_cons, h3]
    · simp only [PyData.depthAll]
      omega
theorem sw_list {n k l : Nat} {xs : List PyData} (h : ∀ x ∈ xs, Sw n k x) (hl : xs.length ≤ l) : Sw ((n + 2) * l + 3) (k + 1) (.list xs) := by
  obtain ⟨h1, h2, h3, h4⟩ := sw_all h
  have e : (n + 2) * xs.length ≤ (n + 2) * l := Nat.mul_le_mul_left _ hl
  rw [Nat.add_mul] at e
  refine ⟨?_, ?_, ?_⟩
  · simp only [PyData.showable, h1]
  · have := listText_len_le (PyData.shownAll xs)
    simp only [PyData.shown]
    omega
  · simp only [PyData.depth]
    omega
theorem sw_tuple {n k l : Nat} {xs : List PyData} (h : ∀ x ∈ xs, Sw n k x) (hl : xs.length ≤ l) : Sw ((n + 2) * l + 3) (k + 1) (.tuple xs) := by
  obtain ⟨h1, h2, h3, h4⟩ := sw_all h
  have e : (n + 2) * xs.length ≤ (n + 2) * l := Nat.mul_le_mul_left _ hl
  rw [Nat.add_mul] at e
  refine ⟨?_, ?_, ?_⟩
  · simp only [PyData.showable, h1]
  · have := tupleText_len_le (PyData.shownAll xs)
    simp only [PyData.shown]
    omega
  · simp only [PyData.depth]
    omega
theorem log_lt {n k : Nat} (h : n < 2 ^ k) (hk : 0 < k) : n.log2 < k := by
  by_cases z : n = 0
  · subst z; simpa using hk
  · exact (Nat.log2_lt z).mpr h
theorem sw_Q {q : Rat} (h : q.num.natAbs < 2 ^ 1900) (h2 : q.den < 2 ^ 1900) : Sw 3849 2 (encQ q) := by
  refine sw_tuple (n := 1921) (l := 2) (fun x hx => ?_) (Nat.le_refl _)
  simp only [List.mem_cons, List.not_mem_nil, or_false] at hx
  rcases hx with rfl | rfl
  · exact sw_int (Nat.lt_trans (log_lt h (by decide)) (by decide))
  · exact sw_int (by rw [Int.natAbs_natCast]; exact Nat.lt_trans (log_lt h2 (by decide)) (by decide))
theorem sw_top {q : Rat} (h : Bd (Lp 0) (Bp 0) q) : Sw 3849 2 (encQ q) := by
  obtain ⟨h1, h2⟩ := h.num_le
  have h3 := Lp_lt 0
  have h4 : Bp 0 * Lp 0 < 2 ^ 1900 := lt_mul (Bp_lt 0) h3 (by decide)
  exact sw_Q (Nat.lt_of_le_of_lt h1 h4) (Nat.lt_of_le_of_lt h2 (Nat.lt_of_lt_of_le h3 (pow_le (by decide))))
theorem sw_L {qs : List Rat} (h : Bds (Lp 0) (Bp 0) qs) {l : Nat} (hl : qs.length ≤ l) : Sw (3851 * l + 3) 3 (encL qs) := sw_list (fun x hx => by
  obtain ⟨q, hq, rfl⟩ := List.mem_map.mp hx
  exact sw_top (h q hq)) (by rw [List.length_map]; exact hl)
theorem sw_S {xs : List Str} (h : ∀ x ∈ xs, x ∈ asL ∨ x ∈ ruL) (hl : xs.length ≤ 4) : Sw 15407 3 (encS xs) := by
  refine (sw_list (n := 3849) (k := 2) (l := 4) (fun d hd => ?_) (by rw [List.length_map]; exact hl)).mono (by decide) (by decide)
  obtain ⟨x, hx, rfl⟩ := List.mem_map.mp hd
  have key : ∀ x ∈ asL ++ ruL, Sw 3849 2 (.str x) := by
    have h1 : ∀ x ∈ asL ++ ruL, (PyData.shown (.str x)).length ≤ 3849 ∧ PyData.depth (.str x) ≤ 2 := by decide +kernel
    exact fun x hx => ⟨by simp only [PyData.showable], (h1 x hx).1, (h1 x hx).2⟩
  exact key x (List.mem_append.mpr (h x hx))
end M
namespace K
open PySem G M
theorem sw_market {m : Mkt} {sh : List (List Rat)} (h : Mk m sh) : Sw 3051165 6 (M.encM m) := by
  have hn : m.nodes.length ≤ 11 := h.n11
  have w := h.wf
  have ha4 := w.a4
  have z : Sw 15407 3 (encL []) := (sw_L (qs := []) (fun q hq => by cases hq) (l := 4) (by decide))
  have hnode : ∀ v, v < m.n → Sw 92457 4 (encN (m.at v)) := fun v hv => by
    refine sw_tuple (n := 15407) (k := 3) (l := 6) (fun x hx => ?_) (Nat.le_refl _)
    simp only [List.mem_cons, List.not_mem_nil, or_false] at hx
    rcases hx with rfl | rfl | rfl | rfl | rfl | rfl
    · refine (sw_int (Nat.lt_of_lt_of_le (log_lt (n := (m.at v).parent.natAbs) (k := 10) ?_ (by decide)) (by decide))).mono (by decide) (by decide)
      have h1 := w.par v hv
      rcases Nat.eq_zero_or_pos v with z | z
      · subst z; rw [w.par0]; decide
      · have h2 := w.par1 v hv z
        have h3 : m.n ≤ 11 := h.n11
        have : (2 : Nat) ^ 10 = 1024 := by decide
        omega
    · exact (sw_top (w.bg v hv)).mono (by decide) (by decide)
    · exact sw_S (fun x hx => .inr (h.ru v hv x hx)) (by rw [w.rules v hv]; exact ha4)
    · exact sw_L (w.bp v hv) (by rw [w.prices v hv]; exact ha4)
    · exact sw_L (w.by_ v hv) (by rw [w.payouts v hv]; exact ha4)
    · rw [h.va v hv]; exact z
  refine sw_tuple (n := 1017052) (k := 5) (l := 3) (fun x hx => ?_) (Nat.le_refl _)
  simp only [List.mem_cons, List.not_mem_nil, or_false] at hx
  rcases hx with rfl | rfl | rfl
  · exact (sw_S (fun x hx => .inl (h.an x hx)) ha4).mono (by decide) (by decide)
  · rw [h.sn]
    exact (sw_S (xs := []) (fun x hx => by cases hx) (by decide)).mono (by decide) (by decide)
  · refine sw_list (n := 92457) (k := 4) (l := 11) (fun x hx => ?_) (by rw [List.length_map]; exact hn)
    obtain ⟨nd, hnd, rfl⟩ := List.mem_map.mp hx
    obtain ⟨v, hv⟩ := List.getElem?_of_mem hnd
    have hvn : v < m.n := (List.getElem?_eq_some_iff.mp hv).1
    rw [at_get hvn] at hv
    injection hv with hv
    rw [← hv]
    exact hnode v hvn
theorem sw_three {m : Mkt} {sh : List (List Rat)} (h : Mk m sh) {ps bs : List Rat} (h1 : Bds (Lp 0) (Bp 0) ps) (h2 : Bds (Lp 0) (Bp 0) bs) (l1 : ps.length ≤ 20) (l2 : bs.length ≤ 20) :
    (PyData.tuple [M.encM m, encL ps, encL bs]).showable = true ∧ (PyData.tuple [M.encM m, encL ps, encL bs]).shown.length ≤ sizeLine ∧ (PyData.tuple [M.encM m, encL ps, encL bs]).depth ≤ 60 := by
  have := sw_tuple (n := 3051165) (k := 6) (l := 3) (xs := [M.encM m, encL ps, encL bs]) (fun x hx => by
    simp only [List.mem_cons, List.not_mem_nil, or_false] at hx
    rcases hx with rfl | rfl | rfl
    · exact sw_market h
    · exact (sw_L h1 l1).mono (by decide) (by decide)
    · exact (sw_L h2 l2).mono (by decide) (by decide)) (Nat.le_refl _)
  exact ⟨this.s, Nat.le_trans this.l (by rw [sizeLine_eq]; decide), Nat.le_trans this.d (by decide)⟩
end K

set_option Elab.async false
set_option linter.all false
set_option maxRecDepth 100000
set_option maxHeartbeats 400000
set_option exponentiation.threshold 20000
namespace K
open PySem PySem.Spec PyProof.Rows L2 G M
section
variable {P : Program} {w : World} {K : PySem.W.Frag} {mg : Str → Option Value} {base : Heap}
theorem cut_tail {α : Type} (xs : List α) : cutA xs (some 1) none = xs.drop 1 := by
  unfold cutA
  have h : HT.sIx xs.length 0 (some 1) = min 1 xs.length := rfl
  rw [h]
  show (xs.drop (min 1 xs.length)).take (xs.length - min 1 xs.length) = _
  cases xs with
  | nil => rfl
  | cons x xs =>
    have e : min 1 (x :: xs).length = 1 := by simp
    rw [e]
    simp
theorem mone_bd {L B : Nat} {q : Rat} (h : Bd L B q) : Bd L B ((-1) * q) := by
  rw [show (-1 : Rat) * q = -q by grind]
  exact h.neg
def pre_changed (ss ds : List PyData) : Prop := ∃ (S : Strm) (bs : List Rat), ss = S.enc ∧ ds = [encL bs] ∧ 1 ≤ bs.length ∧ bs.length ≤ 11 ∧ Bds (Lp 0) 410000 bs
def R_changed (ss ds : List PyData) (r : PyData) (ss' : List PyData) : Prop := ∃ (S : Strm) (bs : List Rat), ss' = S.enc ∧ r = encL bs ∧ bs.length ≤ 12 ∧ Bds (Lp 0) 900000 bs
theorem d_changed (A : At K mg "_law_changed" s_law_changed ["_law_stream", "_law_balances"]) (m_len : mg "len" = none) (m_list : mg "list" = none) (D : DfM P w K mg base 1 "_law_draw" 1 ph_draw) (Da : DfM P w K mg base 2 "_law_amount" 0 ph_amount) (Dp : DfP P w K mg base 2 "_law_plus" 2 ph_plus) (Dx : DfP P w K mg base 2 "_law_times" 2 ph_times) :
    DfMR P w K mg base 3 "_law_changed" 1 pre_changed R_changed := by
  obtain ⟨f, fd, F, hm, hb⟩ := A
  have nd := sc_law_changed.nd
  refine dfMR F sc_law_changed rfl hm hb (fun cdv A outer s H E ss ds hgd hr hl hp => ?_)
  obtain ⟨S, bs, rfl, rfl, hl1, hl11, hbs⟩ := hp
  refine wp_seq (fun r o => r = [.m 0, .d (encL bs), .m 1, .un, .un, .un] ∧ o = [stW S, rowW bs]) (wp1_set 2 nd (EvN.m (en_list m_list (ea_cons (ev_v 1 rfl) ea_nil) rfl)) ⟨rfl, rfl⟩) ?_
  rintro r o ⟨rfl, rfl⟩
  obtain ⟨kd, hkd⟩ : ∃ kd, kd = drawV S 4 := ⟨_, rfl⟩
  refine wp_seq (fun r o => r = [.m 0, .d (encL bs), .m 1, .d (.int (kd : Nat)), .un, .un] ∧ o = [stW (drawS S 4), rowW bs]) (wp1_set 3 nd (ev_callM1 D hgd hr (by decide) (ev_v 0 rfl) ev_int rfl ⟨S, 4, rfl, rfl, by decide, by decide, rfl, rfl⟩) ⟨by rw [hkd]; rfl, rfl⟩) ?_
  rintro r o ⟨rfl, rfl⟩
  have hlb : ((bs.map encQ).map G.W.d).length = bs.length := by rw [List.length_map, List.length_map]
  have hat := drawV_lt (drawS S 4) (show 0 < bs.length by omega)
  obtain ⟨j, hj⟩ : ∃ j, j = drawV (drawS S 4) bs.length := ⟨_, rfl⟩
  rw [← hj] at hat
  refine wp_seq (fun r o => ∃ S, r = [.m 0, .d (encL bs), .m 1, .d (.int (kd : Nat)), .d (.int (j : Nat)), .un] ∧ o = [stW S, rowW bs]) (wp1_set 4 nd (ev_callM1 D hgd hr (by decide) (ev_v 0 rfl) (ev_len m_len (ea_cons (ev_v 2 rfl) ea_nil) rfl) rfl ⟨drawS S 4, bs.length, rfl, by rw [hlb], by omega, by omega, rfl, rfl⟩) ⟨_, by rw [hj]; rfl, rfl⟩) ?_
  rintro r o ⟨S1, rfl, rfl⟩
  have hx := getD_some (xs := bs) 0 hat
  have hbq := hbs _ (List.mem_of_getElem? hx)
  have hup : ∀ q ∈ bs, Bd (Lp 0) 900000 q := fun q hq => (hbs q hq).mono (Nat.dvd_refl _) (Lp_pos 0) (by decide)
  refine wp_seq (fun r o => ∃ S b2, b2.length = bs.length ∧ Bds (Lp 0) 900000 b2 ∧ r = [.m 0, .d (encL bs), .m 1, .d (.int (kd : Nat)), .d (.int (j : Nat)), .un] ∧ o = [stW S, rowW b2])
    (wp1_if (evt_eqI (ev_v 3 rfl) ev_int) (fun _ => wp_one (wp1_setix (ev_call2 Dp hgd hr (by decide) (ev_ixM (ev_v 2 rfl) (ev_v 4 rfl) rfl (atD 0 hat)) (ev_callM0 Da hgd hr (by decide) (ev_v 0 rfl) rfl ⟨S1, rfl, rfl, rfl, rfl⟩) ⟨_, _, rfl, top_sm hbq (by decide), six_sm (amt_bd S1) (by decide), rfl⟩) (ev_v 2 rfl) (ev_v 4 rfl) rfl (ixN_nat (by rw [hlb]; exact hat))
      ⟨amtS S1, bs.set j (bs.getD j 0 + amtQ S1), by rw [List.length_set], fun q hq => ?_, rfl, ?_⟩)) (fun _ => wp_nil ⟨S1, bs, rfl, hup, rfl, rfl⟩)) ?_
  · rcases List.mem_or_eq_of_mem_set hq with z | z
    · exact hup q z
    · rw [z]
      exact (hbq.add ((amt_bd S1).mono (six_dvd 0) (Lp_pos 0) (Nat.le_refl _))).mono (Nat.dvd_refl _) (Lp_pos 0) (by decide)
  · rw [← rowW_set]
    rfl
  rintro r o ⟨S2, b2, hl2, hb2, rfl, rfl⟩
  refine wp_seq (fun r o => ∃ b3, b3.length ≤ bs.length + 1 ∧ Bds (Lp 0) 900000 b3 ∧ r = [.m 0, .d (encL bs), .m 1, .d (.int (kd : Nat)), .d (.int (j : Nat)), .un] ∧ o = [stW S2, rowW b3])
    (wp1_if (evt_eqI (ev_v 3 rfl) ev_int) (fun _ => wp_one (wp1_expr (ev_append (ev_v 2 rfl) (ea_cons (ev_t2 ev_int ev_int) ea_nil) rfl ⟨_, rfl⟩ (by rw [List.length_map, List.length_map, hl2, sizeLine_eq]; omega)) ⟨b2 ++ [0], by rw [List.length_append, hl2]; exact Nat.le_refl _, fun q hq => ?_, rfl, ?_⟩))
      (fun _ => wp_nil ⟨b2, by omega, hb2, rfl, rfl⟩)) ?_
  · rcases List.mem_append.mp hq with z | z
    · exact hb2 q z
    · rw [List.mem_singleton] at z
      rw [z]
      exact Bd.zero (Lp_pos 0)
  · show [_, MO.lst (_ ++ [_])] = _
    unfold rowW
    rw [List.map_append, List.map_append]
    rfl
  rintro r o ⟨b3, hl3, hb3, rfl, rfl⟩
  refine wp_seq (fun r o => ∃ k b4, k ≠ 0 ∧ b4.length ≤ bs.length + 1 ∧ Bds (Lp 0) 900000 b4 ∧ r = [.m 0, .d (encL bs), .m k, .d (.int (kd : Nat)), .d (.int (j : Nat)), .un] ∧ o[0]? = some (stW S2) ∧ o[k]? = some (rowW b4))
    (wp1_if (evt_eqI (ev_v 3 rfl) ev_int) (fun _ => wp_one (wp1_set 2 nd (EvN.m (en_sl (ev_v 2 rfl) (eo_some ev_int) eo_none rfl)) ⟨2, b3.drop 1, by decide, by rw [List.length_drop]; omega, fun q hq => hb3 q (List.mem_of_mem_drop hq), rfl, rfl, ?_⟩))
      (fun _ => wp_nil ⟨1, b3, by decide, hl3, hb3, rfl, rfl, rfl⟩)) ?_
  · rw [cut_tail]
    show some (MO.lst _) = _
    unfold rowW
    rw [← List.map_drop, ← List.map_drop]
  rintro r o ⟨k, b4, hk, hl4, hb4, rfl, o0, ok⟩
  refine wp_frz k (ds := b4.map encQ) ok ?_
  have p0 := frz_at (d := .list (b4.map encQ)) (xs := S2.enc) o0 hk
  generalize ((o.map (MO.frz k (.list (b4.map encQ)))).set k .dead) = o at p0 ⊢
  have er : ([.m 0, .d (encL bs), .m k, .d (.int (kd : Nat)), .d (.int (j : Nat)), .un] : List G.W).map (W.frz k (.list (b4.map encQ))) = [.m 0, .d (encL bs), .d (encL b4), .d (.int (kd : Nat)), .d (.int (j : Nat)), .un] := by
    simp only [List.map_cons, List.map_nil]
    rw [W.frz_ne (k := k) (j := 0) (Ne.symm hk), W.frz_self]
    rfl
  rw [er]
  refine wp_seq (fun r o => ∃ b5, b5.length ≤ bs.length + 1 ∧ Bds (Lp 0) 900000 b5 ∧ r = [.m 0, .d (encL bs), .d (encL b5), .d (.int (kd : Nat)), .d (.int (j : Nat)), .un] ∧ o[0]? = some (stW S2))
    (wp1_if (evt_eqI (ev_v 3 rfl) ev_int) (fun _ => wp_one (wp1_lcD 2 (lcd_dat (own := [("_law_one", 5)]) encQ (fun q => encQ ((-1) * q)) rfl nd (it_list (ev_v 2 rfl)) (blkOk_by (N := N_law_changed) (sc := defScope s_law_changed) (by decide +kernel)) (szl (by omega)) ?_)
      ⟨b4.map fun q => (-1) * q, by rw [List.length_map]; exact hl4, fun q hq => ?_, ?_, p0⟩)) (fun _ => wp_nil ⟨b4, hl4, hb4, rfl, p0⟩)) ?_
  · intro q hq
    exact ⟨_, fun s H C cl fp => tc_name 5 (by decide) nd, fun s H C cl fp => ev_call2 Dx hgd hr (by decide) (ev_t2 (ev_neg ev_int) ev_int) (ev_v 5 rfl) ⟨-1, q, rfl, sm_mone, top_sm (hb4 q hq) (by decide), rfl⟩⟩
  · obtain ⟨x, hx, rfl⟩ := List.mem_map.mp hq
    exact mone_bd (hb4 x hx)
  · rw [show encL (b4.map fun q => (-1) * q) = .list (b4.map fun q => encQ ((-1) * q)) by unfold encL; rw [List.map_map]; rfl]
    rfl
  rintro r o ⟨b5, hl5, hb5, rfl, q0⟩
  exact wp_one (wp1_ret (ev_v 2 rfl) ⟨_, S2.enc, rfl, ⟨S2, b5, rfl, rfl, by omega, hb5⟩, q0⟩)
end
end K

set_option Elab.async false
set_option linter.all false
set_option maxRecDepth 100000
set_option maxHeartbeats 400000
set_option exponentiation.threshold 20000
namespace G
open PySem PySem.Spec PyProof.Rows L2
theorem ev_eqB {X : Cx} {rho : List W} {om om1 om2 : List MO} {a b : Expr} {pos : Pos} {i j : Bool} (ha : EvS X a rho om (.d (.bool i)) om1) (hb : EvS X b rho om1 (.d (.bool j)) om2) : EvS X (.Compare a [.Eq] [b] pos) rho om (.d (.bool (i == j))) om2 := ev_cmp op_eq ha hb od_eqB (nomark _)
end G
namespace K
open PySem PySem.Spec PyProof.Rows L2 G M
section
variable {P : Program} {w : World} {K : PySem.W.Frag} {mg : Str → Option Value} {base : Heap}
abbrev mkL (ns : List Int) (a1 a2 a3 a4 a5 a6 a7 a8 a9 a10 a11 a12 a13 : G.W) : List G.W := [.s ns, a1, a2, a3, a4, a5, a6, a7, a8, a9, a10, a11, a12, a13]
theorem Mk.other {m : Mkt} {sh ot : List (List Rat)} (h : Mk m sh) (hl : ot.length = sh.length) (ho : ∀ v, v < sh.length → (ot.getD v []).length = (sh.getD v []).length ∧ Bds lcmS 1 (ot.getD v [])) : Mk m ot :=
  ⟨h.wf, h.n11, h.gr, by rw [hl]; exact h.sl, fun v hv => by rw [(ho v (by rw [h.sl]; exact hv)).1]; exact h.sk v hv, fun v hv => (ho v (by rw [h.sl]; exact hv)).2, h.sn, h.an, h.ru, h.va⟩
theorem mass_all {m : Mkt} {sh : List (List Rat)} (h : Mk m sh) : Bds (Lp 0) 2048 (massQ m sh (m.n - 1)) := fun q hq => by
  obtain ⟨v, hv⟩ := List.getElem?_of_mem hq
  have hn := h.wf.n1
  have h11 := h.n11
  have hl := lt_of hv
  rw [massQ_len] at hl
  exact mass_top (by omega) (mass_ok h.par h.gr h.sb (m.n - 1) (by omega) v q hv)
theorem up {L B B' : Nat} {qs : List Rat} (h0 : 0 < L) (h : Bds L B qs) (hB : B ≤ B') : Bds L B' qs := fun q hq => (h q hq).mono (Nat.dvd_refl _) h0 hB
theorem d_law (cdv : Value) (f : Addr) (A : Around) (outer : List Env) (s : Shared) (H : Hp) (E : XK) (ns : List Int) (hgd : A.guards = some []) (hr : Room 20 (A.deeper (envOfC "law" (defScope s_law) s.heap.objs.size f cdv)))
    (m_len : mg "len" = none) (m_range : mg "range" = none) (m_list : mg "list" = none) (m_repr : mg "repr" = none) (m_isi : mg "isinstance" = none) (m_bool : mg "bool" = none)
    (D : DfM P w K mg base 1 "_law_draw" 1 ph_draw) (Da : DfM P w K mg base 2 "_law_amount" 0 ph_amount) (Dmk : DfMR P w K mg base 4 "_law_market" 2 pre_market R_market) (Dlo : DfP P w K mg base 1 "_law_loose" 1 ph_loose)
    (Ds : DfMR P w K mg base 2 "_law_shares" 1 pre_shares R_shares) (Dms : DfP P w K mg base 3 "_law_masses" 2 ph_masses) (Dm : DfP P w K mg base 3 "_law_minus" 2 ph_minus) (Dch : DfMR P w K mg base 3 "_law_changed" 1 pre_changed R_changed)
    (Dba : DfP P w K mg base 5 "_law_balanced" 2 ph_balanced) (Dl : DfP P w K mg base 1 "_law_less" 2 ph_less) (Dd : DfP P w K mg base 3 "_law_dot" 2 ph_ldot) (Dib : DfP P w K mg base 7 "is_balances" 2 ph_isbal) (Dsp : DfP P w K mg base 8 "speak_against" 3 ph_speak) :
    Wp (cxG P w K mg base N_law "law" s_law f cdv A outer s H E) (defBody s_law) (mkL ns .un .un .un .un .un .un .un .un .un .un .un .un .un) [] { nx := fun _ _ => False, rt := fun w _ => w = .d (.bool true) } := by
  have nd := sc_law.nd
  have hu : (cxG P w K mg base N_law "law" s_law f cdv A outer s H E).A.units + 64 < cLine := hr.units
  refine wp_seq (fun r o => r = mkL ns (.m 0) .un .un .un .un .un .un .un .un .un .un .un .un ∧ o = [stW ⟨ns, 0, 0⟩])
    (wp1_set 1 nd (EvN.m (ws := [.d (.list (ns.map PyData.int)), .d (.int 0), .d (.int 0)]) (en_lst (ea_cons (EvN.d (ds := ns.map PyData.int) (by rw [List.map_map]; exact en_list m_list (ea_cons (ev_v 0 rfl) ea_nil) rfl)) (ea_cons ev_int (ea_cons ev_int ea_nil))))) ⟨rfl, rfl⟩) ?_
  rintro r o ⟨rfl, rfl⟩
  generalize (⟨ns, 0, 0⟩ : Strm) = S
  refine wp_seq (fun r o => ∃ S m sh, Mk m sh ∧ r = mkL ns (.m 0) (.d (M.encM m)) (.d (.list (sh.map encL))) .un .un .un .un .un .un .un .un .un .un ∧ o = [stW S])
    (wp1_asgP (ep_callM Dmk hgd hr (by decide) (EvA.toP (ea_cons (ev_v 1 rfl) (ea_cons ev_int (ea_cons (ev_eqI (ev_callM1 D hgd hr (by decide) (ev_v 1 rfl) ev_int rfl ⟨S, 2, rfl, rfl, by decide, by decide, rfl, rfl⟩) ev_int) ea_nil))) ⟨0, (drawS S 2).enc, [.int 6, .bool _], rfl, rfl, rfl, ⟨_, 6, _, rfl, rfl, by decide, by decide⟩, fun r ss' hR => by
      obtain ⟨S', m, sh, rfl, rfl, hk⟩ := hR
      exact ⟨_, tg_tup rfl (tgs_cons (tg_name 2 nd) (tgs_cons (tg_name 3 nd) tgs_nil)), S', m, sh, hk, rfl, rfl⟩⟩))) ?_
  clear S
  rintro r o ⟨S, m, sh, hk, rfl, rfl⟩
  refine wp_seq (fun r o => ∃ S m, Mk m sh ∧ r = mkL ns (.m 0) (.d (M.encM m)) (.d (.list (sh.map encL))) .un .un .un .un .un .un .un .un .un .un ∧ o = [stW S])
    (wp1_if (evt_eqI (ev_callM1 D hgd hr (by decide) (ev_v 1 rfl) ev_int rfl ⟨S, 2, rfl, rfl, by decide, by decide, rfl, rfl⟩) ev_int) (fun _ => wp_one (wp1_set 2 nd (ev_call1 Dlo hgd hr (by decide) (ev_v 2 rfl) ⟨m, sh, rfl, hk, rfl⟩) ⟨_, _, hk.loose, rfl, rfl⟩)) (fun _ => wp_nil ⟨_, m, hk, rfl, rfl⟩)) ?_
  clear hk m S
  rintro r o ⟨S, m, hk, rfl, rfl⟩
  have hn1 := hk.wf.n1
  have hn11 := hk.n11
  have hsl := hk.sl
  refine wp_seq (fun r o => ∃ S ot, Mk m ot ∧ r = mkL ns (.m 0) (.d (M.encM m)) (.d (.list (sh.map encL))) (.d (.list (ot.map encL))) .un .un .un .un .un .un .un .un .un ∧ o = [stW S])
    (wp1_lcP 4 (own := [("_law_row", 12)]) (Ph := fun acc o => ∃ (S' : Strm) (ot : List (List Rat)), acc = (ot.map encL).map G.W.d ∧ o = [stW S'] ∧ ot.length = sh.length ∧ ∀ v, v < sh.length → (ot.getD v []).length = (sh.getD v []).length ∧ Bds lcmS 1 (ot.getD v []))
      (lcp (ds := (sh.map encL).map G.W.d) rfl nd (it_list (ev_v 3 rfl)) (blkOk_by (N := N_law) (sc := defScope s_law) (by decide +kernel))
        (fun i acc o => ∃ (S' : Strm) (ot : List (List Rat)), acc = (ot.map encL).map G.W.d ∧ o = [stW S'] ∧ ot.length = i ∧ ∀ v, v < i → (ot.getD v []).length = (sh.getD v []).length ∧ Bds lcmS 1 (ot.getD v [])) ⟨S, [], rfl, rfl, rfl, fun v hv => by omega⟩ (by rw [List.length_map, List.length_map]; exact szl (by omega))
        (fun i w acc o hw hJ => ?_) (fun acc o hJ => by rw [List.length_map, List.length_map] at hJ; exact hJ)) (fun acc o hJ => ?_)) ?_
  · obtain ⟨S', ot, rfl, rfl, hol, hoa⟩ := hJ
    have hi := lt_of hw
    rw [List.length_map, List.length_map] at hi
    rw [List.getElem?_map, List.getElem?_map, getD_some (xs := sh) [] hi] at hw
    cases hw
    have hlen : (sh.getD i []).length ≤ 11 := by
      rw [hk.sk i (by omega)]
      have := kids_len m i
      omega
    refine ⟨_, true, _, fun s H C cl fp => tc_name 12 (by decide) nd, fun s H C cl fp => ei_nil, fun _ s H C cl fp => ep_callM Ds hgd hr (by decide) (EvA.toP (ea_cons (ev_v 1 rfl) (ea_cons (ev_lenM m_len (ea_cons (ev_v 12 rfl) ea_nil)) ea_nil)) ⟨0, S'.enc, [.int ((sh.getD i []).length : Nat)], rfl, rfl, rfl, ⟨S', _, rfl, rfl, hlen⟩, fun r ss' hR => ?_⟩), fun h => by cases h⟩
    obtain ⟨S2, m', qs, hm', rfl, rfl, hql, hqb⟩ := hR
    have hm2 : m' = (sh.getD i []).length := by
      injection hm' with h1 _
      injection h1 with h1
      omega
    refine ⟨S2, ot ++ [qs], ?_, rfl, by rw [List.length_append, hol]; rfl, fun v hv => ?_⟩
    · rw [List.map_append, List.map_append]
      rfl
    · by_cases e : v < i
      · rw [List.getD_eq_getElem?_getD, List.getElem?_append_left (by omega), ← List.getD_eq_getElem?_getD]
        exact hoa v e
      · obtain rfl : v = i := by omega
        rw [List.getD_eq_getElem?_getD, List.getElem?_append_right (by omega), hol, Nat.sub_self]
        exact ⟨by rw [← hm2]; exact hql, hqb⟩
  · obtain ⟨S', ot, rfl, rfl, hol, hoa⟩ := hJ
    exact ⟨_, rfl, S', ot, hk.other hol hoa, rfl, rfl⟩
  clear S
  rintro r o ⟨S, ot, hot, rfl, rfl⟩
  obtain ⟨fm, hfm⟩ : ∃ fm, fm = massQ m sh (m.n - 1) := ⟨_, rfl⟩
  obtain ⟨gm, hgm⟩ : ∃ gm, gm = massQ m ot (m.n - 1) := ⟨_, rfl⟩
  have hfl : fm.length = m.n := by rw [hfm, massQ_len]; omega
  have hgl : gm.length = m.n := by rw [hgm, massQ_len]; omega
  have hfb : Bds (Lp 0) 2048 fm := by rw [hfm]; exact mass_all hk
  have hgb : Bds (Lp 0) 2048 gm := by rw [hgm]; exact mass_all hot
  refine wp_seq (fun r o => r = mkL ns (.m 0) (.d (M.encM m)) (.d (.list (sh.map encL))) (.d (.list (ot.map encL))) (.d (encL fm)) (.d (encL gm)) .un .un .un .un .un .un .un ∧ o = [stW S])
    (wp1_asg (ev_t2 (ev_call2 Dms hgd hr (by decide) (ev_v 2 rfl) (ev_v 3 rfl) ⟨m, sh, rfl, hk, by rw [hfm]⟩) (ev_call2 Dms hgd hr (by decide) (ev_v 2 rfl) (ev_v 4 rfl) ⟨m, ot, rfl, hot, by rw [hgm]⟩)) (tg_tup rfl (tgs_cons (tg_name 5 nd) (tgs_cons (tg_name 6 nd) tgs_nil))) ⟨rfl, rfl⟩) ?_
  rintro r o ⟨rfl, rfl⟩
  refine wp_seq (fun r o => ∃ bs, bs.length = m.n ∧ Bds (Lp 0) 410000 bs ∧ r = mkL ns (.m 0) (.d (M.encM m)) (.d (.list (sh.map encL))) (.d (.list (ot.map encL))) (.d (encL fm)) (.d (encL gm)) (.d (encL bs)) .un .un .un .un .un .un ∧ o = [stW S])
    (wp1_lcD 7 (lcd_rng (own := [("_law_node", 13)]) (n := fm.length) (fun k => encQ (fm.getD k 0 - gm.getD k 0)) rfl nd (it_rangeN m_range (ea_cons (ev_lenM m_len (ea_cons (ev_v 5 rfl) ea_nil)) ea_nil) (by omega)) (blkOk_by (N := N_law) (sc := defScope s_law) (by decide +kernel)) (szl (by omega)) ?_)
      ⟨(List.range fm.length).map fun k => fm.getD k 0 - gm.getD k 0, by rw [List.length_map, List.length_range]; exact hfl, fun q hq => ?_, ?_, rfl⟩) ?_
  · intro k hk2
    exact ⟨_, fun s H C cl fp => tc_name 13 (by decide) nd, fun s H C cl fp => ev_call2 Dm hgd hr (by decide) (ev_ixL (ev_v 5 rfl) (ev_v 13 rfl) (pick 0 hk2)) (ev_ixL (ev_v 6 rfl) (ev_v 13 rfl) (pick 0 (by omega)))
      ⟨_, _, rfl, top_sm (hfb _ (getD_in hk2)) (by decide), top_sm (hgb _ (getD_in (by omega))) (by decide), rfl⟩⟩
  · obtain ⟨k, hk2, rfl⟩ := List.mem_map.mp hq
    rw [List.mem_range] at hk2
    exact ((hfb _ (getD_in hk2)).sub (hgb _ (getD_in (by omega)))).mono (Nat.dvd_refl _) (Lp_pos 0) (by decide)
  · rw [show encL ((List.range fm.length).map fun k => fm.getD k 0 - gm.getD k 0) = .list ((List.range fm.length).map fun k => encQ (fm.getD k 0 - gm.getD k 0)) by unfold encL; rw [List.map_map]; rfl]
    rfl
  rintro r o ⟨bs, hbl, hbb, rfl, rfl⟩
  have hnl : ((m.nodes.map encN).map G.W.d).length = m.n := by rw [List.length_map, List.length_map]; rfl
  have hamt : ∀ S, Bds (Lp 0) 400000 (itV amtQ amtS m.n S) := fun S q hq => by
    obtain ⟨S', rfl⟩ := itV_mem hq
    exact (amt_bd S').mono (six_dvd 0) (Lp_pos 0) (Nat.le_refl _)
  refine wp_seq (fun r o => ∃ S bs, bs.length = m.n ∧ Bds (Lp 0) 410000 bs ∧ r = mkL ns (.m 0) (.d (M.encM m)) (.d (.list (sh.map encL))) (.d (.list (ot.map encL))) (.d (encL fm)) (.d (encL gm)) (.d (encL bs)) .un .un .un .un .un .un ∧ o = [stW S])
    (wp1_if (evt_eqI (ev_callM1 D hgd hr (by decide) (ev_v 1 rfl) ev_int rfl ⟨S, 4, rfl, rfl, by decide, by decide, rfl, rfl⟩) ev_int)
      (fun _ => wp_one (wp1_lcD (om2 := [stW (itS amtS m.n (drawS S 4))]) 7 (lcd_stN (S := drawS S 4) (rest := []) (own := [("_law_node", 13)]) m.n (fun S => encQ (amtQ S)) amtS stW hnl rfl nd (it_list (ev_ixT (ev_v 2 rfl) ev_int rfl)) (blkOk_by (N := N_law) (sc := defScope s_law) (by decide +kernel)) (by omega) ?_)
        ⟨_, itV amtQ amtS m.n (drawS S 4), itV_len _ _ _ _, up (Lp_pos 0) (hamt _) (by decide), by rw [encL_itV]; rfl, rfl⟩)) (fun _ => wp_nil ⟨_, bs, hbl, hbb, rfl, rfl⟩)) ?_
  · intro i w S hw
    refine ⟨_, fun s H C cl fp => tc_name 13 (by decide) nd, fun s H C cl fp => ?_⟩
    exact EvS.to (ev_callM0 Da hgd hr (by decide) (ev_v 1 rfl) rfl ⟨S, rfl, rfl, rfl, rfl⟩) rfl rfl
  clear hbb hbl bs S
  rintro r o ⟨S, bs, hbl, hbb, rfl, rfl⟩
  refine wp_seq (fun r o => ∃ S bs, bs.length ≤ 12 ∧ Bds (Lp 0) 900000 bs ∧ r = mkL ns (.m 0) (.d (M.encM m)) (.d (.list (sh.map encL))) (.d (.list (ot.map encL))) (.d (encL fm)) (.d (encL gm)) (.d (encL bs)) .un .un .un .un .un .un ∧ o = [stW S])
    (wp1_if (evt_eqI (ev_callM1 D hgd hr (by decide) (ev_v 1 rfl) ev_int rfl ⟨S, 2, rfl, rfl, by decide, by decide, rfl, rfl⟩) ev_int)
      (fun _ => wp_one (wp1_setP 7 nd (ep_callM Dch hgd hr (by decide) (EvA.toP (ea_cons (ev_v 1 rfl) (ea_cons (ev_v 7 rfl) ea_nil)) ⟨0, (drawS S 2).enc, [encL bs], rfl, rfl, rfl, ⟨drawS S 2, bs, rfl, rfl, by omega, by omega, hbb⟩, fun r ss' hR => by
        obtain ⟨S', b2, rfl, rfl, hl2, hb2⟩ := hR
        exact ⟨S', b2, hl2, hb2, rfl, rfl⟩⟩)))) (fun _ => wp_nil ⟨_, bs, by omega, up (Lp_pos 0) hbb (by decide), rfl, rfl⟩)) ?_
  clear hbb hbl bs S
  rintro r o ⟨S, bs, hbl, hbb, rfl, rfl⟩
  refine wp_seq (fun r o => ∃ S ps, ps.length = m.n ∧ Bds (Lp 0) 400000 ps ∧ r = mkL ns (.m 0) (.d (M.encM m)) (.d (.list (sh.map encL))) (.d (.list (ot.map encL))) (.d (encL fm)) (.d (encL gm)) (.d (encL bs)) (.d (encL ps)) .un .un .un .un .un ∧ o = [stW S])
    (wp1_lcD (om2 := [stW (itS amtS m.n S)]) 8 (lcd_stN (S := S) (rest := []) (own := [("_law_node", 13)]) m.n (fun S => encQ (amtQ S)) amtS stW hnl rfl nd (it_list (ev_ixT (ev_v 2 rfl) ev_int rfl)) (blkOk_by (N := N_law) (sc := defScope s_law) (by decide +kernel)) (by omega) ?_)
      ⟨_, itV amtQ amtS m.n S, itV_len _ _ _ _, hamt _, by rw [encL_itV]; rfl, rfl⟩) ?_
  · intro i w S hw
    refine ⟨_, fun s H C cl fp => tc_name 13 (by decide) nd, fun s H C cl fp => ?_⟩
    exact EvS.to (ev_callM0 Da hgd hr (by decide) (ev_v 1 rfl) rfl ⟨S, rfl, rfl, rfl, rfl⟩) rfl rfl
  clear S
  rintro r o ⟨S, ps, hpl, hpb, rfl, rfl⟩
  have B0 := Bp_ge 0
  have B1 : 900000 ≤ Bp 0 := by rw [Bp_succ (by decide)]; have := Bp_ge (0 + 1); omega
  have hbB : Bds (Lp 0) (Bp 0) bs := up (Lp_pos 0) hbb B1
  have hpB : Bds (Lp 0) (Bp 0) ps := up (Lp_pos 0) hpb B0
  have t := tin0
  obtain ⟨w1, w2, w3⟩ := sw_three hk hpB hbB (by omega) (by omega)
  refine wp_cons (wp1_set 9 nd (ev_repr m_repr hgd hu (ea_cons (ev_t3 (ev_v 2 rfl) (ev_v 8 rfl) (ev_v 7 rfl)) ea_nil) w1 w2 w3) ?_)
  generalize hsh : (PyData.tuple [M.encM m, encL ps, encL bs]).shown = kept
  have hmain := isBal_eq hk.wf bs
  have hpos : decide ((bs.length : Int) = (m.nodes.length : Int)) = true → 0 < bs.length := fun h1 => by
    have h1 := of_decide_eq_true h1
    have h2 : bs.length = m.n := Int.ofNat.inj h1
    omega
  have hdue : (decide ((bs.length : Int) = (m.nodes.length : Int)) && (PyData.eqv (encQ (bs.getD 0 1)) (.tuple [.int 0, .int 1]) && lawBal m bs)) = isBalQ m bs := by
    rw [hmain, show PyData.eqv (encQ (bs.getD 0 1)) (.tuple [.int 0, .int 1]) = decide (bs.getD 0 1 = 0) from eqv_Q _ 0]
    congr 1
    exact decide_eq_decide.mpr ⟨fun h => Int.ofNat.inj h, fun h => congrArg Int.ofNat h⟩
  refine wp_seq (fun r o => r = mkL ns (.m 0) (.d (M.encM m)) (.d (.list (sh.map encL))) (.d (.list (ot.map encL))) (.d (encL fm)) (.d (encL gm)) (.d (encL bs)) (.d (encL ps)) (.d (.str kept)) (.d (.bool (isBalQ m bs))) .un .un .un ∧ o = [stW S])
    (wp1_set 10 nd (ev_andP (ev_eqI (ev_lenM m_len (ea_cons (ev_v 7 rfl) ea_nil)) (ev_lenM m_len (ea_cons (ev_ixT (ev_v 2 rfl) ev_int rfl) ea_nil))) fun h1 => ev_andP (q := lawBal m bs) (ev_eqD hu (ev_ixL (ev_v 7 rfl) ev_int (pick (v := 0) 1 (hpos h1))) (ev_t2 ev_int ev_int) (shaped_Q _) (shaped_Q 0)) fun h2 => ev_one (ev_call2 Dba hgd hr (by decide) (ev_v 2 rfl) (ev_v 7 rfl) ⟨Lp 0, Bp 0, m, bs, rfl, hk.wf, hbB, ?_, rfl⟩)) ⟨?_, rfl⟩) ?_
  · have h1 := of_decide_eq_true h1
    exact Int.ofNat.inj h1
  · rw [← hdue]
    rfl
  rintro r o ⟨rfl, rfl⟩
  refine wp_cons (wp1_set 11 nd (ev_call2 Dib hgd hr (by decide) (ev_v 2 rfl) (ev_v 7 rfl) ⟨Lp 0, Bp 0, m, bs, rfl, hk.wf, hbB, by omega, rfl⟩) ?_)
  refine wp_seq (fun r o => r = mkL ns (.m 0) (.d (M.encM m)) (.d (.list (sh.map encL))) (.d (.list (ot.map encL))) (.d (encL fm)) (.d (encL gm)) (.d (encL bs)) (.d (encL ps)) (.d (.str kept)) (.d (.bool (isBalQ m bs))) (.d (.bool (isBalQ m bs))) .un .un ∧ o = [stW S])
    (wp1_if (evw_t (evw_orP (evt_not (evt_b (ev_isiBool m_isi m_bool (ev_v 11 rfl)))) fun _ => evw_or1 (evt_neB (ev_v 11 rfl) (ev_v 10 rfl)))) (fun h => ?_) (fun _ => wp_nil ⟨rfl, rfl⟩)) ?_
  · simp at h
  rintro r o ⟨rfl, rfl⟩
  have hlen : isBalQ m bs = true → bs.length = m.n := fun h => by
    unfold isBalQ at h
    rw [Bool.and_eq_true] at h
    exact (of_decide_eq_true h.1).1
  obtain ⟨g1, g2, g3, g4⟩ := dot_bd t hpB hbB (by omega)
  refine wp_seq (fun r o => r = mkL ns (.m 0) (.d (M.encM m)) (.d (.list (sh.map encL))) (.d (.list (ot.map encL))) (.d (encL fm)) (.d (encL gm)) (.d (encL bs)) (.d (encL ps)) (.d (.str kept)) (.d (.bool (isBalQ m bs && decide (0 < dotQ ps bs)))) (.d (.bool (isBalQ m bs))) .un .un ∧ o = [stW S])
    (wp1_set 10 nd (ev_andP (ev_v 10 rfl) fun h => ev_one (ev_call2 Dl hgd hr (by decide) (ev_t2 ev_int ev_int) (ev_call2 Dd hgd hr (by decide) (ev_v 8 rfl) (ev_v 7 rfl) ⟨ps, bs, _, _, rfl, by omega, by rw [hpl, hlen h], fun q hq => t.sm (hpB q hq), fun q hq => t.sm (hbB q hq), Nat.mul_pos t.l0 t.l0, g1, g2, g3, rfl⟩) ⟨0, dotQ ps bs, rfl, sm_zero, g4, rfl⟩)) ⟨rfl, rfl⟩) ?_
  rintro r o ⟨rfl, rfl⟩
  refine wp_cons (wp1_set 11 nd (ev_call3 Dsp hgd hr (by decide) (ev_v 2 rfl) (ev_v 8 rfl) (ev_v 7 rfl) ⟨Lp 0, Bp 0, m, ps, bs, rfl, hk.wf, hbB, hpB, by omega, by omega, rfl⟩) ?_)
  refine wp_one (wp1_ret (ev_andP (ev_isiBool m_isi m_bool (ev_v 11 rfl)) fun _ => ev_andP (ev_eqB (ev_v 11 rfl) (ev_v 10 rfl)) fun _ => ev_one (ev_eqS (ev_repr m_repr hgd hu (ea_cons (ev_t3 (ev_v 2 rfl) (ev_v 8 rfl) (ev_v 7 rfl)) ea_nil) w1 w2 w3) (ev_v 9 rfl))) ?_)
  show G.W.d _ = G.W.d _
  rw [hsh]
  simp
end
end K

set_option Elab.async false
set_option linter.all false
set_option maxRecDepth 100000
set_option maxHeartbeats 2000000
set_option exponentiation.threshold 20000
namespace K
open PySem PySem.Spec PyProof.Rows L2 G M
theorem fn_law {P : Program} {w : World} {K : PySem.W.Frag} {mg : Str → Option Value} {base : Heap} {f : Addr} {fd : FuncData} (Fl : Fun K "law" "law" s_law f fd)
    (m_len : mg "len" = none) (m_range : mg "range" = none) (m_list : mg "list" = none) (m_repr : mg "repr" = none) (m_isi : mg "isinstance" = none) (m_bool : mg "bool" = none)
    (D : DfM P w K mg base 1 "_law_draw" 1 ph_draw) (Da : DfM P w K mg base 2 "_law_amount" 0 ph_amount) (Dmk : DfMR P w K mg base 4 "_law_market" 2 pre_market R_market) (Dlo : DfP P w K mg base 1 "_law_loose" 1 ph_loose)
    (Ds : DfMR P w K mg base 2 "_law_shares" 1 pre_shares R_shares) (Dms : DfP P w K mg base 3 "_law_masses" 2 ph_masses) (Dm : DfP P w K mg base 3 "_law_minus" 2 ph_minus) (Dch : DfMR P w K mg base 3 "_law_changed" 1 pre_changed R_changed)
    (Dba : DfP P w K mg base 5 "_law_balanced" 2 ph_balanced) (Dl : DfP P w K mg base 1 "_law_less" 2 ph_less) (Dd : DfP P w K mg base 3 "_law_dot" 2 ph_ldot) (Dib : DfP P w K mg base 7 "is_balances" 2 ph_isbal) (Dsp : DfP P w K mg base 8 "speak_against" 3 ph_speak) :
    FnG P w K mg base CX0 21 f fd ["_law_script"] (spL K) := by
  refine fng_of Fl sc_law (fun vs H Q E h => ?_) (fun cdv A outer s H vs Q E hgd hr h => wpSs_nox ?_)
  · obtain ⟨a, ns, rfl, _⟩ := h
    rfl
  · obtain ⟨a, ns, rfl, hs, q⟩ := h
    have R : Rel K H H [] [] := ⟨Ex.refl _, by simp, rfl, fun k a mo e _ => by simp at e⟩
    have hS : RS K H [] (mkL ns .un .un .un .un .un .un .un .un .un .un .un .un .un) (start N_law [.ref a]) := rs_start (ws := [.s ns]) (vs := [.ref a]) 13 ⟨⟨a, rfl, hs⟩, trivial⟩
    refine d_law cdv f A outer s H E ns hgd hr m_len m_range m_list m_repr m_isi m_bool D Da Dmk Dlo Ds Dms Dm Dch Dba Dl Dd Dib Dsp H H [] _ _ R hS ⟨fun σ' F' H' as' rho' om' p R' S' e => e.elim, fun v F' H' as' w om' p R' r' e => ?_, fun σ' F' H' as' rho' om' p R' S' e => e.elim, fun σ' F' H' as' rho' om' p R' S' e => e.elim⟩
    have e : w = .d (.bool true) := e
    subst e
    have r' : Rp K F' v (.bool true) := r'
    cases r'
    exact q H'
theorem cst_pair {K : PySem.W.Frag} {mg : Str → Option Value} {x : Str} {t : Addr} {to : Option Addr} {tn : Nat} {ts : Array (Option Value)} {tx ty : Tok} {n d : Int} (h : K.lookup t = some ⟨.type "tuple", to, .seq #[.int n tx, .int d ty] tn, ts⟩) (hm : mg x = some (.ref t)) : Cst K mg x (.tuple [.int n, .int d]) :=
  ⟨.ref t, .ref t, hm, rfl, fun F => .tup (xs := [.int n, .int d]) (.inr ⟨_, _, _, h, rfl, rfl, by rw [sizeLine_eq]; show 2 ≤ 16777216; omega, .cons ⟨tx, rfl⟩ (.cons ⟨ty, rfl⟩ .nil)⟩) (.cons (.int _) (.cons (.int _) .nil))⟩
theorem fn_law_all {P : Program} {w : World} {K : PySem.W.Frag} {mg : Str → Option Value} {base : Heap} {f : Addr} {fd : FuncData} (Fl : Fun K "law" "law" s_law f fd)
    (A0 : At K mg "number" s_number ["n", "d"])
    (A1 : At K mg "compare" s_compare ["a", "b"])
    (A2 : At K mg "plus" s_plus ["a", "b"])
    (A3 : At K mg "minus" s_minus ["a", "b"])
    (A4 : At K mg "times" s_times ["a", "b"])
    (A5 : At K mg "total" s_total ["numbers"])
    (A6 : At K mg "dot" s_dot ["a", "b"])
    (A7 : At K mg "children" s_children ["market", "node"])
    (A8 : At K mg "inner_nodes" s_inner_nodes ["market"])
    (A9 : At K mg "gains_in" s_gains_in ["market", "node", "child"])
    (A10 : At K mg "gains" s_gains ["market", "node"])
    (A11 : At K mg "flow_row" s_flow_row ["market", "node"])
    (A12 : At K mg "gain_row" s_gain_row ["market", "node", "asset"])
    (A13 : At K mg "turned_round" s_turned_round ["row"])
    (A14 : At K mg "signs_of" s_signs_of ["rule"])
    (A15 : At K mg "signed" s_signed ["label", "row", "signs"])
    (A16 : At K mg "mass_rows" s_mass_rows ["market"])
    (A17 : At K mg "fulfills" s_fulfills ["rows", "masses"])
    (A18 : At K mg "is_balances" s_is_balances ["market", "balances"])
    (A19 : At K mg "speak_against" s_speak_against ["market", "payments", "balances"])
    (A20 : At K mg "_law_draw" s_law_draw ["_law_stream", "_law_many"])
    (A21 : At K mg "_law_number" s_law_number ["_law_n", "_law_d"])
    (A22 : At K mg "_law_plus" s_law_plus ["_law_a", "_law_b"])
    (A23 : At K mg "_law_times" s_law_times ["_law_a", "_law_b"])
    (A24 : At K mg "_law_minus" s_law_minus ["_law_a", "_law_b"])
    (A25 : At K mg "_law_less" s_law_less ["_law_a", "_law_b"])
    (A26 : At K mg "_law_dot" s_law_dot ["_law_a", "_law_b"])
    (A27 : At K mg "_law_amount" s_law_amount ["_law_stream"])
    (A28 : At K mg "_law_tree" s_law_tree ["_law_stream", "_law_most"])
    (A29 : At K mg "_law_shares" s_law_shares ["_law_stream", "_law_many"])
    (A30 : At K mg "_law_under" s_law_under ["_law_parents", "_law_node"])
    (A31 : At K mg "_law_market" s_law_market ["_law_stream", "_law_most", "_law_free"])
    (A32 : At K mg "_law_masses" s_law_masses ["_law_market_here", "_law_shares_here"])
    (A33 : At K mg "_law_children" s_law_children ["_law_market_here", "_law_node"])
    (A34 : At K mg "_law_gains" s_law_gains ["_law_market_here", "_law_child"])
    (A35 : At K mg "_law_balanced" s_law_balanced ["_law_market_here", "_law_masses_here"])
    (A36 : At K mg "_law_loose" s_law_loose ["_law_market_here"])
    (A37 : At K mg "_law_changed" s_law_changed ["_law_stream", "_law_balances"])
    (c0 : Cst K mg "NOUGHT" (encQ 0)) (c1 : Cst K mg "MINUS" (encQ (-1))) (g : mg "gcd" = some (.builtin "math.gcd"))
    (m_len : mg "len" = none) (m_range : mg "range" = none) (m_zip : mg "zip" = none) (m_int : mg "int" = none) (m_abs : mg "abs" = none) (m_sum : mg "sum" = none) (m_list : mg "list" = none) (m_repr : mg "repr" = none) (m_isinstance : mg "isinstance" = none) (m_bool : mg "bool" = none) (m_enumerate : mg "enumerate" = none) : FnG P w K mg base CX0 21 f fd ["_law_script"] (spL K) := by
  have D0 := d_number (P := P) (w := w) (base := base) A0 g
  have D1 := d_compare (P := P) (w := w) (base := base) A1 m_int
  have D2 := d_plus (P := P) (w := w) (base := base) A2 D0
  have D3 := d_minus (P := P) (w := w) (base := base) A3 D0
  have D4 := d_times (P := P) (w := w) (base := base) A4 D0
  have D5 := d_total (P := P) (w := w) (base := base) A5 c0 D2
  have D6 := d_dot (P := P) (w := w) (base := base) A6 m_zip D5 D4
  have D7 := d_children (P := P) (w := w) (base := base) A7 m_len m_range
  have D8 := d_inner_nodes (P := P) (w := w) (base := base) A8 m_len m_range
  have D9 := d_gains_in (P := P) (w := w) (base := base) A9 m_zip D2 D3 D4
  have D10 := d_gains (P := P) (w := w) (base := base) A10 D7 D9
  have D11 := d_flow_row (P := P) (w := w) (base := base) A11 c0 c1 m_len D7
  have D12 := d_gain_row (P := P) (w := w) (base := base) A12 c0 m_len m_zip D7 D10
  have D13 := d_turned_round (P := P) (w := w) (base := base) A13 c1 D4
  have D14 := d_signs_of (P := P) (w := w) (base := base) A14
  have D15 := d_signed (P := P) (w := w) (base := base) A15 D13
  have D16 := d_mass_rows (P := P) (w := w) (base := base) A16 m_enumerate D8 D11 D12 D15 D14
  have D17 := d_fulfills (P := P) (w := w) (base := base) A17 c0 m_zip D2 D4 D1
  have D18 := d_is_balances (P := P) (w := w) (base := base) A18 c0 m_len D17 D16
  have D19 := d_speak_against (P := P) (w := w) (base := base) A19 c0 D18 D6 D1
  have D20 := d_draw (P := P) (w := w) (base := base) A20 m_len m_int
  have D21 := d_lnumber (P := P) (w := w) (base := base) A21 m_abs m_int
  have D22 := d_lplus (P := P) (w := w) (base := base) A22 D21
  have D23 := d_ltimes (P := P) (w := w) (base := base) A23 D21
  have D24 := d_lminus (P := P) (w := w) (base := base) A24 D22
  have D25 := d_lless (P := P) (w := w) (base := base) A25
  have D26 := d_ldot (P := P) (w := w) (base := base) A26 m_len m_range D22 D23
  have D27 := d_amount (P := P) (w := w) (base := base) A27 D20 D21
  have D28 := d_tree (P := P) (w := w) (base := base) A28 m_range D20
  have D29 := d_shares (P := P) (w := w) (base := base) A29 m_range m_sum D20 D21
  have D30 := d_under (P := P) (w := w) (base := base) A30 m_len m_range
  have D31 := d_market (P := P) (w := w) (base := base) A31 m_len m_range D20 D28 D27 D30 D29 D22 D26 D24 D23
  have D32 := d_masses (P := P) (w := w) (base := base) A32 m_len m_range D23
  have D33 := d_lchildren (P := P) (w := w) (base := base) A33 m_len m_range
  have D34 := d_lgains (P := P) (w := w) (base := base) A34 m_len m_range D22 D24 D23
  have D35 := d_balanced (P := P) (w := w) (base := base) A35 m_len m_range D33 D22 D23 D25 D34
  have D36 := d_loose (P := P) (w := w) (base := base) A36
  have D37 := d_changed (P := P) (w := w) (base := base) A37 m_len m_list D20 D27 D22 D23
  exact fn_law Fl m_len m_range m_list m_repr m_isinstance m_bool D20 D27 D31 D36 D29 D32 D24 D37 D35 D25 D26 D18 D19
theorem all_mk {P : Program} {w : World} {K : PySem.W.Frag} {h : Heap} {mg : Str → Option Value} {fa : Addr} (X : K.In h) (G : h.Ns mainGlobals mg) (hfa : mg "law" = some (.ref fa))
    {f0 : Addr} {od0 an0 : Option Addr} {sl0 : Array (Option Value)} {oc0 kV0 dc0 pm0 cd0 ct0 : Value}
    (a0 : PySem.W.nsIn K mainGlobals "number" = some (some (.ref f0))) (l0 : K.lookup f0 = some ⟨oc0, od0, .func (PySem.W.fnOf "number" "number" (defArgs s_number) (defBody s_number) (defScope s_number) .none kV0 dc0 pm0 an0 cd0 ct0), sl0⟩) (c0 : PySem.W.codeIn K cd0 "number" = true) (k0 : PySem.W.keepIn K (.ref f0) = true)
    {f1 : Addr} {od1 an1 : Option Addr} {sl1 : Array (Option Value)} {oc1 kV1 dc1 pm1 cd1 ct1 : Value}
    (a1 : PySem.W.nsIn K mainGlobals "compare" = some (some (.ref f1))) (l1 : K.lookup f1 = some ⟨oc1, od1, .func (PySem.W.fnOf "compare" "compare" (defArgs s_compare) (defBody s_compare) (defScope s_compare) .none kV1 dc1 pm1 an1 cd1 ct1), sl1⟩) (c1 : PySem.W.codeIn K cd1 "compare" = true) (k1 : PySem.W.keepIn K (.ref f1) = true)
    {f2 : Addr} {od2 an2 : Option Addr} {sl2 : Array (Option Value)} {oc2 kV2 dc2 pm2 cd2 ct2 : Value}
    (a2 : PySem.W.nsIn K mainGlobals "plus" = some (some (.ref f2))) (l2 : K.lookup f2 = some ⟨oc2, od2, .func (PySem.W.fnOf "plus" "plus" (defArgs s_plus) (defBody s_plus) (defScope s_plus) .none kV2 dc2 pm2 an2 cd2 ct2), sl2⟩) (c2 : PySem.W.codeIn K cd2 "plus" = true) (k2 : PySem.W.keepIn K (.ref f2) = true)
    {f3 : Addr} {od3 an3 : Option Addr} {sl3 : Array (Option Value)} {oc3 kV3 dc3 pm3 cd3 ct3 : Value}
    (a3 : PySem.W.nsIn K mainGlobals "minus" = some (some (.ref f3))) (l3 : K.lookup f3 = some ⟨oc3, od3, .func (PySem.W.fnOf "minus" "minus" (defArgs s_minus) (defBody s_minus) (defScope s_minus) .none kV3 dc3 pm3 an3 cd3 ct3), sl3⟩) (c3 : PySem.W.codeIn K cd3 "minus" = true) (k3 : PySem.W.keepIn K (.ref f3) = true)
    {f4 : Addr} {od4 an4 : Option Addr} {sl4 : Array (Option Value)} {oc4 kV4 dc4 pm4 cd4 ct4 : Value}
    (a4 : PySem.W.nsIn K mainGlobals "times" = some (some (.ref f4))) (l4 : K.lookup f4 = some ⟨oc4, od4, .func (PySem.W.fnOf "times" "times" (defArgs s_times) (defBody s_times) (defScope s_times) .none kV4 dc4 pm4 an4 cd4 ct4), sl4⟩) (c4 : PySem.W.codeIn K cd4 "times" = true) (k4 : PySem.W.keepIn K (.ref f4) = true)
    {f5 : Addr} {od5 an5 : Option Addr} {sl5 : Array (Option Value)} {oc5 kV5 dc5 pm5 cd5 ct5 : Value}
    (a5 : PySem.W.nsIn K mainGlobals "total" = some (some (.ref f5))) (l5 : K.lookup f5 = some ⟨oc5, od5, .func (PySem.W.fnOf "total" "total" (defArgs s_total) (defBody s_total) (defScope s_total) .none kV5 dc5 pm5 an5 cd5 ct5), sl5⟩) (c5 : PySem.W.codeIn K cd5 "total" = true) (k5 : PySem.W.keepIn K (.ref f5) = true)
    {f6 : Addr} {od6 an6 : Option Addr} {sl6 : Array (Option Value)} {oc6 kV6 dc6 pm6 cd6 ct6 : Value}
    (a6 : PySem.W.nsIn K mainGlobals "dot" = some (some (.ref f6))) (l6 : K.lookup f6 = some ⟨oc6, od6, .func (PySem.W.fnOf "dot" "dot" (defArgs s_dot) (defBody s_dot) (defScope s_dot) .none kV6 dc6 pm6 an6 cd6 ct6), sl6⟩) (c6 : PySem.W.codeIn K cd6 "dot" = true) (k6 : PySem.W.keepIn K (.ref f6) = true)
    {f7 : Addr} {od7 an7 : Option Addr} {sl7 : Array (Option Value)} {oc7 kV7 dc7 pm7 cd7 ct7 : Value}
    (a7 : PySem.W.nsIn K mainGlobals "children" = some (some (.ref f7))) (l7 : K.lookup f7 = some ⟨oc7, od7, .func (PySem.W.fnOf "children" "children" (defArgs s_children) (defBody s_children) (defScope s_children) .none kV7 dc7 pm7 an7 cd7 ct7), sl7⟩) (c7 : PySem.W.codeIn K cd7 "children" = true) (k7 : PySem.W.keepIn K (.ref f7) = true)
    {f8 : Addr} {od8 an8 : Option Addr} {sl8 : Array (Option Value)} {oc8 kV8 dc8 pm8 cd8 ct8 : Value}
    (a8 : PySem.W.nsIn K mainGlobals "inner_nodes" = some (some (.ref f8))) (l8 : K.lookup f8 = some ⟨oc8, od8, .func (PySem.W.fnOf "inner_nodes" "inner_nodes" (defArgs s_inner_nodes) (defBody s_inner_nodes) (defScope s_inner_nodes) .none kV8 dc8 pm8 an8 cd8 ct8), sl8⟩) (c8 : PySem.W.codeIn K cd8 "inner_nodes" = true) (k8 : PySem.W.keepIn K (.ref f8) = true)
    {f9 : Addr} {od9 an9 : Option Addr} {sl9 : Array (Option Value)} {oc9 kV9 dc9 pm9 cd9 ct9 : Value}
    (a9 : PySem.W.nsIn K mainGlobals "gains_in" = some (some (.ref f9))) (l9 : K.lookup f9 = some ⟨oc9, od9, .func (PySem.W.fnOf "gains_in" "gains_in" (defArgs s_gains_in) (defBody s_gains_in) (defScope s_gains_in) .none kV9 dc9 pm9 an9 cd9 ct9), sl9⟩) (c9 : PySem.W.codeIn K cd9 "gains_in" = true) (k9 : PySem.W.keepIn K (.ref f9) = true)
    {f10 : Addr} {od10 an10 : Option Addr} {sl10 : Array (Option Value)} {oc10 kV10 dc10 pm10 cd10 ct10 : Value}
    (a10 : PySem.W.nsIn K mainGlobals "gains" = some (some (.ref f10))) (l10 : K.lookup f10 = some ⟨oc10, od10, .func (PySem.W.fnOf "gains" "gains" (defArgs s_gains) (defBody s_gains) (defScope s_gains) .none kV10 dc10 pm10 an10 cd10 ct10), sl10⟩) (c10 : PySem.W.codeIn K cd10 "gains" = true) (k10 : PySem.W.keepIn K (.ref f10) = true)
    {f11 : Addr} {od11 an11 : Option Addr} {sl11 : Array (Option Value)} {oc11 kV11 dc11 pm11 cd11 ct11 : Value}
    (a11 : PySem.W.nsIn K mainGlobals "flow_row" = some (some (.ref f11))) (l11 : K.lookup f11 = some ⟨oc11, od11, .func (PySem.W.fnOf "flow_row" "flow_row" (defArgs s_flow_row) (defBody s_flow_row) (defScope s_flow_row) .none kV11 dc11 pm11 an11 cd11 ct11), sl11⟩) (c11 : PySem.W.codeIn K cd11 "flow_row" = true) (k11 : PySem.W.keepIn K (.ref f11) = true)
    {f12 : Addr} {od12 an12 : Option Addr} {sl12 : Array (Option Value)} {oc12 kV12 dc12 pm12 cd12 ct12 : Value}
    (a12 : PySem.W.nsIn K mainGlobals "gain_row" = some (some (.ref f12))) (l12 : K.lookup f12 = some ⟨oc12, od12, .func (PySem.W.fnOf "gain_row" "gain_row" (defArgs s_gain_row) (defBody s_gain_row) (defScope s_gain_row) .none kV12 dc12 pm12 an12 cd12 ct12), sl12⟩) (c12 : PySem.W.codeIn K cd12 "gain_row" = true) (k12 : PySem.W.keepIn K (.ref f12) = true)
    {f13 : Addr} {od13 an13 : Option Addr} {sl13 : Array (Option Value)} {oc13 kV13 dc13 pm13 cd13 ct13 : Value}
    (a13 : PySem.W.nsIn K mainGlobals "turned_round" = some (some (.ref f13))) (l13 : K.lookup f13 = some ⟨oc13, od13, .func (PySem.W.fnOf "turned_round" "turned_round" (defArgs s_turned_round) (defBody s_turned_round) (defScope s_turned_round) .none kV13 dc13 pm13 an13 cd13 ct13), sl13⟩) (c13 : PySem.W.codeIn K cd13 "turned_round" = true) (k13 : PySem.W.keepIn K (.ref f13) = true)
    {f14 : Addr} {od14 an14 : Option Addr} {sl14 : Array (Option Value)} {oc14 kV14 dc14 pm14 cd14 ct14 : Value}
    (a14 : PySem.W.nsIn K mainGlobals "signs_of" = some (some (.ref f14))) (l14 : K.lookup f14 = some ⟨oc14, od14, .func (PySem.W.fnOf "signs_of" "signs_of" (defArgs s_signs_of) (defBody s_signs_of) (defScope s_signs_of) .none kV14 dc14 pm14 an14 cd14 ct14), sl14⟩) (c14 : PySem.W.codeIn K cd14 "signs_of" = true) (k14 : PySem.W.keepIn K (.ref f14) = true)
    {f15 : Addr} {od15 an15 : Option Addr} {sl15 : Array (Option Value)} {oc15 kV15 dc15 pm15 cd15 ct15 : Value}
    (a15 : PySem.W.nsIn K mainGlobals "signed" = some (some (.ref f15))) (l15 : K.lookup f15 = some ⟨oc15, od15, .func (PySem.W.fnOf "signed" "signed" (defArgs s_signed) (defBody s_signed) (defScope s_signed) .none kV15 dc15 pm15 an15 cd15 ct15), sl15⟩) (c15 : PySem.W.codeIn K cd15 "signed" = true) (k15 : PySem.W.keepIn K (.ref f15) = true)
    {f16 : Addr} {od16 an16 : Option Addr} {sl16 : Array (Option Value)} {oc16 kV16 dc16 pm16 cd16 ct16 : Value}
    (a16 : PySem.W.nsIn K mainGlobals "mass_rows" = some (some (.ref f16))) (l16 : K.lookup f16 = some ⟨oc16, od16, .func (PySem.W.fnOf "mass_rows" "mass_rows" (defArgs s_mass_rows) (defBody s_mass_rows) (defScope s_mass_rows) .none kV16 dc16 pm16 an16 cd16 ct16), sl16⟩) (c16 : PySem.W.codeIn K cd16 "mass_rows" = true) (k16 : PySem.W.keepIn K (.ref f16) = true)
    {f17 : Addr} {od17 an17 : Option Addr} {sl17 : Array (Option Value)} {oc17 kV17 dc17 pm17 cd17 ct17 : Value}
    (a17 : PySem.W.nsIn K mainGlobals "fulfills" = some (some (.ref f17))) (l17 : K.lookup f17 = some ⟨oc17, od17, .func (PySem.W.fnOf "fulfills" "fulfills" (defArgs s_fulfills) (defBody s_fulfills) (defScope s_fulfills) .none kV17 dc17 pm17 an17 cd17 ct17), sl17⟩) (c17 : PySem.W.codeIn K cd17 "fulfills" = true) (k17 : PySem.W.keepIn K (.ref f17) = true)
    {f18 : Addr} {od18 an18 : Option Addr} {sl18 : Array (Option Value)} {oc18 kV18 dc18 pm18 cd18 ct18 : Value}
    (a18 : PySem.W.nsIn K mainGlobals "is_balances" = some (some (.ref f18))) (l18 : K.lookup f18 = some ⟨oc18, od18, .func (PySem.W.fnOf "is_balances" "is_balances" (defArgs s_is_balances) (defBody s_is_balances) (defScope s_is_balances) .none kV18 dc18 pm18 an18 cd18 ct18), sl18⟩) (c18 : PySem.W.codeIn K cd18 "is_balances" = true) (k18 : PySem.W.keepIn K (.ref f18) = true)
    {f19 : Addr} {od19 an19 : Option Addr} {sl19 : Array (Option Value)} {oc19 kV19 dc19 pm19 cd19 ct19 : Value}
    (a19 : PySem.W.nsIn K mainGlobals "speak_against" = some (some (.ref f19))) (l19 : K.lookup f19 = some ⟨oc19, od19, .func (PySem.W.fnOf "speak_against" "speak_against" (defArgs s_speak_against) (defBody s_speak_against) (defScope s_speak_against) .none kV19 dc19 pm19 an19 cd19 ct19), sl19⟩) (c19 : PySem.W.codeIn K cd19 "speak_against" = true) (k19 : PySem.W.keepIn K (.ref f19) = true)
    {f20 : Addr} {od20 an20 : Option Addr} {sl20 : Array (Option Value)} {oc20 kV20 dc20 pm20 cd20 ct20 : Value}
    (a20 : PySem.W.nsIn K mainGlobals "_law_draw" = some (some (.ref f20))) (l20 : K.lookup f20 = some ⟨oc20, od20, .func (PySem.W.fnOf "_law_draw" "_law_draw" (defArgs s_law_draw) (defBody s_law_draw) (defScope s_law_draw) .none kV20 dc20 pm20 an20 cd20 ct20), sl20⟩) (c20 : PySem.W.codeIn K cd20 "_law_draw" = true) (k20 : PySem.W.keepIn K (.ref f20) = true)
    {f21 : Addr} {od21 an21 : Option Addr} {sl21 : Array (Option Value)} {oc21 kV21 dc21 pm21 cd21 ct21 : Value}
    (a21 : PySem.W.nsIn K mainGlobals "_law_number" = some (some (.ref f21))) (l21 : K.lookup f21 = some ⟨oc21, od21, .func (PySem.W.fnOf "_law_number" "_law_number" (defArgs s_law_number) (defBody s_law_number) (defScope s_law_number) .none kV21 dc21 pm21 an21 cd21 ct21), sl21⟩) (c21 : PySem.W.codeIn K cd21 "_law_number" = true) (k21 : PySem.W.keepIn K (.ref f21) = true)
    {f22 : Addr} {od22 an22 : Option Addr} {sl22 : Array (Option Value)} {oc22 kV22 dc22 pm22 cd22 ct22 : Value}
    (a22 : PySem.W.nsIn K mainGlobals "_law_plus" = some (some (.ref f22))) (l22 : K.lookup f22 = some ⟨oc22, od22, .func (PySem.W.fnOf "_law_plus" "_law_plus" (defArgs s_law_plus) (defBody s_law_plus) (defScope s_law_plus) .none kV22 dc22 pm22 an22 cd22 ct22), sl22⟩) (c22 : PySem.W.codeIn K cd22 "_law_plus" = true) (k22 : PySem.W.keepIn K (.ref f22) = true)
    {f23 : Addr} {od23 an23 : Option Addr} {sl23 : Array (Option Value)} {oc23 kV23 dc23 pm23 cd23 ct23 : Value}
    (a23 : PySem.W.nsIn K mainGlobals "_law_times" = some (some (.ref f23))) (l23 : K.lookup f23 = some ⟨oc23, od23, .func (PySem.W.fnOf "_law_times" "_law_times" (defArgs s_law_times) (defBody s_law_times) (defScope s_law_times) .none kV23 dc23 pm23 an23 cd23 ct23), sl23⟩) (c23 : PySem.W.codeIn K cd23 "_law_times" = true) (k23 : PySem.W.keepIn K (.ref f23) = true)
    {f24 : Addr} {od24 an24 : Option Addr} {sl24 : Array (Option Value)} {oc24 kV24 dc24 pm24 cd24 ct24 : Value}
    (a24 : PySem.W.nsIn K mainGlobals "_law_minus" = some (some (.ref f24))) (l24 : K.lookup f24 = some ⟨oc24, od24, .func (PySem.W.fnOf "_law_minus" "_law_minus" (defArgs s_law_minus) (defBody s_law_minus) (defScope s_law_minus) .none kV24 dc24 pm24 an24 cd24 ct24), sl24⟩) (c24 : PySem.W.codeIn K cd24 "_law_minus" = true) (k24 : PySem.W.keepIn K (.ref f24) = true)
    {f25 : Addr} {od25 an25 : Option Addr} {sl25 : Array (Option Value)} {oc25 kV25 dc25 pm25 cd25 ct25 : Value}
    (a25 : PySem.W.nsIn K mainGlobals "_law_less" = some (some (.ref f25))) (l25 : K.lookup f25 = some ⟨oc25, od25, .func (PySem.W.fnOf "_law_less" "_law_less" (defArgs s_law_less) (defBody s_law_less) (defScope s_law_less) .none kV25 dc25 pm25 an25 cd25 ct25), sl25⟩) (c25 : PySem.W.codeIn K cd25 "_law_less" = true) (k25 : PySem.W.keepIn K (.ref f25) = true)
    {f26 : Addr} {od26 an26 : Option Addr} {sl26 : Array (Option Value)} {oc26 kV26 dc26 pm26 cd26 ct26 : Value}
    (a26 : PySem.W.nsIn K mainGlobals "_law_dot" = some (some (.ref f26))) (l26 : K.lookup f26 = some ⟨oc26, od26, .func (PySem.W.fnOf "_law_dot" "_law_dot" (defArgs s_law_dot) (defBody s_law_dot) (defScope s_law_dot) .none kV26 dc26 pm26 an26 cd26 ct26), sl26⟩) (c26 : PySem.W.codeIn K cd26 "_law_dot" = true) (k26 : PySem.W.keepIn K (.ref f26) = true)
    {f27 : Addr} {od27 an27 : Option Addr} {sl27 : Array (Option Value)} {oc27 kV27 dc27 pm27 cd27 ct27 : Value}
    (a27 : PySem.W.nsIn K mainGlobals "_law_amount" = some (some (.ref f27))) (l27 : K.lookup f27 = some ⟨oc27, od27, .func (PySem.W.fnOf "_law_amount" "_law_amount" (defArgs s_law_amount) (defBody s_law_amount) (defScope s_law_amount) .none kV27 dc27 pm27 an27 cd27 ct27), sl27⟩) (c27 : PySem.W.codeIn K cd27 "_law_amount" = true) (k27 : PySem.W.keepIn K (.ref f27) = true)
    {f28 : Addr} {od28 an28 : Option Addr} {sl28 : Array (Option Value)} {oc28 kV28 dc28 pm28 cd28 ct28 : Value}
    (a28 : PySem.W.nsIn K mainGlobals "_law_tree" = some (some (.ref f28))) (l28 : K.lookup f28 = some ⟨oc28, od28, .func (PySem.W.fnOf "_law_tree" "_law_tree" (defArgs s_law_tree) (defBody s_law_tree) (defScope s_law_tree) .none kV28 dc28 pm28 an28 cd28 ct28), sl28⟩) (c28 : PySem.W.codeIn K cd28 "_law_tree" = true) (k28 : PySem.W.keepIn K (.ref f28) = true)
    {f29 : Addr} {od29 an29 : Option Addr} {sl29 : Array (Option Value)} {oc29 kV29 dc29 pm29 cd29 ct29 : Value}
    (a29 : PySem.W.nsIn K mainGlobals "_law_shares" = some (some (.ref f29))) (l29 : K.lookup f29 = some ⟨oc29, od29, .func (PySem.W.fnOf "_law_shares" "_law_shares" (defArgs s_law_shares) (defBody s_law_shares) (defScope s_law_shares) .none kV29 dc29 pm29 an29 cd29 ct29), sl29⟩) (c29 : PySem.W.codeIn K cd29 "_law_shares" = true) (k29 : PySem.W.keepIn K (.ref f29) = true)
    {f30 : Addr} {od30 an30 : Option Addr} {sl30 : Array (Option Value)} {oc30 kV30 dc30 pm30 cd30 ct30 : Value}
    (a30 : PySem.W.nsIn K mainGlobals "_law_under" = some (some (.ref f30))) (l30 : K.lookup f30 = some ⟨oc30, od30, .func (PySem.W.fnOf "_law_under" "_law_under" (defArgs s_law_under) (defBody s_law_under) (defScope s_law_under) .none kV30 dc30 pm30 an30 cd30 ct30), sl30⟩) (c30 : PySem.W.codeIn K cd30 "_law_under" = true) (k30 : PySem.W.keepIn K (.ref f30) = true)
    {f31 : Addr} {od31 an31 : Option Addr} {sl31 : Array (Option Value)} {oc31 kV31 dc31 pm31 cd31 ct31 : Value}
    (a31 : PySem.W.nsIn K mainGlobals "_law_market" = some (some (.ref f31))) (l31 : K.lookup f31 = some ⟨oc31, od31, .func (PySem.W.fnOf "_law_market" "_law_market" (defArgs s_law_market) (defBody s_law_market) (defScope s_law_market) .none kV31 dc31 pm31 an31 cd31 ct31), sl31⟩) (c31 : PySem.W.codeIn K cd31 "_law_market" = true) (k31 : PySem.W.keepIn K (.ref f31) = true)
    {f32 : Addr} {od32 an32 : Option Addr} {sl32 : Array (Option Value)} {oc32 kV32 dc32 pm32 cd32 ct32 : Value}
    (a32 : PySem.W.nsIn K mainGlobals "_law_masses" = some (some (.ref f32))) (l32 : K.lookup f32 = some ⟨oc32, od32, .func (PySem.W.fnOf "_law_masses" "_law_masses" (defArgs s_law_masses) (defBody s_law_masses) (defScope s_law_masses) .none kV32 dc32 pm32 an32 cd32 ct32), sl32⟩) (c32 : PySem.W.codeIn K cd32 "_law_masses" = true) (k32 : PySem.W.keepIn K (.ref f32) = true)
    {f33 : Addr} {od33 an33 : Option Addr} {sl33 : Array (Option Value)} {oc33 kV33 dc33 pm33 cd33 ct33 : Value}
    (a33 : PySem.W.nsIn K mainGlobals "_law_children" = some (some (.ref f33))) (l33 : K.lookup f33 = some ⟨oc33, od33, .func (PySem.W.fnOf "_law_children" "_law_children" (defArgs s_law_children) (defBody s_law_children) (defScope s_law_children) .none kV33 dc33 pm33 an33 cd33 ct33), sl33⟩) (c33 : PySem.W.codeIn K cd33 "_law_children" = true) (k33 : PySem.W.keepIn K (.ref f33) = true)
    {f34 : Addr} {od34 an34 : Option Addr} {sl34 : Array (Option Value)} {oc34 kV34 dc34 pm34 cd34 ct34 : Value}
    (a34 : PySem.W.nsIn K mainGlobals "_law_gains" = some (some (.ref f34))) (l34 : K.lookup f34 = some ⟨oc34, od34, .func (PySem.W.fnOf "_law_gains" "_law_gains" (defArgs s_law_gains) (defBody s_law_gains) (defScope s_law_gains) .none kV34 dc34 pm34 an34 cd34 ct34), sl34⟩) (c34 : PySem.W.codeIn K cd34 "_law_gains" = true) (k34 : PySem.W.keepIn K (.ref f34) = true)
    {f35 : Addr} {od35 an35 : Option Addr} {sl35 : Array (Option Value)} {oc35 kV35 dc35 pm35 cd35 ct35 : Value}
    (a35 : PySem.W.nsIn K mainGlobals "_law_balanced" = some (some (.ref f35))) (l35 : K.lookup f35 = some ⟨oc35, od35, .func (PySem.W.fnOf "_law_balanced" "_law_balanced" (defArgs s_law_balanced) (defBody s_law_balanced) (defScope s_law_balanced) .none kV35 dc35 pm35 an35 cd35 ct35), sl35⟩) (c35 : PySem.W.codeIn K cd35 "_law_balanced" = true) (k35 : PySem.W.keepIn K (.ref f35) = true)
    {f36 : Addr} {od36 an36 : Option Addr} {sl36 : Array (Option Value)} {oc36 kV36 dc36 pm36 cd36 ct36 : Value}
    (a36 : PySem.W.nsIn K mainGlobals "_law_loose" = some (some (.ref f36))) (l36 : K.lookup f36 = some ⟨oc36, od36, .func (PySem.W.fnOf "_law_loose" "_law_loose" (defArgs s_law_loose) (defBody s_law_loose) (defScope s_law_loose) .none kV36 dc36 pm36 an36 cd36 ct36), sl36⟩) (c36 : PySem.W.codeIn K cd36 "_law_loose" = true) (k36 : PySem.W.keepIn K (.ref f36) = true)
    {f37 : Addr} {od37 an37 : Option Addr} {sl37 : Array (Option Value)} {oc37 kV37 dc37 pm37 cd37 ct37 : Value}
    (a37 : PySem.W.nsIn K mainGlobals "_law_changed" = some (some (.ref f37))) (l37 : K.lookup f37 = some ⟨oc37, od37, .func (PySem.W.fnOf "_law_changed" "_law_changed" (defArgs s_law_changed) (defBody s_law_changed) (defScope s_law_changed) .none kV37 dc37 pm37 an37 cd37 ct37), sl37⟩) (c37 : PySem.W.codeIn K cd37 "_law_changed" = true) (k37 : PySem.W.keepIn K (.ref f37) = true)
    {f38 : Addr} {od38 an38 : Option Addr} {sl38 : Array (Option Value)} {oc38 kV38 dc38 pm38 cd38 ct38 : Value}
    (a38 : PySem.W.nsIn K mainGlobals "law" = some (some (.ref f38))) (l38 : K.lookup f38 = some ⟨oc38, od38, .func (PySem.W.fnOf "law" "law" (defArgs s_law) (defBody s_law) (defScope s_law) .none kV38 dc38 pm38 an38 cd38 ct38), sl38⟩) (c38 : PySem.W.codeIn K cd38 "law" = true) (k38 : PySem.W.keepIn K (.ref f38) = true)
    {t0 : Addr} {to0 : Option Addr} {tn0 : Nat} {ts0 : Array (Option Value)} {tx0 ty0 : Tok}
    (n0 : PySem.W.nsIn K mainGlobals "NOUGHT" = some (some (.ref t0))) (o0 : K.lookup t0 = some ⟨.type "tuple", to0, .seq #[.int (0) tx0, .int 1 ty0] tn0, ts0⟩)
    {t1 : Addr} {to1 : Option Addr} {tn1 : Nat} {ts1 : Array (Option Value)} {tx1 ty1 : Tok}
    (n1 : PySem.W.nsIn K mainGlobals "MINUS" = some (some (.ref t1))) (o1 : K.lookup t1 = some ⟨.type "tuple", to1, .seq #[.int (-1) tx1, .int 1 ty1] tn1, ts1⟩)
    (g0 : PySem.W.nsIn K mainGlobals "gcd" = some (some (.builtin "math.gcd")))
    (z0 : PySem.W.nsIn K mainGlobals "len" = some none) (z1 : PySem.W.nsIn K mainGlobals "range" = some none) (z2 : PySem.W.nsIn K mainGlobals "zip" = some none) (z3 : PySem.W.nsIn K mainGlobals "int" = some none) (z4 : PySem.W.nsIn K mainGlobals "abs" = some none) (z5 : PySem.W.nsIn K mainGlobals "sum" = some none) (z6 : PySem.W.nsIn K mainGlobals "list" = some none) (z7 : PySem.W.nsIn K mainGlobals "repr" = some none) (z8 : PySem.W.nsIn K mainGlobals "isinstance" = some none) (z9 : PySem.W.nsIn K mainGlobals "bool" = some none) (z10 : PySem.W.nsIn K mainGlobals "enumerate" = some none) :
    ∃ fd : FuncData, (∀ (s : Shared) (v : Value), BindsTo s fd ⟨[v], []⟩ [("_law_script", v)]) ∧ ∀ base : Heap, K.In base → base.Ns mainGlobals mg → FnG P w K mg base CX0 21 fa fd ["_law_script"] (spL K) := by
  have e := hfa.symm.trans (PySem.W.mg_of X G a38)
  cases e
  have A0 : At K mg "number" s_number ["n", "d"] := by
    have F := fun_mk (st := s_number) l0 c0 k0
    exact ⟨_, _, F, PySem.W.mg_of X G a0, F.binds (ps := ["n", "d"]) fun _ _ _ _ _ _ us hl => match us, hl with | [_, _], _ => rfl⟩
  have A1 : At K mg "compare" s_compare ["a", "b"] := by
    have F := fun_mk (st := s_compare) l1 c1 k1
    exact ⟨_, _, F, PySem.W.mg_of X G a1, F.binds (ps := ["a", "b"]) fun _ _ _ _ _ _ us hl => match us, hl with | [_, _], _ => rfl⟩
  have A2 : At K mg "plus" s_plus ["a", "b"] := by
    have F := fun_mk (st := s_plus) l2 c2 k2
    exact ⟨_, _, F, PySem.W.mg_of X G a2, F.binds (ps := ["a", "b"]) fun _ _ _ _ _ _ us hl => match us, hl with | [_, _], _ => rfl⟩
  have A3 : At K mg "minus" s_minus ["a", "b"] := by
    have F := fun_mk (st := s_minus) l3 c3 k3
    exact ⟨_, _, F, PySem.W.mg_of X G a3, F.binds (ps := ["a", "b"]) fun _ _ _ _ _ _ us hl => match us, hl with | [_, _], _ => rfl⟩
  have A4 : At K mg "times" s_times ["a", "b"] := by
    have F := fun_mk (st := s_times) l4 c4 k4
    exact ⟨_, _, F, PySem.W.mg_of X G a4, F.binds (ps := ["a", "b"]) fun _ _ _ _ _ _ us hl => match us, hl with | [_, _], _ => rfl⟩
  have A5 : At K mg "total" s_total ["numbers"] := by
    have F := fun_mk (st := s_total) l5 c5 k5
    exact ⟨_, _, F, PySem.W.mg_of X G a5, F.binds (ps := ["numbers"]) fun _ _ _ _ _ _ us hl => match us, hl with | [_], _ => rfl⟩
  have A6 : At K mg "dot" s_dot ["a", "b"] := by
    have F := fun_mk (st := s_dot) l6 c6 k6
    exact ⟨_, _, F, PySem.W.mg_of X G a6, F.binds (ps := ["a", "b"]) fun _ _ _ _ _ _ us hl => match us, hl with | [_, _], _ => rfl⟩
  have A7 : At K mg "children" s_children ["market", "node"] := by
    have F := fun_mk (st := s_children) l7 c7 k7
    exact ⟨_, _, F, PySem.W.mg_of X G a7, F.binds (ps := ["market", "node"]) fun _ _ _ _ _ _ us hl => match us, hl with | [_, _], _ => rfl⟩
  have A8 : At K mg "inner_nodes" s_inner_nodes ["market"] := by
    have F := fun_mk (st := s_inner_nodes) l8 c8 k8
    exact ⟨_, _, F, PySem.W.mg_of X G a8, F.binds (ps := ["market"]) fun _ _ _ _ _ _ us hl => match us, hl with | [_], _ => rfl⟩
  have A9 : At K mg "gains_in" s_gains_in ["market", "node", "child"] := by
    have F := fun_mk (st := s_gains_in) l9 c9 k9
    exact ⟨_, _, F, PySem.W.mg_of X G a9, F.binds (ps := ["market", "node", "child"]) fun _ _ _ _ _ _ us hl => match us, hl with | [_, _, _], _ => rfl⟩
  have A10 : At K mg "gains" s_gains ["market", "node"] := by
    have F := fun_mk (st := s_gains) l10 c10 k10
    exact ⟨_, _, F, PySem.W.mg_of X G a10, F.binds (ps := ["market", "node"]) fun _ _ _ _ _ _ us hl => match us, hl with | [_, _], _ => rfl⟩
  have A11 : At K mg "flow_row" s_flow_row ["market", "node"] := by
    have F := fun_mk (st := s_flow_row) l11 c11 k11
    exact ⟨_, _, F, PySem.W.mg_of X G a11, F.binds (ps := ["market", "node"]) fun _ _ _ _ _ _ us hl => match us, hl with | [_, _], _ => rfl⟩
  have A12 : At K mg "gain_row" s_gain_row ["market", "node", "asset"] := by
    have F := fun_mk (st := s_gain_row) l12 c12 k12
    exact ⟨_, _, F, PySem.W.mg_of X G a12, F.binds (ps := ["market", "node", "asset"]) fun _ _ _ _ _ _ us hl => match us, hl with | [_, _, _], _ => rfl⟩
  have A13 : At K mg "turned_round" s_turned_round ["row"] := by
    have F := fun_mk (st := s_turned_round) l13 c13 k13
    exact ⟨_, _, F, PySem.W.mg_of X G a13, F.binds (ps := ["row"]) fun _ _ _ _ _ _ us hl => match us, hl with | [_], _ => rfl⟩
  have A14 : At K mg "signs_of" s_signs_of ["rule"] := by
    have F := fun_mk (st := s_signs_of) l14 c14 k14
    exact ⟨_, _, F, PySem.W.mg_of X G a14, F.binds (ps := ["rule"]) fun _ _ _ _ _ _ us hl => match us, hl with | [_], _ => rfl⟩
  have A15 : At K mg "signed" s_signed ["label", "row", "signs"] := by
    have F := fun_mk (st := s_signed) l15 c15 k15
    exact ⟨_, _, F, PySem.W.mg_of X G a15, F.binds (ps := ["label", "row", "signs"]) fun _ _ _ _ _ _ us hl => match us, hl with | [_, _, _], _ => rfl⟩
  have A16 : At K mg "mass_rows" s_mass_rows ["market"] := by
    have F := fun_mk (st := s_mass_rows) l16 c16 k16
    exact ⟨_, _, F, PySem.W.mg_of X G a16, F.binds (ps := ["market"]) fun _ _ _ _ _ _ us hl => match us, hl with | [_], _ => rfl⟩
  have A17 : At K mg "fulfills" s_fulfills ["rows", "masses"] := by
    have F := fun_mk (st := s_fulfills) l17 c17 k17
    exact ⟨_, _, F, PySem.W.mg_of X G a17, F.binds (ps := ["rows", "masses"]) fun _ _ _ _ _ _ us hl => match us, hl with | [_, _], _ => rfl⟩
  have A18 : At K mg "is_balances" s_is_balances ["market", "balances"] := by
    have F := fun_mk (st := s_is_balances) l18 c18 k18
    exact ⟨_, _, F, PySem.W.mg_of X G a18, F.binds (ps := ["market", "balances"]) fun _ _ _ _ _ _ us hl => match us, hl with | [_, _], _ => rfl⟩
  have A19 : At K mg "speak_against" s_speak_against ["market", "payments", "balances"] := by
    have F := fun_mk (st := s_speak_against) l19 c19 k19
    exact ⟨_, _, F, PySem.W.mg_of X G a19, F.binds (ps := ["market", "payments", "balances"]) fun _ _ _ _ _ _ us hl => match us, hl with | [_, _, _], _ => rfl⟩
  have A20 : At K mg "_law_draw" s_law_draw ["_law_stream", "_law_many"] := by
    have F := fun_mk (st := s_law_draw) l20 c20 k20
    exact ⟨_, _, F, PySem.W.mg_of X G a20, F.binds (ps := ["_law_stream", "_law_many"]) fun _ _ _ _ _ _ us hl => match us, hl with | [_, _], _ => rfl⟩
  have A21 : At K mg "_law_number" s_law_number ["_law_n", "_law_d"] := by
    have F := fun_mk (st := s_law_number) l21 c21 k21
    exact ⟨_, _, F, PySem.W.mg_of X G a21, F.binds (ps := ["_law_n", "_law_d"]) fun _ _ _ _ _ _ us hl => match us, hl with | [_, _], _ => rfl⟩
  have A22 : At K mg "_law_plus" s_law_plus ["_law_a", "_law_b"] := by
    have F := fun_mk (st := s_law_plus) l22 c22 k22
    exact ⟨_, _, F, PySem.W.mg_of X G a22, F.binds (ps := ["_law_a", "_law_b"]) fun _ _ _ _ _ _ us hl => match us, hl with | [_, _], _ => rfl⟩
  have A23 : At K mg "_law_times" s_law_times ["_law_a", "_law_b"] := by
    have F := fun_mk (st := s_law_times) l23 c23 k23
    exact ⟨_, _, F, PySem.W.mg_of X G a23, F.binds (ps := ["_law_a", "_law_b"]) fun _ _ _ _ _ _ us hl => match us, hl with | [_, _], _ => rfl⟩
  have A24 : At K mg "_law_minus" s_law_minus ["_law_a", "_law_b"] := by
    have F := fun_mk (st := s_law_minus) l24 c24 k24
    exact ⟨_, _, F, PySem.W.mg_of X G a24, F.binds (ps := ["_law_a", "_law_b"]) fun _ _ _ _ _ _ us hl => match us, hl with | [_, _], _ => rfl⟩
  have A25 : At K mg "_law_less" s_law_less ["_law_a", "_law_b"] := by
    have F := fun_mk (st := s_law_less) l25 c25 k25
    exact ⟨_, _, F, PySem.W.mg_of X G a25, F.binds (ps := ["_law_a", "_law_b"]) fun _ _ _ _ _ _ us hl => match us, hl with | [_, _], _ => rfl⟩
  have A26 : At K mg "_law_dot" s_law_dot ["_law_a", "_law_b"] := by
    have F := fun_mk (st := s_law_dot) l26 c26 k26
    exact ⟨_, _, F, PySem.W.mg_of X G a26, F.binds (ps := ["_law_a", "_law_b"]) fun _ _ _ _ _ _ us hl => match us, hl with | [_, _], _ => rfl⟩
  have A27 : At K mg "_law_amount" s_law_amount ["_law_stream"] := by
    have F := fun_mk (st := s_law_amount) l27 c27 k27
    exact ⟨_, _, F, PySem.W.mg_of X G a27, F.binds (ps := ["_law_stream"]) fun _ _ _ _ _ _ us hl => match us, hl with | [_], _ => rfl⟩
  have A28 : At K mg "_law_tree" s_law_tree ["_law_stream", "_law_most"] := by
    have F := fun_mk (st := s_law_tree) l28 c28 k28
    exact ⟨_, _, F, PySem.W.mg_of X G a28, F.binds (ps := ["_law_stream", "_law_most"]) fun _ _ _ _ _ _ us hl => match us, hl with | [_, _], _ => rfl⟩
  have A29 : At K mg "_law_shares" s_law_shares ["_law_stream", "_law_many"] := by
    have F := fun_mk (st := s_law_shares) l29 c29 k29
    exact ⟨_, _, F, PySem.W.mg_of X G a29, F.binds (ps := ["_law_stream", "_law_many"]) fun _ _ _ _ _ _ us hl => match us, hl with | [_, _], _ => rfl⟩
  have A30 : At K mg "_law_under" s_law_under ["_law_parents", "_law_node"] := by
    have F := fun_mk (st := s_law_under) l30 c30 k30
    exact ⟨_, _, F, PySem.W.mg_of X G a30, F.binds (ps := ["_law_parents", "_law_node"]) fun _ _ _ _ _ _ us hl => match us, hl with | [_, _], _ => rfl⟩
  have A31 : At K mg "_law_market" s_law_market ["_law_stream", "_law_most", "_law_free"] := by
    have F := fun_mk (st := s_law_market) l31 c31 k31
    exact ⟨_, _, F, PySem.W.mg_of X G a31, F.binds (ps := ["_law_stream", "_law_most", "_law_free"]) fun _ _ _ _ _ _ us hl => match us, hl with | [_, _, _], _ => rfl⟩
  have A32 : At K mg "_law_masses" s_law_masses ["_law_market_here", "_law_shares_here"] := by
    have F := fun_mk (st := s_law_masses) l32 c32 k32
    exact ⟨_, _, F, PySem.W.mg_of X G a32, F.binds (ps := ["_law_market_here", "_law_shares_here"]) fun _ _ _ _ _ _ us hl => match us, hl with | [_, _], _ => rfl⟩
  have A33 : At K mg "_law_children" s_law_children ["_law_market_here", "_law_node"] := by
    have F := fun_mk (st := s_law_children) l33 c33 k33
    exact ⟨_, _, F, PySem.W.mg_of X G a33, F.binds (ps := ["_law_market_here", "_law_node"]) fun _ _ _ _ _ _ us hl => match us, hl with | [_, _], _ => rfl⟩
  have A34 : At K mg "_law_gains" s_law_gains ["_law_market_here", "_law_child"] := by
    have F := fun_mk (st := s_law_gains) l34 c34 k34
    exact ⟨_, _, F, PySem.W.mg_of X G a34, F.binds (ps := ["_law_market_here", "_law_child"]) fun _ _ _ _ _ _ us hl => match us, hl with | [_, _], _ => rfl⟩
  have A35 : At K mg "_law_balanced" s_law_balanced ["_law_market_here", "_law_masses_here"] := by
    have F := fun_mk (st := s_law_balanced) l35 c35 k35
    exact ⟨_, _, F, PySem.W.mg_of X G a35, F.binds (ps := ["_law_market_here", "_law_masses_here"]) fun _ _ _ _ _ _ us hl => match us, hl with | [_, _], _ => rfl⟩
  have A36 : At K mg "_law_loose" s_law_loose ["_law_market_here"] := by
    have F := fun_mk (st := s_law_loose) l36 c36 k36
    exact ⟨_, _, F, PySem.W.mg_of X G a36, F.binds (ps := ["_law_market_here"]) fun _ _ _ _ _ _ us hl => match us, hl with | [_], _ => rfl⟩
  have A37 : At K mg "_law_changed" s_law_changed ["_law_stream", "_law_balances"] := by
    have F := fun_mk (st := s_law_changed) l37 c37 k37
    exact ⟨_, _, F, PySem.W.mg_of X G a37, F.binds (ps := ["_law_stream", "_law_balances"]) fun _ _ _ _ _ _ us hl => match us, hl with | [_, _], _ => rfl⟩
  have C0 : Cst K mg "NOUGHT" (encQ (0)) := cst_pair o0 (PySem.W.mg_of X G n0)
  have C1 : Cst K mg "MINUS" (encQ (-1)) := cst_pair o1 (PySem.W.mg_of X G n1)
  have Fl := fun_mk (st := s_law) l38 c38 k38
  refine ⟨PySem.W.fnOf "law" "law" (defArgs s_law) (defBody s_law) (defScope s_law) .none kV38 dc38 pm38 an38 cd38 ct38, fun s v => .of_eq rfl, fun base _ _ => ?_⟩
  have m_len := PySem.W.mg_none_of X G z0
  have m_range := PySem.W.mg_none_of X G z1
  have m_zip := PySem.W.mg_none_of X G z2
  have m_int := PySem.W.mg_none_of X G z3
  have m_abs := PySem.W.mg_none_of X G z4
  have m_sum := PySem.W.mg_none_of X G z5
  have m_list := PySem.W.mg_none_of X G z6
  have m_repr := PySem.W.mg_none_of X G z7
  have m_isinstance := PySem.W.mg_none_of X G z8
  have m_bool := PySem.W.mg_none_of X G z9
  have m_enumerate := PySem.W.mg_none_of X G z10
  have g_gcd := PySem.W.mg_of X G g0
  exact fn_law_all Fl A0 A1 A2 A3 A4 A5 A6 A7 A8 A9 A10 A11 A12 A13 A14 A15 A16 A17 A18 A19 A20 A21 A22 A23 A24 A25 A26 A27 A28 A29 A30 A31 A32 A33 A34 A35 A36 A37 C0 C1 g_gcd m_len m_range m_zip m_int m_abs m_sum m_list m_repr m_isinstance m_bool m_enumerate
end K

open PySem PySem.W PyProof.Rows
set_option Elab.async false
set_option linter.all false
set_option maxRecDepth 100000
set_option maxHeartbeats 0 in
theorem PySem.Challenge.cw_surehedge_k74_balances_holds : PySem.Challenge.rw_surehedge_k74_balances.Holds := by
  w_on; o_law; k_head; (case hw => w_witness2)
  k_fill
  refine G.walk_told (l := PySem.Challenge.rw_surehedge_k74_balances) (n := 63) (k := 21) (x := "_law_script") rfl (by decide) rfl ⟨rfl, by decide, by decide⟩ (fun w h Y => PySem.W.kIn_of Y) ?F
  case F =>
    intro w mg fa h KX G hmg
    refine' K.all_mk KX G hmg ?jj_a0 ?jj_l0 ?jj_c0 ?jj_k0 ?jj_a1 ?jj_l1 ?jj_c1 ?jj_k1 ?jj_a2 ?jj_l2 ?jj_c2 ?jj_k2 ?jj_a3 ?jj_l3 ?jj_c3 ?jj_k3 ?jj_a4 ?jj_l4 ?jj_c4 ?jj_k4 ?jj_a5 ?jj_l5 ?jj_c5 ?jj_k5 ?jj_a6 ?jj_l6 ?jj_c6 ?jj_k6 ?jj_a7 ?jj_l7 ?jj_c7 ?jj_k7 ?jj_a8 ?jj_l8 ?jj_c8 ?jj_k8 ?jj_a9 ?jj_l9 ?jj_c9 ?jj_k9 ?jj_a10 ?jj_l10 ?jj_c10 ?jj_k10 ?jj_a11 ?jj_l11 ?jj_c11 ?jj_k11 ?jj_a12 ?jj_l12 ?jj_c12 ?jj_k12 ?jj_a13 ?jj_l13 ?jj_c13 ?jj_k13 ?jj_a14 ?jj_l14 ?jj_c14 ?jj_k14 ?jj_a15 ?jj_l15 ?jj_c15 ?jj_k15 ?jj_a16 ?jj_l16 ?jj_c16 ?jj_k16 ?jj_a17 ?jj_l17 ?jj_c17 ?jj_k17 ?jj_a18 ?jj_l18 ?jj_c18 ?jj_k18 ?jj_a19 ?jj_l19 ?jj_c19 ?jj_k19 ?jj_a20 ?jj_l20 ?jj_c20 ?jj_k20 ?jj_a21 ?jj_l21 ?jj_c21 ?jj_k21 ?jj_a22 ?jj_l22 ?jj_c22 ?jj_k22 ?jj_a23 ?jj_l23 ?jj_c23 ?jj_k23 ?jj_a24 ?jj_l24 ?jj_c24 ?jj_k24 ?jj_a25 ?jj_l25 ?jj_c25 ?jj_k25 ?jj_a26 ?jj_l26 ?jj_c26 ?jj_k26 ?jj_a27 ?jj_l27 ?jj_c27 ?jj_k27 ?jj_a28 ?jj_l28 ?jj_c28 ?jj_k28 ?jj_a29 ?jj_l29 ?jj_c29 ?jj_k29 ?jj_a30 ?jj_l30 ?jj_c30 ?jj_k30 ?jj_a31 ?jj_l31 ?jj_c31 ?jj_k31 ?jj_a32 ?jj_l32 ?jj_c32 ?jj_k32 ?jj_a33 ?jj_l33 ?jj_c33 ?jj_k33 ?jj_a34 ?jj_l34 ?jj_c34 ?jj_k34 ?jj_a35 ?jj_l35 ?jj_c35 ?jj_k35 ?jj_a36 ?jj_l36 ?jj_c36 ?jj_k36 ?jj_a37 ?jj_l37 ?jj_c37 ?jj_k37 ?jj_a38 ?jj_l38 ?jj_c38 ?jj_k38 ?jj_n0 ?jj_o0 ?jj_n1 ?jj_o1 ?jj_g0 ?jj_z0 ?jj_z1 ?jj_z2 ?jj_z3 ?jj_z4 ?jj_z5 ?jj_z6 ?jj_z7 ?jj_z8 ?jj_z9 ?jj_z10
    (case jj_a0 => k_is); (case jj_l0 => k_is); (case jj_c0 => k_is); (case jj_k0 => k_is); (case jj_a1 => k_is); (case jj_l1 => k_is); (case jj_c1 => k_is); (case jj_k1 => k_is); (case jj_a2 => k_is); (case jj_l2 => k_is); (case jj_c2 => k_is); (case jj_k2 => k_is); (case jj_a3 => k_is); (case jj_l3 => k_is); (case jj_c3 => k_is); (case jj_k3 => k_is); (case jj_a4 => k_is); (case jj_l4 => k_is); (case jj_c4 => k_is); (case jj_k4 => k_is); (case jj_a5 => k_is); (case jj_l5 => k_is); (case jj_c5 => k_is); (case jj_k5 => k_is); (case jj_a6 => k_is); (case jj_l6 => k_is); (case jj_c6 => k_is); (case jj_k6 => k_is); (case jj_a7 => k_is); (case jj_l7 => k_is); (case jj_c7 => k_is); (case jj_k7 => k_is); (case jj_a8 => k_is); (case jj_l8 => k_is); (case jj_c8 => k_is); (case jj_k8 => k_is); (case jj_a9 => k_is); (case jj_l9 => k_is); (case jj_c9 => k_is); (case jj_k9 => k_is); (case jj_a10 => k_is); (case jj_l10 => k_is); (case jj_c10 => k_is); (case jj_k10 => k_is); (case jj_a11 => k_is); (case jj_l11 => k_is); (case jj_c11 => k_is); (case jj_k11 => k_is); (case jj_a12 => k_is); (case jj_l12 => k_is); (case jj_c12 => k_is); (case jj_k12 => k_is); (case jj_a13 => k_is); (case jj_l13 => k_is); (case jj_c13 => k_is); (case jj_k13 => k_is); (case jj_a14 => k_is); (case jj_l14 => k_is); (case jj_c14 => k_is); (case jj_k14 => k_is); (case jj_a15 => k_is); (case jj_l15 => k_is); (case jj_c15 => k_is); (case jj_k15 => k_is); (case jj_a16 => k_is); (case jj_l16 => k_is); (case jj_c16 => k_is); (case jj_k16 => k_is); (case jj_a17 => k_is); (case jj_l17 => k_is); (case jj_c17 => k_is); (case jj_k17 => k_is); (case jj_a18 => k_is); (case jj_l18 => k_is); (case jj_c18 => k_is); (case jj_k18 => k_is); (case jj_a19 => k_is); (case jj_l19 => k_is); (case jj_c19 => k_is); (case jj_k19 => k_is); (case jj_a20 => k_is); (case jj_l20 => k_is); (case jj_c20 => k_is); (case jj_k20 => k_is); (case jj_a21 => k_is); (case jj_l21 => k_is); (case jj_c21 => k_is); (case jj_k21 => k_is); (case jj_a22 => k_is); (case jj_l22 => k_is); (case jj_c22 => k_is); (case jj_k22 => k_is); (case jj_a23 => k_is); (case jj_l23 => k_is); (case jj_c23 => k_is); (case jj_k23 => k_is); (case jj_a24 => k_is); (case jj_l24 => k_is); (case jj_c24 => k_is); (case jj_k24 => k_is); (case jj_a25 => k_is); (case jj_l25 => k_is); (case jj_c25 => k_is); (case jj_k25 => k_is); (case jj_a26 => k_is); (case jj_l26 => k_is); (case jj_c26 => k_is); (case jj_k26 => k_is); (case jj_a27 => k_is); (case jj_l27 => k_is); (case jj_c27 => k_is); (case jj_k27 => k_is); (case jj_a28 => k_is); (case jj_l28 => k_is); (case jj_c28 => k_is); (case jj_k28 => k_is); (case jj_a29 => k_is); (case jj_l29 => k_is); (case jj_c29 => k_is); (case jj_k29 => k_is); (case jj_a30 => k_is); (case jj_l30 => k_is); (case jj_c30 => k_is); (case jj_k30 => k_is); (case jj_a31 => k_is); (case jj_l31 => k_is); (case jj_c31 => k_is); (case jj_k31 => k_is); (case jj_a32 => k_is); (case jj_l32 => k_is); (case jj_c32 => k_is); (case jj_k32 => k_is); (case jj_a33 => k_is); (case jj_l33 => k_is); (case jj_c33 => k_is); (case jj_k33 => k_is); (case jj_a34 => k_is); (case jj_l34 => k_is); (case jj_c34 => k_is); (case jj_k34 => k_is); (case jj_a35 => k_is); (case jj_l35 => k_is); (case jj_c35 => k_is); (case jj_k35 => k_is); (case jj_a36 => k_is); (case jj_l36 => k_is); (case jj_c36 => k_is); (case jj_k36 => k_is); (case jj_a37 => k_is); (case jj_l37 => k_is); (case jj_c37 => k_is); (case jj_k37 => k_is); (case jj_a38 => k_is); (case jj_l38 => k_is); (case jj_c38 => k_is); (case jj_k38 => k_is); (case jj_n0 => k_is); (case jj_o0 => k_is); (case jj_n1 => k_is); (case jj_o1 => k_is); (case jj_g0 => k_is); (case jj_z0 => k_is); (case jj_z1 => k_is); (case jj_z2 => k_is); (case jj_z3 => k_is); (case jj_z4 => k_is); (case jj_z5 => k_is); (case jj_z6 => k_is); (case jj_z7 => k_is); (case jj_z8 => k_is); (case jj_z9 => k_is); (case jj_z10 => k_is)

