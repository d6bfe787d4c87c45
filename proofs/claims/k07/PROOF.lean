import PyProof.Rows.All
import Wide.All
import OpenK.AllK
import Wide.FinOn
import HandS.ForMost
import HandS.ForExc
import HandS.Finally
import HandS.IsInst
import HandS.Deep
import HandS.TupAny
import HandS.Zip
import HandS.Conv
import HandS.Flow
import HandS.More
import HandS.ListEq
import HandS.SortKw
import HandS.ExcOwn
import HandS.ExcIs
import HandS.Text
import KE.RegKIsAll
import KE.KDictKeyed
import KE.KDictWalk
import PySem.Challenge.RW_commonforms_k07_the_least_common_form
set_option Elab.async false
set_option linter.all false
set_option maxRecDepth 100000
set_option maxHeartbeats 4000000
/-! FxA: values as data (PyData): what stands at a value in a heap, what evaluates to which data. -/
namespace Fx
open PySem L2

def keyD : Key → PyData
  | .inl i => .int i
  | .inr s => .str s

mutual
/-- the value v, in the heap H, is the data d -/
def Rp (H : Hp) : PyData → V → Prop
  | .none, v => v = .non
  | .bool b, v => v = .bl b
  | .int i, v => v = .int i
  | .str s, v => v = .str s
  | .list ds, v => ∃ a xs, v = .ref a ∧ H a = some (.lst xs) ∧ RpL H ds xs
  | .tuple ds, v => ∃ a xs, v = .ref a ∧ H a = some (.tup xs) ∧ RpL H ds xs
  | .dict kvs, v => ∃ a xs, v = .ref a ∧ Rd H a (.dK xs) ∧ RpK H kvs xs
def RpL (H : Hp) : List PyData → List V → Prop
  | [], vs => vs = []
  | d :: ds, vs => ∃ v r, vs = v :: r ∧ Rp H d v ∧ RpL H ds r
def RpK (H : Hp) : List (PyData × PyData) → List (Key × V) → Prop
  | [], vs => vs = []
  | (k, d) :: ds, vs => ∃ p r, vs = p :: r ∧ k = keyD p.1 ∧ Rp H d p.2 ∧ RpK H ds r
end

/-- what may be read is as it was -/
structure Le (H H' : Hp) : Prop where
  ls : ∀ a xs, H a = some (.lst xs) → H' a = some (.lst xs)
  dk : ∀ a xs, Rd H a (.dK xs) → Rd H' a (.dK xs)
  tp : ∀ a xs, H a = some (.tup xs) → H' a = some (.tup xs)
/-- tuples are kept -/
def KT (H H' : Hp) : Prop := ∀ a xs, H a = some (.tup xs) → H' a = some (.tup xs)
theorem Le.refl (H : Hp) : Le H H := ⟨fun _ _ h => h, fun _ _ h => h, fun _ _ h => h⟩
theorem Le.trans {H H1 H2 : Hp} (a : Le H H1) (b : Le H1 H2) : Le H H2 := ⟨fun x u h => b.ls x u (a.ls x u h), fun x u h => b.dk x u (a.dk x u h), fun x u h => b.tp x u (a.tp x u h)⟩
theorem rd_same {H H' : Hp} (s : Same H H') {a : Addr} {u : HO} (h : Rd H a u) : Rd H' a u := by
  rcases h with h | ⟨o, h⟩
  · exact .inl (s _ _ h)
  · exact .inr ⟨o, s _ _ h⟩
theorem Le.of {H H' : Hp} (s : Same H H') : Le H H' := ⟨fun a u h => s _ _ h, fun a u h => rd_same s h, fun a xs h => s _ _ h⟩
theorem KT.refl (H : Hp) : KT H H := fun _ _ h => h
theorem KT.trans {H H1 H2 : Hp} (a : KT H H1) (b : KT H1 H2) : KT H H2 := fun x u h => b x u (a x u h)
theorem KT.of {H H' : Hp} (s : Same H H') : KT H H' := fun a xs h => s _ _ h
theorem KT.upd {H : Hp} {a : Addr} {o : HO} (h : ∀ xs, H a ≠ some (.tup xs)) : KT H (upd H a o) := fun b xs q => by
  rw [upd_ne (fun e => h xs (by rw [← e]; exact q))]; exact q
theorem rd_ne {H : Hp} {a d : Addr} {u o : HO} (e : a ≠ d) (h : Rd H a u) : Rd (upd H d o) a u := by
  rcases h with q | ⟨o', q⟩
  · exact .inl (by rw [upd_ne e]; exact q)
  · exact .inr ⟨o', by rw [upd_ne e]; exact q⟩
theorem Le.lock {H : Hp} {d : Addr} {kvs : List (Key × V)} (h : H d = some (.dK kvs)) (od : Obj) : Le H (upd H d (.frz od (.dK kvs))) := by
  refine ⟨fun a xs q => ?_, fun a xs q => ?_, fun a xs q => ?_⟩
  · rw [upd_ne (fun e => by subst e; rw [h] at q; cases q)]; exact q
  · by_cases e : a = d
    · subst e
      rcases q with q | ⟨_, q⟩
      · rw [h] at q; cases q; exact .inr ⟨od, upd_same⟩
      · rw [h] at q; cases q
    · exact rd_ne e q
  · rw [upd_ne (fun e => by subst e; rw [h] at q; cases q)]; exact q
theorem Le.unlock {H : Hp} {d : Addr} {kvs : List (Key × V)} {od : Obj} (h : H d = some (.frz od (.dK kvs))) : Le H (upd H d (.dK kvs)) := by
  refine ⟨fun a xs q => ?_, fun a xs q => ?_, fun a xs q => ?_⟩
  · rw [upd_ne (fun e => by subst e; rw [h] at q; cases q)]; exact q
  · by_cases e : a = d
    · subst e
      rcases q with q | ⟨_, q⟩
      · rw [h] at q; cases q
      · rw [h] at q; cases q; exact .inl upd_same
    · exact rd_ne e q
  · rw [upd_ne (fun e => by subst e; rw [h] at q; cases q)]; exact q
theorem Same.new {H : Hp} {p : Addr} {o : HO} (h : H p = none) : Same H (upd H p o) := fun b u q => by rw [upd_ne (ne_of_none q h)]; exact q
/-- a fresh address may be written -/
theorem Same.put {H H' : Hp} {p : Addr} {o : HO} (s : Same H H') (h : H p = none) : Same H (upd H' p o) := fun b u q => by rw [upd_ne (ne_of_none q h)]; exact s b u q

mutual
theorem Rp.le {H H' : Hp} (l : Le H H') : ∀ (d : PyData) (v : V), Rp H d v → Rp H' d v
  | .none, _, h => h
  | .bool _, _, h => h
  | .int _, _, h => h
  | .str _, _, h => h
  | .list ds, _, ⟨a, xs, e, r, q⟩ => ⟨a, xs, e, l.ls a xs r, RpL.le l ds xs q⟩
  | .tuple ds, _, ⟨a, xs, e, r, q⟩ => ⟨a, xs, e, l.tp a xs r, RpL.le l ds xs q⟩
  | .dict kvs, _, ⟨a, xs, e, r, q⟩ => ⟨a, xs, e, l.dk a xs r, RpK.le l kvs xs q⟩
theorem RpL.le {H H' : Hp} (l : Le H H') : ∀ (ds : List PyData) (vs : List V), RpL H ds vs → RpL H' ds vs
  | [], _, h => h
  | d :: ds, _, ⟨v, r, e, h, q⟩ => ⟨v, r, e, Rp.le l d v h, RpL.le l ds r q⟩
theorem RpK.le {H H' : Hp} (l : Le H H') : ∀ (ds : List (PyData × PyData)) (vs : List (Key × V)), RpK H ds vs → RpK H' ds vs
  | [], _, h => h
  | (k, d) :: ds, _, ⟨p, r, e, ek, h, q⟩ => ⟨p, r, e, ek, Rp.le l d p.2 h, RpK.le l ds r q⟩
end
theorem Rp.mono {H H' : Hp} {d : PyData} {v : V} (h : Rp H d v) (s : Same H H') : Rp H' d v := Rp.le (Le.of s) d v h
theorem RpL.mono {H H' : Hp} {d : List PyData} {v : List V} (h : RpL H d v) (s : Same H H') : RpL H' d v := RpL.le (Le.of s) d v h
theorem RpK.mono {H H' : Hp} {d : List (PyData × PyData)} {v : List (Key × V)} (h : RpK H d v) (s : Same H H') : RpK H' d v := RpK.le (Le.of s) d v h

/-! data without lists and dicts -/
mutual
def imm : PyData → Bool
  | .none | .bool _ | .int _ | .str _ => true
  | .list _ => false
  | .tuple ds => immL ds
  | .dict _ => false
def immL : List PyData → Bool
  | [] => true
  | d :: ds => imm d && immL ds
end
mutual
theorem Rp.kt {H H' : Hp} (l : KT H H') : ∀ (d : PyData) (v : V), imm d = true → Rp H d v → Rp H' d v
  | .none, _, _, h => h
  | .bool _, _, _, h => h
  | .int _, _, _, h => h
  | .str _, _, _, h => h
  | .list ds, _, i, _ => by simp [imm] at i
  | .tuple ds, _, i, ⟨a, xs, e, r, q⟩ => ⟨a, xs, e, l a xs r, RpL.kt l ds xs (by simpa [imm] using i) q⟩
  | .dict kvs, _, i, _ => by simp [imm] at i
theorem RpL.kt {H H' : Hp} (l : KT H H') : ∀ (ds : List PyData) (vs : List V), immL ds = true → RpL H ds vs → RpL H' ds vs
  | [], _, _, h => h
  | d :: ds, _, i, ⟨v, r, e, h, q⟩ => by
    simp only [immL, Bool.and_eq_true] at i
    exact ⟨v, r, e, Rp.kt l d v i.1 h, RpL.kt l ds r i.2 q⟩
end

theorem RpL.length {H : Hp} : ∀ {ds : List PyData} {vs : List V}, RpL H ds vs → vs.length = ds.length
  | [], _, h => by rw [show _ = [] from h]; rfl
  | d :: ds, _, ⟨v, r, e, h, q⟩ => by subst e; simp [RpL.length q]
theorem RpL.nil {H : Hp} : RpL H [] [] := rfl
theorem RpL.cons {H : Hp} {d : PyData} {ds : List PyData} {v : V} {vs : List V} (h : Rp H d v) (t : RpL H ds vs) : RpL H (d :: ds) (v :: vs) := ⟨v, vs, rfl, h, t⟩
theorem RpL.get {H : Hp} : ∀ {ds : List PyData} {vs : List V} {i : Nat} {d : PyData}, RpL H ds vs → ds[i]? = some d → ∃ v, vs[i]? = some v ∧ Rp H d v
  | [], _, _, _, _, e => by simp at e
  | d :: ds, _, 0, _, ⟨v, r, ev, h, q⟩, e => by subst ev; simp at e; subst e; exact ⟨v, rfl, h⟩
  | d :: ds, _, i + 1, _, ⟨v, r, ev, h, q⟩, e => by
    subst ev
    obtain ⟨w, h1, h2⟩ := RpL.get (i := i) q (by simpa using e)
    exact ⟨w, by simpa using h1, h2⟩
theorem RpL.get' {H : Hp} {ds : List PyData} {vs : List V} {i : Nat} {v : V} (h : RpL H ds vs) (e : vs[i]? = some v) : ∃ d, ds[i]? = some d ∧ Rp H d v := by
  have hl := h.length
  have hi : i < vs.length := (List.getElem?_eq_some_iff.mp e).1
  obtain ⟨w, h1, h2⟩ := h.get (i := i) (d := ds[i]'(by omega)) (by simp)
  rw [e] at h1; cases h1
  exact ⟨_, by simp, h2⟩
theorem RpL.snoc {H : Hp} : ∀ {ds : List PyData} {vs : List V} {d : PyData} {v : V}, RpL H ds vs → Rp H d v → RpL H (ds ++ [d]) (vs ++ [v])
  | [], _, d, v, h, q => by rw [show _ = [] from h]; exact ⟨v, [], rfl, q, rfl⟩
  | d :: ds, _, _, _, ⟨v, r, e, h, q⟩, t => by subst e; exact ⟨v, r ++ [_], rfl, h, RpL.snoc q t⟩
theorem RpL.append {H : Hp} : ∀ {ds es : List PyData} {vs ws : List V}, RpL H ds vs → RpL H es ws → RpL H (ds ++ es) (vs ++ ws)
  | [], _, _, _, h, q => by rw [show _ = [] from h]; exact q
  | d :: ds, _, _, _, ⟨v, r, e, h, q⟩, t => by subst e; exact ⟨v, r ++ _, rfl, h, RpL.append q t⟩
theorem RpL.ints {H : Hp} : ∀ (ns : List Int), RpL H (ns.map PyData.int) (ns.map V.int)
  | [] => rfl
  | n :: ns => ⟨.int n, _, rfl, rfl, RpL.ints ns⟩
theorem RpL.strs {H : Hp} : ∀ (ns : List Str), RpL H (ns.map PyData.str) (ns.map V.str)
  | [] => rfl
  | n :: ns => ⟨.str n, _, rfl, rfl, RpL.strs ns⟩
theorem RpL.ints_inv {H : Hp} : ∀ {ns : List Int} {vs : List V}, RpL H (ns.map PyData.int) vs → vs = ns.map V.int
  | [], _, h => h
  | n :: ns, _, ⟨v, r, e, h, q⟩ => by subst e; rw [show v = V.int n from h, RpL.ints_inv q]; rfl
theorem RpL.strs_inv {H : Hp} : ∀ {ns : List Str} {vs : List V}, RpL H (ns.map PyData.str) vs → vs = ns.map V.str
  | [], _, h => h
  | n :: ns, _, ⟨v, r, e, h, q⟩ => by subst e; rw [show v = V.str n from h, RpL.strs_inv q]; rfl
theorem RpL.bools_inv {H : Hp} : ∀ {ns : List Bool} {vs : List V}, RpL H (ns.map PyData.bool) vs → vs = ns.map V.bl
  | [], _, h => h
  | n :: ns, _, ⟨v, r, e, h, q⟩ => by subst e; rw [show v = V.bl n from h, RpL.bools_inv q]; rfl

/-! ### dicts with whole numbers as keys -/
abbrev IM := List (Int × PyData)
def dI (m : IM) : PyData := .dict (m.map fun p => (.int p.1, p.2))
def look (m : IM) (k : Int) : Option PyData := (m.find? fun p => decide (p.1 = k)).map (·.2)
def putI (m : IM) (k : Int) (d : PyData) : IM := if (m.any fun p => decide (p.1 = k)) then m.map (fun p => if p.1 = k then (p.1, d) else p) else m ++ [(k, d)]
/-- the pairs of a dict at values -/
def RpI (H : Hp) (m : IM) (xs : List (Key × V)) : Prop := RpK H (m.map fun p => (.int p.1, p.2)) xs
theorem keyD_int {k : Key} {i : Int} (h : PyData.int i = keyD k) : k = .inl i := by
  cases k with
  | inl j => simp [keyD] at h; rw [h]
  | inr s => simp [keyD] at h
theorem RpI.nil {H : Hp} : RpI H [] [] := rfl
theorem RpI.inv {H : Hp} {k : Int} {d : PyData} {m : IM} {xs : List (Key × V)} (h : RpI H ((k, d) :: m) xs) : ∃ v r, xs = (.inl k, v) :: r ∧ Rp H d v ∧ RpI H m r := by
  obtain ⟨⟨k', v⟩, r, e, ek, h1, h2⟩ := h
  have := keyD_int ek
  subst this
  exact ⟨v, r, e, h1, h2⟩
theorem RpI.cons {H : Hp} {k : Int} {d : PyData} {m : IM} {v : V} {r : List (Key × V)} (h : Rp H d v) (t : RpI H m r) : RpI H ((k, d) :: m) ((.inl k, v) :: r) := ⟨(.inl k, v), r, rfl, rfl, h, t⟩
theorem RpI.length {H : Hp} : ∀ {m : IM} {xs : List (Key × V)}, RpI H m xs → xs.length = m.length
  | [], _, h => by rw [show _ = [] from h]; rfl
  | (k, d) :: m, _, h => by obtain ⟨v, r, rfl, _, q⟩ := h.inv; simp [RpI.length q]
theorem RpI.look {H : Hp} : ∀ {m : IM} {xs : List (Key × V)} (k : Int), RpI H m xs → (∃ d v, look m k = some d ∧ valV xs (.inl k) = some v ∧ Rp H d v) ∨ (look m k = none ∧ valV xs (.inl k) = none)
  | [], _, k, h => by rw [show _ = [] from h]; exact .inr ⟨rfl, rfl⟩
  | (j, d) :: m, _, k, h => by
    obtain ⟨v, r, rfl, h1, q⟩ := h.inv
    by_cases e : j = k
    · subst e
      exact .inl ⟨d, v, by simp [Fx.look], by simp [valV], h1⟩
    · have e' : ¬ (Sum.inl j : Key) = Sum.inl k := fun z => e (Sum.inl.inj z)
      rcases RpI.look k q with ⟨d', v', a, b, c⟩ | ⟨a, b⟩
      · exact .inl ⟨d', v', by simpa [Fx.look, e] using a, by simpa [valV, e'] using b, c⟩
      · exact .inr ⟨by simpa [Fx.look, e] using a, by simpa [valV, e'] using b⟩
theorem RpI.any {H : Hp} : ∀ {m : IM} {xs : List (Key × V)} (k : Int), RpI H m xs → (xs.any fun p => decide (p.1 = Sum.inl k)) = m.any fun p => decide (p.1 = k)
  | [], _, k, h => by rw [show _ = [] from h]; rfl
  | (j, d) :: m, _, k, h => by
    obtain ⟨v, r, rfl, h1, q⟩ := h.inv
    simp only [List.any_cons, RpI.any k q]
    by_cases e : j = k
    · subst e; simp
    · simp [e]
theorem RpI.map {H : Hp} {k : Int} {d : PyData} {v : V} (hv : Rp H d v) : ∀ {m : IM} {xs : List (Key × V)}, RpI H m xs →
    RpI H (m.map fun p => if p.1 = k then (p.1, d) else p) (xs.map fun p => if p.1 = Sum.inl k then (p.1, v) else p)
  | [], _, h => by rw [show _ = [] from h]; exact .nil
  | (j, e) :: m, _, h => by
    obtain ⟨w, r, rfl, h1, q⟩ := h.inv
    by_cases z : j = k
    · subst z
      simp only [List.map_cons, if_true]
      exact .cons hv (RpI.map hv q)
    · have z' : ¬ (Sum.inl j : Key) = Sum.inl k := fun y => z (Sum.inl.inj y)
      simp only [List.map_cons, if_neg z, if_neg z']
      exact .cons h1 (RpI.map hv q)
theorem RpI.snoc {H : Hp} {k : Int} {d : PyData} {v : V} (hv : Rp H d v) : ∀ {m : IM} {xs : List (Key × V)}, RpI H m xs → RpI H (m ++ [(k, d)]) (xs ++ [(Sum.inl k, v)])
  | [], _, h => by rw [show _ = [] from h]; exact .cons hv .nil
  | (j, e) :: m, _, h => by
    obtain ⟨w, r, rfl, h1, q⟩ := h.inv
    exact .cons h1 (RpI.snoc hv q)
theorem RpI.put {H : Hp} {k : Int} {d : PyData} {v : V} {m : IM} {xs : List (Key × V)} (h : RpI H m xs) (hv : Rp H d v) : RpI H (putI m k d) (putK xs (Sum.inl k) v) := by
  unfold putI putK
  rw [RpI.any k h]
  split
  · exact RpI.map hv h
  · exact RpI.snoc hv h
theorem RpI.mono {H H' : Hp} {m : IM} {xs : List (Key × V)} (h : RpI H m xs) (s : Same H H') : RpI H' m xs := RpK.mono h s
theorem RpI.kt {H H' : Hp} (l : KT H H') : ∀ {m : IM} {xs : List (Key × V)}, (m.all fun p => imm p.2) = true → RpI H m xs → RpI H' m xs
  | [], _, _, h => h
  | (j, e) :: m, _, i, h => by
    obtain ⟨w, r, rfl, h1, q⟩ := h.inv
    simp only [List.all_cons, Bool.and_eq_true] at i
    exact .cons (Rp.kt l e w i.1 h1) (RpI.kt l i.2 q)
end Fx
/-! FxB: what evaluates to which data. -/
namespace Fx
open PySem L2

/-! ### equality of data -/
mutual
theorem Rp.dp {K : PySem.W.Frag} {H : Hp} : ∀ (d : PyData) (v : V), d.canLay0 = true → Rp H d v → Dp K H v d
  | .none, _, _, h => by rw [show _ = V.non from h]; exact .non
  | .bool b, _, _, h => by rw [show _ = V.bl b from h]; exact .bl b
  | .int i, _, _, h => by rw [show _ = V.int i from h]; exact .int i
  | .str s, _, _, h => by rw [show _ = V.str s from h]; exact .str s
  | .list ds, _, c, ⟨a, xs, e, r, q⟩ => by subst e; exact .lst (.of r) (RpL.dp ds xs (by simpa [PyData.canLay0] using c) q)
  | .tuple ds, _, c, ⟨a, xs, e, r, q⟩ => by subst e; exact .tup (.of r) (RpL.dp ds xs (by simpa [PyData.canLay0] using c) q)
  | .dict _, _, c, _ => by simp [PyData.canLay0] at c
theorem RpL.dp {K : PySem.W.Frag} {H : Hp} : ∀ (ds : List PyData) (vs : List V), PyData.canLayAll0 ds = true → RpL H ds vs → DpAll K H vs ds
  | [], _, _, h => by rw [show _ = [] from h]; exact .nil
  | d :: ds, _, c, ⟨v, r, e, h, q⟩ => by
    subst e
    simp only [PyData.canLayAll0, Bool.and_eq_true] at c
    exact .cons (Rp.dp d v c.1 h) (RpL.dp ds r c.2 q)
end
/-- data that may be compared -/
def okD (d : PyData) : Bool := d.canLay0 && decide (d.depth ≤ 190)
theorem okD_lay {d : PyData} (h : okD d = true) : d.canLay0 = true := (Bool.and_eq_true_iff.mp h).1
theorem okD_dep {d : PyData} (h : okD d = true) : d.depth ≤ 190 := of_decide_eq_true (Bool.and_eq_true_iff.mp h).2
def rEqP : R2 := fun x y H Q => ∃ d e, Rp H d x ∧ Rp H e y ∧ okD d = true ∧ okD e = true ∧ Q (.bl (PyData.eqv d e)) H
def rNeP : R2 := fun x y H Q => ∃ d e, Rp H d x ∧ Rp H e y ∧ okD d = true ∧ okD e = true ∧ Q (.bl (!PyData.eqv d e)) H
section
variable {X : Cx}
theorem op_eqP (hu : X.A.units + 199 < cLine) : OpR X (compareOp .Eq) rEqP := by
  intro pins s σ H x y v u Q I rx ry h
  obtain ⟨d, e, hd, he, sd, se, q⟩ := h
  obtain ⟨as, r1⟩ := Dp.reads I d x v (Rp.dp d x (okD_lay sd) hd) rx
  obtain ⟨bs, r2⟩ := Dp.reads I e y u (Rp.dp e y (okD_lay se) he) ry
  refine SeqAt.compareEq_reads r1 r2 (okD_lay sd) (okD_lay se) ?_ ⟨.bl _, H, I, rfl, q⟩
  have := okD_dep sd
  have := Nat.min_le_left d.depth e.depth
  omega
theorem op_neP (hu : X.A.units + 199 < cLine) : OpR X (compareOp .NotEq) rNeP := by
  intro pins s σ H x y v u Q I rx ry h
  obtain ⟨d, e, hd, he, sd, se, q⟩ := h
  obtain ⟨as, r1⟩ := Dp.reads I d x v (Rp.dp d x (okD_lay sd) hd) rx
  obtain ⟨bs, r2⟩ := Dp.reads I e y u (Rp.dp e y (okD_lay se) he) ry
  refine SeqAt.compareNe_reads r1 r2 (okD_lay sd) (okD_lay se) ?_ ⟨.bl _, H, I, rfl, q⟩
  have := okD_dep sd
  have := Nat.min_le_left d.depth e.depth
  omega
theorem un65 {A : Around} {k : Nat} (hr : Room k A) : A.units + 65 < cLine := by have := hr.un; omega
theorem un_of {A : Around} {k : Nat} (hr : Room k A) : A.units + 199 < cLine := by have := hr.un; omega
end

/-! ### what evaluates to what -/
def EvD (te : TE) (σ : L2.St) (H : Hp) (d : PyData) : Prop := ∀ H1, Same H H1 → ∀ Q : VK, (∀ v H2, Same H1 H2 → Rp H2 d v → Q v H2) → te σ H1 Q
def EvB (tt : TT) (σ : L2.St) (H : Hp) (b : Bool) : Prop := ∀ H1, Same H H1 → ∀ Q : Bool → Hp → Prop, (∀ H2, Same H1 H2 → Q b H2) → tt σ H1 Q
def EvA (ta : TA) (σ : L2.St) (H : Hp) (ds : List PyData) : Prop := ∀ H1, Same H H1 → ∀ Q : List V → Hp → Prop, (∀ vs H2, Same H1 H2 → RpL H2 ds vs → Q vs H2) → ta σ H1 Q
/-- operations on values, calls of built-ins -/
def OpD (r : R2) (d e f : PyData) : Prop := ∀ H x y, Rp H d x → Rp H e y → ∀ Q : VK, (∀ v H2, Same H H2 → Rp H2 f v → Q v H2) → r x y H Q
def CallD (r : List V → Hp → VK → Prop) (ds : List PyData) (d : PyData) : Prop := ∀ H xs, RpL H ds xs → ∀ Q : VK, (∀ v H2, Same H H2 → Rp H2 d v → Q v H2) → r xs H Q
/-- a def's promise, of data -/
def SpD (sp : Sp) (ds : List PyData) (d : PyData) : Prop := ∀ H xs, RpL H ds xs → ∀ (Q : VK) (E : XK), (∀ v H2, Same H H2 → Rp H2 d v → Q v H2) → sp xs H Q E
/-- the promise of a def that only reckons: R tells which data it hands back -/
def spP (R : List PyData → PyData → Prop) : Sp := fun vs H Q _ => ∃ ds d, RpL H ds vs ∧ R ds d ∧ ∀ v H', Same H H' → Rp H' d v → Q v H'
theorem spP.d {R : List PyData → PyData → Prop} {ds : List PyData} {d : PyData} (h : R ds d) : SpD (spP R) ds d := fun H xs hx Q E q => ⟨ds, d, hx, h, q⟩
theorem spP.len {R : List PyData → PyData → Prop} {n : Nat} (h : ∀ ds d, R ds d → ds.length = n) : ∀ vs H Q E, spP R vs H Q E → vs.length = n := fun vs H Q E ⟨ds, d, hR, hr, _⟩ => by rw [hR.length, h ds d hr]

section
variable {K : PySem.W.Frag} {σ : L2.St} {H H' : Hp} {ta tb te tx td ty : TE} {t u : TT} {d e f : PyData} {ds es : List PyData} {a b : Bool} {v : V} {r : R2}
theorem EvD.mono (h : EvD te σ H d) (s : Same H H') : EvD te σ H' d := fun H1 e Q q => h H1 (s.trans e) Q q
theorem EvB.mono (h : EvB t σ H b) (s : Same H H') : EvB t σ H' b := fun H1 e Q q => h H1 (s.trans e) Q q
theorem EvA.mono {ta : TA} (h : EvA ta σ H ds) (s : Same H H') : EvA ta σ H' ds := fun H1 e Q q => h H1 (s.trans e) Q q
theorem EvD.to {d' : PyData} (h : EvD te σ H d) (e : d = d') : EvD te σ H d' := e ▸ h
theorem EvB.to {b' : Bool} (h : EvB t σ H b) (e : b = b') : EvB t σ H b' := e ▸ h
theorem ev_var {i : Nat} (h : σ[i]? = some (some v)) (r : Rp H d v) : EvD (tVar i) σ H d := fun H1 s Q q => ⟨v, h, q v H1 (Same.refl _) (r.mono s)⟩
theorem ev_int {i : Int} : EvD (tC (.int i)) σ H (.int i) := fun H1 s Q q => q _ H1 (Same.refl _) rfl
theorem ev_str {x : Str} : EvD (tC (.str x)) σ H (.str x) := fun H1 s Q q => q _ H1 (Same.refl _) rfl
theorem ev_bl {b : Bool} : EvD (tC (.bl b)) σ H (.bool b) := fun H1 s Q q => q _ H1 (Same.refl _) rfl
theorem ev_non : EvD (tC .non) σ H .none := fun H1 s Q q => q _ H1 (Same.refl _) rfl
theorem ea_nil : EvA tNil σ H [] := fun H1 s Q q => q _ H1 (Same.refl _) rfl
theorem ea_cons {t : TA} (h : EvD te σ H d) (ht : EvA t σ H ds) : EvA (tCons te t) σ H (d :: ds) := fun H1 s Q q =>
  h H1 s _ fun v H2 s2 r => ht H2 (s.trans s2) _ fun vs H3 s3 rs => q _ H3 (s2.trans s3) (.cons (r.mono s3) rs)
theorem le1000 {n : Nat} (h : n ≤ 1000) : n ≤ sizeLine := Nat.le_trans h (by decide)
theorem ev_tup {t : TA} (h : EvA t σ H ds) (hl : ds.length ≤ 1000 := by simp) : EvD (tTup t) σ H (.tuple ds) := fun H1 s Q q =>
  h H1 s _ fun vs H2 s2 rs => ⟨by rw [rs.length]; exact le1000 hl, fun p hp => q _ _ (s2.trans (Same.new hp)) ⟨p, vs, rfl, upd_same, rs.mono (Same.new hp)⟩⟩
theorem ev_lst {t : TA} (h : EvA t σ H ds) (hl : ds.length ≤ 1000 := by simp) : EvD (tLst t) σ H (.list ds) := fun H1 s Q q =>
  h H1 s _ fun vs H2 s2 rs => ⟨by rw [rs.length]; exact le1000 hl, fun p hp => q _ _ (s2.trans (Same.new hp)) ⟨p, vs, rfl, upd_same, rs.mono (Same.new hp)⟩⟩
theorem ev_op (ha : EvD ta σ H d) (hb : EvD tb σ H e) (hr : OpD r d e f) : EvD (tOp r ta tb) σ H f := fun H1 s Q q =>
  ha H1 s _ fun x H2 s2 r2 => hb H2 (s.trans s2) _ fun y H3 s3 r3 => hr H3 x y (r2.mono s3) r3 Q fun v H4 s4 r4 => q v H4 ((s2.trans s3).trans s4) r4
theorem ev_cb {r : List V → Hp → VK → Prop} {t : TA} (h : EvA t σ H ds) (hr : CallD r ds d) : EvD (tCB r t) σ H d := fun H1 s Q q =>
  h H1 s _ fun vs H2 s2 rs => hr H2 vs rs Q fun v H3 s3 r3 => q v H3 (s2.trans s3) r3
theorem ev_call {sp : Sp} {E : XK} {t : TA} (h : EvA t σ H ds) (hc : SpD sp ds d) : EvD (tCall sp [] E t) σ H d := fun H1 s Q q =>
  h H1 s _ fun vs H2 s2 rs => by
    rw [List.append_nil]
    exact hc H2 vs rs Q E fun v H3 s3 r3 => q v H3 (s2.trans s3) r3

/-! ### tests -/
theorem et_test (h : EvD te σ H (.bool b)) : EvB (tTest te) σ H b := fun H1 s Q q => h H1 s _ fun v H2 s2 r => ⟨b, r, q H2 s2⟩
theorem et_B (h : EvD te σ H (.bool b)) : EvB (tB te) σ H b := fun H1 s Q q => h H1 s _ fun v H2 s2 r => ⟨b, r, q H2 s2⟩
theorem et_not (h : EvB t σ H b) : EvB (tNot t) σ H (!b) := fun H1 s Q q => h H1 s _ fun H2 s2 => q H2 s2
theorem et_and (h1 : EvB t σ H a) (h2 : a = true → EvB u σ H b) : EvB (tAnd t u) σ H (a && b) := fun H1 s Q q => h1 H1 s _ fun H2 s2 => by
  cases a with
  | true => exact iteT (h2 rfl H2 (s.trans s2) Q fun H3 s3 => q H3 (s2.trans s3))
  | false => exact iteF (q H2 s2)
theorem et_or (h1 : EvB t σ H a) (h2 : a = false → EvB u σ H b) : EvB (tOr t u) σ H (a || b) := fun H1 s Q q => h1 H1 s _ fun H2 s2 => by
  cases a with
  | true => exact iteT (q H2 s2)
  | false => exact iteF (h2 rfl H2 (s.trans s2) Q fun H3 s3 => q H3 (s2.trans s3))
/-! .. as values -/
theorem ev_and (h1 : EvD ta σ H (.bool a)) (h2 : a = true → EvD tb σ H (.bool b)) : EvD (tAndV ta tb) σ H (.bool (a && b)) := fun H1 s Q q => h1 H1 s _ fun v H2 s2 r => by
  refine ⟨a, r, ?_⟩
  cases a with
  | true => exact iteT (h2 rfl H2 (s.trans s2) Q fun v H3 s3 r3 => q v H3 (s2.trans s3) r3)
  | false => exact iteF (q _ H2 s2 rfl)
theorem ev_or (h1 : EvD ta σ H (.bool a)) (h2 : a = false → EvD tb σ H (.bool b)) : EvD (tOrV ta tb) σ H (.bool (a || b)) := fun H1 s Q q => h1 H1 s _ fun v H2 s2 r => by
  refine ⟨a, r, ?_⟩
  cases a with
  | true => exact iteT (q _ H2 s2 rfl)
  | false => exact iteF (h2 rfl H2 (s.trans s2) Q fun v H3 s3 r3 => q v H3 (s2.trans s3) r3)
theorem ev_not (h : EvD ta σ H (.bool b)) : EvD (tNotV ta) σ H (.bool (!b)) := fun H1 s Q q => h H1 s _ fun v H2 s2 r => ⟨b, r, q _ H2 s2 rfl⟩
theorem ev_ifT (hc : EvB t σ H true) (h : EvD ta σ H d) : EvD (tIf t ta tb) σ H d := fun H1 s Q q => hc H1 s _ fun H2 s2 => iteT (h H2 (s.trans s2) Q fun v H3 s3 r3 => q v H3 (s2.trans s3) r3)
theorem ev_ifF (hc : EvB t σ H false) (h : EvD tb σ H d) : EvD (tIf t ta tb) σ H d := fun H1 s Q q => hc H1 s _ fun H2 s2 => iteF (h H2 (s.trans s2) Q fun v H3 s3 r3 => q v H3 (s2.trans s3) r3)
theorem ev_isN (h : EvD ta σ H d) : EvD (tIsN ta) σ H (.bool (match d with | .none => true | _ => false)) := fun H1 s Q q => h H1 s _ fun v H2 s2 r => by
  refine q _ H2 s2 ?_
  cases d with
  | none => rw [show v = V.non from r]; rfl
  | bool _ => rw [show v = V.bl _ from r]; rfl
  | int _ => rw [show v = V.int _ from r]; rfl
  | str _ => rw [show v = V.str _ from r]; rfl
  | list _ => obtain ⟨a, xs, rfl, _⟩ := r; rfl
  | tuple _ => obtain ⟨a, xs, rfl, _⟩ := r; rfl
  | dict _ => obtain ⟨a, xs, rfl, _⟩ := r; rfl
theorem ev_notN (h : EvD ta σ H d) : EvD (tNotN ta) σ H (.bool (match d with | .none => false | _ => true)) := fun H1 s Q q => h H1 s _ fun v H2 s2 r => by
  refine q _ H2 s2 ?_
  cases d with
  | none => rw [show v = V.non from r]; rfl
  | bool _ => rw [show v = V.bl _ from r]; rfl
  | int _ => rw [show v = V.int _ from r]; rfl
  | str _ => rw [show v = V.str _ from r]; rfl
  | list _ => obtain ⟨a, xs, rfl, _⟩ := r; rfl
  | tuple _ => obtain ⟨a, xs, rfl, _⟩ := r; rfl
  | dict _ => obtain ⟨a, xs, rfl, _⟩ := r; rfl

/-! ### operations -/
theorem at_get {xs : List V} {ds : List PyData} {i : Int} (h : RpL H ds xs) (e : atI ds i = some d) : ∃ v, atI xs i = some v ∧ Rp H d v := by
  unfold atI at e ⊢
  rw [h.length]
  cases q : ixN ds.length i with
  | none => rw [q] at e; cases e
  | some j =>
    rw [q] at e
    exact h.get e
theorem od_ixT {i : Int} (e : atI ds i = some d) : OpD (rIxT K) (.tuple ds) (.int i) d := fun H x y hx hy Q q => by
  obtain ⟨a, xs, rfl, ha, hr⟩ := hx
  cases (show y = V.int i from hy)
  obtain ⟨v, e1, e2⟩ := at_get hr e
  exact ⟨a, xs, i, v, rfl, rfl, .of ha, e1, q v H (Same.refl _) e2⟩
theorem od_ixL {i : Int} (e : atI ds i = some d) : OpD (rIxL K) (.list ds) (.int i) d := fun H x y hx hy Q q => by
  obtain ⟨a, xs, rfl, ha, hr⟩ := hx
  cases (show y = V.int i from hy)
  obtain ⟨v, e1, e2⟩ := at_get hr e
  exact ⟨a, xs, i, v, rfl, rfl, .of ha, e1, q v H (Same.refl _) e2⟩
theorem od_ixS {z : Str} {i : Int} {c : Nat} (hz : z.length ≤ sizeLine) (e : atI z.cps.toList i = some c) : OpD rIxS (.str z) (.int i) (.str ⟨#[c]⟩) := fun H x y hx hy Q q => by
  cases (show x = V.str z from hx)
  cases (show y = V.int i from hy)
  exact ⟨z, i, c, rfl, rfl, hz, e, q _ H (Same.refl _) rfl⟩
theorem od_I0 {g : Int → Int → V} {i j : Int} (e : ∀ H, Rp H f (g i j)) : OpD (rI0 g) (.int i) (.int j) f := fun H x y hx hy Q q => by
  cases (show x = V.int i from hx)
  cases (show y = V.int j from hy)
  exact ⟨i, j, rfl, rfl, q _ H (Same.refl _) (e H)⟩
theorem od_I {C : Int → Int → Prop} {g : Int → Int → V} {i j : Int} (c : C i j) (e : ∀ H, Rp H f (g i j)) : OpD (rI C g) (.int i) (.int j) f := fun H x y hx hy Q q => by
  cases (show x = V.int i from hx)
  cases (show y = V.int j from hy)
  exact ⟨i, j, rfl, rfl, c, q _ H (Same.refl _) (e H)⟩
theorem od_eqP (h1 : okD d = true) (h2 : okD e = true) : OpD rEqP d e (.bool (PyData.eqv d e)) := fun H x y hx hy Q q => ⟨d, e, hx, hy, h1, h2, q _ H (Same.refl _) rfl⟩
theorem od_neP (h1 : okD d = true) (h2 : okD e = true) : OpD rNeP d e (.bool (!PyData.eqv d e)) := fun H x y hx hy Q q => ⟨d, e, hx, hy, h1, h2, q _ H (Same.refl _) rfl⟩

/-! ### dicts -/
theorem ev_din {m : IM} {k : Int} (hy : EvD ty σ H (.int k)) (hd : EvD td σ H (dI m)) : EvD (tDIn ty td) σ H (.bool (look m k).isSome) := fun H1 s Q q =>
  hy H1 s _ fun y H2 s2 r2 => hd H2 (s.trans s2) _ fun x H3 s3 r3 => by
    obtain ⟨a, xs, rfl, ha, hr⟩ := r3
    cases (show y = V.int k from r2)
    refine ⟨a, valV xs (.inl k), rfl, .inl ⟨xs, .inl k, ha, rfl, rfl⟩, q _ H3 (s2.trans s3) ?_⟩
    rcases RpI.look k hr with ⟨d, v, e1, e2, _⟩ | ⟨e1, e2⟩ <;> rw [e1, e2] <;> rfl
theorem ev_dnotin {m : IM} {k : Int} (hy : EvD ty σ H (.int k)) (hd : EvD td σ H (dI m)) : EvD (tDNotIn ty td) σ H (.bool (!(look m k).isSome)) := fun H1 s Q q =>
  hy H1 s _ fun y H2 s2 r2 => hd H2 (s.trans s2) _ fun x H3 s3 r3 => by
    obtain ⟨a, xs, rfl, ha, hr⟩ := r3
    cases (show y = V.int k from r2)
    refine ⟨a, valV xs (.inl k), rfl, .inl ⟨xs, .inl k, ha, rfl, rfl⟩, q _ H3 (s2.trans s3) ?_⟩
    rcases RpI.look k hr with ⟨d, v, e1, e2, _⟩ | ⟨e1, e2⟩ <;> rw [e1, e2] <;> rfl
theorem ev_dget {m : IM} {k : Int} (hd : EvD td σ H (dI m)) (hy : EvD ty σ H (.int k)) (e : look m k = some d) : EvD (tDGet td ty) σ H d := fun H1 s Q q =>
  hd H1 s _ fun x H2 s2 r2 => hy H2 (s.trans s2) _ fun y H3 s3 r3 => by
    obtain ⟨a, xs, rfl, ha, hr⟩ := r2.mono s3
    cases (show y = V.int k from r3)
    rcases RpI.look k hr with ⟨d', v, e1, e2, e3⟩ | ⟨e1, e2⟩
    · rw [e] at e1; cases e1
      exact ⟨a, v, rfl, .inl ⟨xs, .inl k, ha, rfl, e2.symm⟩, q v H3 (s2.trans s3) e3⟩
    · rw [e] at e1; cases e1
theorem ev_dget2 {m : IM} {k : Int} (hd : EvD td σ H (dI m)) (hy : EvD ty σ H (.int k)) (hx : EvD tx σ H e) : EvD (tDGet2 td ty tx) σ H ((look m k).getD e) := fun H1 s Q q =>
  hd H1 s _ fun x H2 s2 r2 => by
    obtain ⟨a, xs, rfl, ha, hr⟩ := r2
    refine ⟨a, rfl, .inl ⟨xs, ha⟩, hy H2 (s.trans s2) _ fun y H3 s3 r3 => hx H3 ((s.trans s2).trans s3) _ fun z H4 s4 r4 => ?_⟩
    cases (show y = V.int k from r3)
    have s24 := s3.trans s4
    rcases RpI.look k (RpI.mono hr s24) with ⟨d', v, e1, e2, e3⟩ | ⟨e1, e2⟩
    · exact ⟨_, .inl ⟨xs, .inl k, rd_same s24 ha, rfl, rfl⟩, by rw [e2]; exact q v H4 (s2.trans s24) (by rw [e1]; exact e3)⟩
    · exact ⟨_, .inl ⟨xs, .inl k, rd_same s24 ha, rfl, rfl⟩, by rw [e2]; exact q z H4 (s2.trans s24) (by rw [e1]; exact r4)⟩
end

/-! ### calls of built-ins -/
def rTupleOf (K : PySem.W.Frag) : List V → Hp → VK → Prop := fun xs H Q => ∃ p ys, xs = [.ref p] ∧ ((SqL K H p ys ∧ ∀ l, H l = none → Q (.ref l) (upd H l (.tup ys))) ∨ (SqT K H p ys ∧ Q (.ref p) H))
def rListOf (K : PySem.W.Frag) : List V → Hp → VK → Prop := fun xs H Q => ∃ p ys, xs = [.ref p] ∧ (SqL K H p ys ∨ SqT K H p ys) ∧ ∀ l, H l = none → Q (.ref l) (upd H l (.lst ys))
def rLen (K : PySem.W.Frag) : List V → Hp → VK → Prop := fun xs H Q => ∃ x n, xs = [x] ∧ LenV K x H n ∧ Q (.int n) H
def rStrI : List V → Hp → VK → Prop := fun xs H Q => ∃ i : Int, xs = [.int i] ∧ i.natAbs.log2 < 1920 ∧ Q (.str (toString i)) H
def rIntS : List V → Hp → VK → Prop := fun xs H Q => ∃ a n, xs = [.str a] ∧ PySem.intText? a = some n ∧ a.length ≤ 640 ∧ Q (.int n) H
def rDictD : List V → Hp → VK → Prop := fun xs H Q => ∃ (a : Addr) (kvs : List (Key × V)), xs = [.ref a] ∧ Rd H a (.dK kvs) ∧ ∀ p, H p = none → Q (.ref p) (upd H p (.dK kvs))
def rListD : List V → Hp → VK → Prop := fun xs H Q => ∃ (a : Addr) (kvs : List (Key × V)), xs = [.ref a] ∧ Rd H a (.dK kvs) ∧ ∀ p, H p = none → Q (.ref p) (upd H p (.lst (kvs.map fun kv => kV kv.1)))
section
variable {X : Cx}
theorem cr_tuple : CallR X (.type "tuple") (rTupleOf X.K) := call_tuple_of
theorem cr_list : CallR X (.type "list") (rListOf X.K) := call_list_of
theorem cr_len : CallR X (.builtin "len") (rLen X.K) := call_len
theorem cr_strI : CallR X (.type "str") rStrI := call_str_int
theorem cr_intS : CallR X (.type "int") rIntS := call_int_str
theorem cr_dictD : CallR X (.type "dict") rDictD := call_dictD
theorem cr_listD (hc : X.calm = true) : CallR X (.type "list") rListD := call_listD hc
end
section
variable {K : PySem.W.Frag} {ds : List PyData}
theorem cd_tupleL : CallD (rTupleOf K) [.list ds] (.tuple ds) := fun H xs hx Q q => by
  obtain ⟨v, r, rfl, ⟨a, ys, rfl, ha, hr⟩, hn⟩ := hx
  cases (show r = [] from hn)
  exact ⟨a, ys, rfl, .inl ⟨.of ha, fun l hl => q _ _ (Same.new hl) ⟨l, ys, rfl, upd_same, hr.mono (Same.new hl)⟩⟩⟩
theorem cd_listL : CallD (rListOf K) [.list ds] (.list ds) := fun H xs hx Q q => by
  obtain ⟨v, r, rfl, ⟨a, ys, rfl, ha, hr⟩, hn⟩ := hx
  cases (show r = [] from hn)
  exact ⟨a, ys, rfl, .inl (.of ha), fun l hl => q _ _ (Same.new hl) ⟨l, ys, rfl, upd_same, hr.mono (Same.new hl)⟩⟩
theorem cd_listT : CallD (rListOf K) [.tuple ds] (.list ds) := fun H xs hx Q q => by
  obtain ⟨v, r, rfl, ⟨a, ys, rfl, ha, hr⟩, hn⟩ := hx
  cases (show r = [] from hn)
  exact ⟨a, ys, rfl, .inr (.of ha), fun l hl => q _ _ (Same.new hl) ⟨l, ys, rfl, upd_same, hr.mono (Same.new hl)⟩⟩
theorem cd_lenL : CallD (rLen K) [.list ds] (.int ds.length) := fun H xs hx Q q => by
  obtain ⟨v, r, rfl, ⟨a, ys, rfl, ha, hr⟩, hn⟩ := hx
  cases (show r = [] from hn)
  exact ⟨_, ys.length, rfl, .inl ⟨ys, .of ha, rfl⟩, q _ H (Same.refl _) (by rw [hr.length]; rfl)⟩
theorem cd_lenT : CallD (rLen K) [.tuple ds] (.int ds.length) := fun H xs hx Q q => by
  obtain ⟨v, r, rfl, ⟨a, ys, rfl, ha, hr⟩, hn⟩ := hx
  cases (show r = [] from hn)
  exact ⟨_, ys.length, rfl, .inr ⟨ys, .of ha, rfl⟩, q _ H (Same.refl _) (by rw [hr.length]; rfl)⟩
theorem cd_lenS {z : Str} (hz : z.length ≤ sizeLine) : CallD (rLen K) [.str z] (.int z.length) := fun H xs hx Q q => by
  obtain ⟨v, r, rfl, hv, hn⟩ := hx
  cases (show r = [] from hn)
  cases (show v = V.str z from hv)
  exact ⟨_, z.length, rfl, ⟨hz, rfl⟩, q _ H (Same.refl _) rfl⟩
theorem cd_sum {ns : List Int} : CallD (rSum K) [.list (ns.map PyData.int)] (.int ns.sum) := fun H xs hx Q q => by
  obtain ⟨v, r, rfl, ⟨a, ys, rfl, ha, hr⟩, hn⟩ := hx
  cases (show r = [] from hn)
  exact ⟨a, ns, rfl, by rw [← RpL.ints_inv hr]; exact .of ha, q _ H (Same.refl _) rfl⟩
theorem cd_all {bs : List Bool} : CallD (rAll K) [.list (bs.map PyData.bool)] (.bool (bs.all id)) := fun H xs hx Q q => by
  obtain ⟨v, r, rfl, ⟨a, ys, rfl, ha, hr⟩, hn⟩ := hx
  cases (show r = [] from hn)
  exact ⟨a, bs, rfl, by rw [← RpL.bools_inv hr]; exact .of ha, q _ H (Same.refl _) rfl⟩
theorem cd_strI {i : Int} (h : i.natAbs.log2 < 1920) : CallD rStrI [.int i] (.str (toString i)) := fun H xs hx Q q => by
  obtain ⟨v, r, rfl, hv, hn⟩ := hx
  cases (show r = [] from hn)
  cases (show v = V.int i from hv)
  exact ⟨i, rfl, h, q _ H (Same.refl _) rfl⟩
theorem cd_intS {z : Str} {n : Int} (h : PySem.intText? z = some n) (hz : z.length ≤ 640) : CallD rIntS [.str z] (.int n) := fun H xs hx Q q => by
  obtain ⟨v, r, rfl, hv, hn⟩ := hx
  cases (show r = [] from hn)
  cases (show v = V.str z from hv)
  exact ⟨z, n, rfl, h, hz, q _ H (Same.refl _) rfl⟩
theorem cd_dictD {m : List (PyData × PyData)} : CallD rDictD [.dict m] (.dict m) := fun H xs hx Q q => by
  obtain ⟨v, r, rfl, ⟨a, ys, rfl, ha, hr⟩, hn⟩ := hx
  cases (show r = [] from hn)
  exact ⟨a, ys, rfl, ha, fun l hl => q _ _ (Same.new hl) ⟨l, ys, rfl, .inl upd_same, hr.mono (Same.new hl)⟩⟩
theorem rpI_keys {H : Hp} : ∀ {m : IM} {xs : List (Key × V)}, RpI H m xs → (xs.map fun kv => kV kv.1) = (m.map (·.1)).map V.int
  | [], _, h => by rw [show _ = [] from h]; rfl
  | (k, d) :: m, _, h => by obtain ⟨v, r, rfl, _, q⟩ := h.inv; simp only [List.map_cons, rpI_keys q]; rfl
theorem cd_listD {m : IM} : CallD rListD [dI m] (.list ((m.map (·.1)).map PyData.int)) := fun H xs hx Q q => by
  obtain ⟨v, r, rfl, ⟨a, ys, rfl, ha, hr⟩, hn⟩ := hx
  cases (show r = [] from hn)
  exact ⟨a, ys, rfl, ha, fun l hl => q _ _ (Same.new hl) ⟨l, _, rfl, upd_same, by rw [rpI_keys hr]; exact RpL.ints _⟩⟩
end

/-! ### statements that hand back data -/
/-- the block ends by handing back d, leaving all as it was -/
def EvR (t : TS) (σ : L2.St) (H : Hp) (d : PyData) : Prop := ∀ H1, Same H H1 → ∀ D : Ends, (∀ v H2, Same H1 H2 → Rp H2 d v → D.rt v H2) → t D σ H1
section
variable {K : PySem.W.Frag} {σ : L2.St} {H H' : Hp} {te : TE} {c : TT} {t u : TS} {d e f : PyData} {D : Ends} {i : Nat} {b : Bool}
theorem EvR.mono (h : EvR t σ H d) (s : Same H H') : EvR t σ H' d := fun H1 e D q => h H1 (s.trans e) D q
theorem EvR.run (h : EvR t σ H d) (q : ∀ v H2, Same H H2 → Rp H2 d v → D.rt v H2) : t D σ H := h H (Same.refl _) D q
theorem er_ret (h : EvD te σ H d) : EvR (tRet te) σ H d := fun H1 s D q => h H1 s _ q
theorem er_retN : EvR tRetN σ H .none := fun H1 s D q => q _ H1 (Same.refl _) rfl
theorem er_ifT (hc : EvB c σ H true) (h : EvR t σ H d) : EvR (tIfS c t u) σ H d := fun H1 s D q => hc H1 s _ fun H2 s2 => iteT (h H2 (s.trans s2) D fun v H3 s3 r3 => q v H3 (s2.trans s3) r3)
theorem er_ifF (hc : EvB c σ H false) (h : EvR u σ H d) : EvR (tIfS c t u) σ H d := fun H1 s D q => hc H1 s _ fun H2 s2 => iteF (h H2 (s.trans s2) D fun v H3 s3 r3 => q v H3 (s2.trans s3) r3)
/-- the first statement of a block hands back -/
theorem er_here (h : EvR t σ H d) : EvR (tSeq t u) σ H d := fun H1 s D q => h H1 s { D with nx := u D } q
/-- an if that is not taken -/
theorem er_skip (hc : EvB c σ H false) (h : EvR u σ H d) : EvR (tSeq (tIfS c t tNext) u) σ H d := fun H1 s D q => hc H1 s _ fun H2 s2 => iteF (h H2 (s.trans s2) D fun v H3 s3 r3 => q v H3 (s2.trans s3) r3)
theorem er_set (h : EvD te σ H d) (k : ∀ v H1, Same H H1 → Rp H1 d v → EvR u (σ.set i (some v)) H1 e) : EvR (tSeq (tAsg te (gName i)) u) σ H e := fun H1 s D q =>
  h H1 s _ fun v H2 s2 r2 => k v H2 (s.trans s2) r2 H2 (Same.refl _) D fun w H3 s3 r3 => q w H3 (s2.trans s3) r3
theorem er_drop (h : EvD te σ H d) (k : EvR u σ H e) : EvR (tSeq (tDrop te) u) σ H e := fun H1 s D q =>
  h H1 s _ fun v H2 s2 r2 => k H2 (s.trans s2) D fun w H3 s3 r3 => q w H3 (s2.trans s3) r3

/-! ### statements, by what is wanted behind them -/
theorem w_seq (h : t { D with nx := u D } σ H) : tSeq t u D σ H := h
theorem w_next (q : D.nx σ H) : tNext D σ H := q
theorem w_ret (h : EvD te σ H d) (q : ∀ v H1, Same H H1 → Rp H1 d v → D.rt v H1) : tRet te D σ H := h H (Same.refl _) _ q
theorem w_set (h : EvD te σ H d) (q : ∀ v H1, Same H H1 → Rp H1 d v → D.nx (σ.set i (some v)) H1) : tAsg te (gName i) D σ H := h H (Same.refl _) _ q
theorem w_drop (h : EvD te σ H d) (q : ∀ H1, Same H H1 → D.nx σ H1) : tDrop te D σ H := h H (Same.refl _) _ fun v H1 s r => q H1 s
theorem w_ifT (h : EvB c σ H true) (q : ∀ H1, Same H H1 → t D σ H1) : tIfS c t u D σ H := h H (Same.refl _) _ fun H1 s => iteT (q H1 s)
theorem w_ifF (h : EvB c σ H false) (q : ∀ H1, Same H H1 → u D σ H1) : tIfS c t u D σ H := h H (Same.refl _) _ fun H1 s => iteF (q H1 s)
theorem w_if (h : EvB c σ H b) (q1 : b = true → ∀ H1, Same H H1 → t D σ H1) (q2 : b = false → ∀ H1, Same H H1 → u D σ H1) : tIfS c t u D σ H := by
  cases b with
  | true => exact w_ifT h (q1 rfl)
  | false => exact w_ifF h (q2 rfl)
end

/-! ### recursion by the number of calls -/
/-- if c: t (hands back), else what follows -/
theorem w_guard {σ : L2.St} {H : Hp} {c : TT} {t u : TS} {D : Ends} {b : Bool} (h : EvB c σ H b) (q1 : b = true → ∀ H1, Same H H1 → t { D with nx := u D } σ H1) (q2 : b = false → ∀ H1, Same H H1 → u D σ H1) : tSeq (tIfS c t tNext) u D σ H := by
  show tIfS c t tNext { D with nx := u D } σ H
  cases b with
  | true => exact w_ifT h (q1 rfl)
  | false => exact w_ifF h fun H1 s => q2 rfl H1 s
/-- c is false -/
theorem w_pass {σ : L2.St} {H : Hp} {c : TT} {t u : TS} {D : Ends} (h : EvB c σ H false) (q : ∀ H1, Same H H1 → u D σ H1) : tSeq (tIfS c t tNext) u D σ H := w_guard h (fun z => by cases z) fun _ => q
theorem w_sset {σ : L2.St} {H : Hp} {te : TE} {i : Nat} {u : TS} {D : Ends} {d : PyData} (h : EvD te σ H d) (q : ∀ v H1, Same H H1 → Rp H1 d v → u D (σ.set i (some v)) H1) : tSeq (tAsg te (gName i)) u D σ H := h H (Same.refl _) _ q

section
variable {P : Program} {w : World} {K : PySem.W.Frag} {mg : Str → Option Value} {base : Heap} {CX : CXT} {f : Addr} {fd : FuncData} {ps : List Str}
theorem none_ok {sp : Sp} (no : ∀ vs H Q E, ¬ sp vs H Q E) : FnOk P w K mg base CX 0 f fd ps sp :=
  ⟨fun vs H Q E h => absurd h (no vs H Q E), fun A outer s H args us vs Q E _ _ _ _ h => absurd h (no vs H Q E)⟩
theorem rec_ok {sp : Nat → Sp} (no : ∀ vs H Q E, ¬ sp 0 vs H Q E) (step : ∀ n, FnOk P w K mg base CX n f fd ps (sp n) → FnOk P w K mg base CX (n + 1) f fd ps (sp (n + 1))) : ∀ n, FnOk P w K mg base CX n f fd ps (sp n)
  | 0 => none_ok no
  | n + 1 => step n (rec_ok no step n)
end
end Fx
/-! FxC: what is walked: comprehensions and loops over data. -/
namespace Fx
open PySem L2 RZ

/-- while Ok holds, J gives the items ds, one behind the other -/
structure Yl (J : It) (Ok : Hp → Prop) (ds : List PyData) : Prop where
  go : ∀ i H, Ok H → i < ds.length → J.go i H
  stop : ∀ i H, Ok H → ds.length ≤ i → J.stop i H
  yld : ∀ i H x H', Ok H → i < ds.length → J.yld i H x H' → Same H H' ∧ ∃ d, ds[i]? = some d ∧ Rp H' d x
/-- the walked thing's items, as long as tuples are kept -/
def EvI (wi : TI) (σ : L2.St) (H : Hp) (ds : List PyData) : Prop := ∀ H1, Same H H1 → ∀ R : It → Hp → Prop,
  (∀ J H2 Ok, Same H1 H2 → Ok H2 → (∀ H3 H4, Ok H3 → KT H3 H4 → Ok H4) → Yl J Ok ds → R J H2) → wi σ H1 R
/-- .. as long as nothing changes -/
def EvJ (wi : TI) (σ : L2.St) (H : Hp) (ds : List PyData) : Prop := ∀ H1, Same H H1 → ∀ R : It → Hp → Prop,
  (∀ J H2 Ok, Same H1 H2 → Ok H2 → (∀ H3 H4, Ok H3 → Same H3 H4 → Ok H4) → Yl J Ok ds → R J H2) → wi σ H1 R
theorem EvI.j {wi : TI} {σ : L2.St} {H : Hp} {ds : List PyData} (h : EvI wi σ H ds) : EvJ wi σ H ds := fun H1 s R q => h H1 s R fun J H2 Ok s2 o c y => q J H2 Ok s2 o (fun H3 H4 o3 s3 => c H3 H4 o3 (.of s3)) y
section
variable {K : PySem.W.Frag} {σ : L2.St} {H : Hp} {te : TE} {ds es : List PyData}
theorem ei_tup (h : EvD te σ H (.tuple ds)) (hi : immL ds = true) : EvI (iTup K te) σ H ds := fun H1 s R q => h H1 s _ fun v H2 s2 r => by
  obtain ⟨a, xs, rfl, ha, hr⟩ := r
  refine ⟨a, rfl, ⟨xs, .of ha⟩, q _ H2 (fun H' => H' a = some (.tup xs) ∧ RpL H' ds xs) s2 ⟨ha, hr⟩ (fun H3 H4 o k => ⟨k a xs o.1, RpL.kt k ds xs hi o.2⟩) ⟨fun i H' o hlt => ?_, fun i H' o hle => ?_, fun i H' x H'' o hlt y => ?_⟩⟩
  · rw [← o.2.length] at hlt
    exact ⟨xs, xs[i], .of o.1, by simp [hlt]⟩
  · exact ⟨xs, .of o.1, by rw [o.2.length]; exact hle⟩
  · obtain ⟨rfl, y⟩ := y
    obtain ⟨d, e1, e2⟩ := o.2.get' (y xs (.of o.1))
    exact ⟨Same.refl _, d, e1, e2⟩
theorem ej_list (h : EvD te σ H (.list ds)) : EvJ (iList K te) σ H ds := fun H1 s R q => h H1 s _ fun v H2 s2 r => by
  obtain ⟨a, xs, rfl, ha, hr⟩ := r
  refine ⟨a, rfl, ⟨xs, .of ha⟩, q _ H2 (fun H' => H' a = some (.lst xs) ∧ RpL H' ds xs) s2 ⟨ha, hr⟩ (fun H3 H4 o k => ⟨k _ _ o.1, o.2.mono k⟩) ⟨fun i H' o hlt => ?_, fun i H' o hle => ?_, fun i H' x H'' o hlt y => ?_⟩⟩
  · rw [← o.2.length] at hlt
    exact ⟨xs, xs[i], .of o.1, by simp [hlt]⟩
  · exact ⟨xs, .of o.1, by rw [o.2.length]; exact hle⟩
  · obtain ⟨rfl, y⟩ := y
    obtain ⟨d, e1, e2⟩ := o.2.get' (y xs (.of o.1))
    exact ⟨Same.refl _, d, e1, e2⟩
theorem ei_str {z : Str} (h : EvD te σ H (.str z)) : EvI (iStr te) σ H (z.cps.toList.map fun c => .str ⟨#[c]⟩) := fun H1 s R q => h H1 s _ fun v H2 s2 r => by
  cases (show v = V.str z from r)
  refine ⟨z, rfl, q _ H2 (fun _ => True) s2 trivial (fun _ _ _ _ => trivial) ⟨fun i H' _ hlt => ?_, fun i H' _ hle => ?_, fun i H' x H'' _ hlt y => ?_⟩⟩
  · show i < z.cps.size
    simpa using hlt
  · show z.cps.size ≤ i
    simpa using hle
  · obtain ⟨rfl, c, e, rfl⟩ := y
    refine ⟨Same.refl _, .str ⟨#[c]⟩, ?_, rfl⟩
    rw [List.getElem?_map, Array.getElem?_toList, e]; rfl
theorem ei_range1 {n : Nat} (h : EvD te σ H (.int n)) (h2 : n < 2 ^ 62) : EvI (iRng1 (tCons te tNil)) σ H ((List.range n).map fun (i : Nat) => .int (i : Int)) := fun H1 s R q => h H1 s _ fun v H2 s2 r => by
  cases (show v = V.int n from r)
  refine ⟨n, rfl, by omega, by omega, q _ H2 (fun _ => True) s2 trivial (fun _ _ _ _ => trivial) ⟨fun i H' _ hlt => ?_, fun i H' _ hle => ?_, fun i H' x H'' _ hlt y => ?_⟩⟩
  · show i < (n : Int).toNat
    simpa using hlt
  · show (n : Int).toNat ≤ i
    simpa using hle
  · obtain ⟨rfl, rfl⟩ := y
    refine ⟨Same.refl _, .int (i : Int), ?_, ?_⟩
    · rw [List.getElem?_map, List.getElem?_range (by simpa using hlt)]; rfl
    · show V.int (0 + (i : Int)) = V.int i
      rw [Int.zero_add]
/-- zip of two tuples -/
theorem ei_zipT {ta tb : TE} {ds es : List PyData} (ha : EvD ta σ H (.tuple ds)) (hb : EvD tb σ H (.tuple es)) (hi : immL ds = true) (hj : immL es = true) :
    EvI (iZipA K (tCons ta (tCons tb tNil))) σ H (List.zipWith (fun a b => .tuple [a, b]) ds es) := fun H1 s R q => ha H1 s _ fun v H2 s2 r => hb H2 (s.trans s2) _ fun w H3 s3 r' => by
  obtain ⟨a, xs, rfl, ha, hr⟩ := r.mono s3
  obtain ⟨b, ys, rfl, hb, hr'⟩ := r'
  refine ⟨a, b, xs, ys, rfl, .inr ⟨.of ha, .of hb, q _ H3 (fun H' => (H' a = some (.tup xs) ∧ RpL H' ds xs) ∧ (H' b = some (.tup ys) ∧ RpL H' es ys)) (s2.trans s3) ⟨⟨ha, hr⟩, ⟨hb, hr'⟩⟩ (fun H3 H4 o k => ⟨⟨k a xs o.1.1, RpL.kt k ds xs hi o.1.2⟩, ⟨k b ys o.2.1, RpL.kt k es ys hj o.2.2⟩⟩) ⟨fun i H' o hlt => ?_, fun i H' o hle => ?_, fun i H' x H'' o hlt y => ?_⟩⟩⟩
  · rw [List.length_zipWith, ← o.1.2.length, ← o.2.2.length] at hlt
    exact ⟨xs, ys, xs[i]'(by omega), ys[i]'(by omega), .of o.1.1, .of o.2.1, by simp, by simp⟩
  · rw [List.length_zipWith, ← o.1.2.length, ← o.2.2.length] at hle
    exact ⟨xs, ys, .of o.1.1, .of o.2.1, by omega⟩
  · obtain ⟨T, x', y', rfl, hT, rfl, f1, f2⟩ := y
    obtain ⟨d, e1, e2⟩ := o.1.2.get' (f1 xs (.of o.1.1))
    obtain ⟨d', e1', e2'⟩ := o.2.2.get' (f2 ys (.of o.2.1))
    have sm : Same H' (upd H' T (.tup [x', y'])) := Same.new hT
    exact ⟨sm, .tuple [d, d'], by simp [List.getElem?_zipWith, e1, e1'], T, [x', y'], rfl, upd_same, .cons (e2.mono sm) (.cons (e2'.mono sm) .nil)⟩

theorem immL_of : ∀ {ds : List PyData}, (∀ d, d ∈ ds → imm d = true) → immL ds = true
  | [], _ => rfl
  | d :: ds, h => by simp only [immL, Bool.and_eq_true]; exact ⟨h d (by simp), immL_of fun e he => h e (by simp [he])⟩
theorem imm_of : ∀ {ds : List PyData}, immL ds = true → ∀ d, d ∈ ds → imm d = true
  | [], _, _, h => by cases h
  | e :: ds, i, d, h => by
    simp only [immL, Bool.and_eq_true] at i
    rcases List.mem_cons.mp h with rfl | h
    · exact i.1
    · exact imm_of i.2 d h
/-! ### comprehensions -/
theorem et_yes : EvB tYes σ H true := fun H1 s Q q => q H1 (Same.refl _)
theorem wipe1 {j : Nat} {x : Option V} : wipe ((wipe σ [j]).set j x) [j] = wipe σ [j] := by
  show (((σ.set j none).set j x).set j none) = σ.set j none
  rw [List.set_set, List.set_set]
theorem ev_lc {α : Type} {wi : TI} {tt : TT} {te : TE} {j : Nat} (xs : List α) (enc : α → PyData) (hi : EvJ wi σ H (xs.map enc)) (p : α → Bool) (g : α → PyData)
    (hs : ∀ x, x ∈ xs → ∀ v H1, Same H H1 → Rp H1 (enc x) v → EvB tt ((σ.set j none).set j (some v)) H1 (p x) ∧ (p x = true → EvD te ((σ.set j none).set j (some v)) H1 (g x)))
    (hg : ∀ x, x ∈ xs → imm (g x) = true) (hz : xs.length ≤ 1000) : EvD (tLc wi (gName j) tt te [j]) σ H (.list ((xs.filter p).map g)) := fun H1 s Q q => by
  refine hi H1 s _ fun J H2 Ok s2 ok cl Y => fun D hD => ?_
  have zl : ∀ i, (((xs.take i).filter p).map g).length ≤ 1000 := fun i => by
    rw [List.length_map]
    refine Nat.le_trans (List.length_filter_le _ _) ?_
    rw [List.length_take]; omega
  refine ⟨fun i m H' => m = xs.length - i ∧ i ≤ xs.length ∧ Same H2 H' ∧ ∃ acc, H' D = some (.lst acc) ∧ RpL H' (((xs.take i).filter p).map g) acc, ⟨_, rfl, Nat.zero_le _, Same.new hD, [], upd_same, rfl⟩, ?_⟩
  rintro i m H' ⟨rfl, hle, s3, acc, hA, hR⟩
  have ok' : Ok H' := cl _ _ ok s3
  by_cases hlt : i < xs.length
  · refine .inr ⟨Y.go i H' ok' (by simpa using hlt), fun H' => i + 1 ≤ xs.length ∧ Same H2 H' ∧ ∃ acc, H' D = some (.lst acc) ∧ RpL H' (((xs.take (i + 1)).filter p).map g) acc, fun H'' h => ⟨_, by omega, rfl, h⟩, fun v H4 y => ?_⟩
    obtain ⟨s4, d, ed, rd⟩ := Y.yld i H' v H4 ok' (by simpa using hlt) y
    obtain ⟨x, ex, rfl⟩ : ∃ x, xs[i]? = some x ∧ enc x = d := by
      rw [List.getElem?_map] at ed
      exact Option.map_eq_some_iff.mp ed
    have hx : x ∈ xs := List.mem_of_getElem? ex
    have s14 : Same H H4 := (s.trans s2).trans (s3.trans s4)
    obtain ⟨k1, k2⟩ := hs x hx v H4 s14 rd
    have tk : xs.take (i + 1) = xs.take i ++ [x] := by rw [List.take_add_one, ex]; rfl
    refine ⟨wipe1, ?_⟩
    refine k1 H4 (Same.refl _) _ fun H5 s5 => ?_
    refine ite2 (fun c => ?_) (fun c => ?_)
    · refine k2 c H5 s5 _ fun w H6 s6 r6 => ?_
      have a6 : H6 D = some (.lst acc) := s6 _ _ (s5 _ _ (s4 _ _ hA))
      have r6' : RpL H6 (((xs.take i).filter p).map g) acc := hR.mono ((s4.trans s5).trans s6)
      have hl : acc.length < sizeLine := by
        rw [hR.length]
        exact Nat.lt_of_le_of_lt (zl i) (by decide)
      have ss : Same H2 H6 := s3.trans ((s4.trans s5).trans s6)
      refine ⟨acc, a6, hl, by omega, Fx.Same.put ss hD, acc ++ [w], upd_same, ?_⟩
      have ls : RpL H6 (((xs.take (i + 1)).filter p).map g) (acc ++ [w]) := by
        rw [tk, List.filter_append, List.map_append]
        have : List.map g (List.filter p [x]) = [g x] := by simp [c]
        rw [this]
        exact r6'.snoc r6
      exact RpL.kt (KT.upd fun ys e => by rw [a6] at e; cases e) _ _ (immL_of fun d hd => by
        obtain ⟨x, hx, rfl⟩ := List.mem_map.mp hd
        exact hg x (List.mem_of_mem_take (List.mem_filter.mp hx).1)) ls
    · refine ⟨by omega, s3.trans (s4.trans s5), acc, s5 _ _ (s4 _ _ hA), ?_⟩
      rw [tk, List.filter_append, List.map_append]
      have : List.map g (List.filter p [x]) = [] := by simp [c]
      rw [this, List.append_nil]
      exact hR.mono (s4.trans s5)
  · have e : i = xs.length := by omega
    subst e
    refine .inl ⟨Y.stop _ H' ok' (by simp), ?_⟩
    rw [List.take_length] at hR
    exact q _ H' (s2.trans s3) ⟨D, acc, rfl, hA, hR⟩
/-- without an if -/
theorem ev_lc1 {α : Type} {wi : TI} {te : TE} {j : Nat} (xs : List α) (enc : α → PyData) (g : α → PyData) (hi : EvJ wi σ H (xs.map enc))
    (hs : ∀ x, x ∈ xs → ∀ v H1, Same H H1 → Rp H1 (enc x) v → EvD te ((σ.set j none).set j (some v)) H1 (g x))
    (hg : ∀ x, x ∈ xs → imm (g x) = true) (hz : xs.length ≤ 1000) : EvD (tLc wi (gName j) tYes te [j]) σ H (.list (xs.map g)) := by
  have := ev_lc (tt := tYes) (te := te) (j := j) xs enc hi (fun _ => true) g (fun x hx v H1 s r => ⟨et_yes, fun _ => hs x hx v H1 s r⟩) hg hz
  rwa [List.filter_eq_self.mpr (fun _ _ => rfl)] at this

/-! ### loops -/
theorem w_for {wi : TI} {g : TG} {tb : TS} {D : Ends} (hi : EvI wi σ H ds) (body : ∀ H1, Same H H1 → ∃ Pv : Nat → L2.St → Hp → Prop, Pv 0 σ H1 ∧
      (∀ i d x σ' H' H2, ds[i]? = some d → KT H1 H' → Pv i σ' H' → Same H' H2 → Rp H2 d x → g x σ' H2 fun σ2 H3 => tb { D with nx := fun σ4 H4 => KT H1 H4 ∧ Pv (i + 1) σ4 H4, ct := fun σ4 H4 => KT H1 H4 ∧ Pv (i + 1) σ4 H4, bk := D.nx } σ2 H3) ∧
      (∀ σ' H', KT H1 H' → Pv ds.length σ' H' → D.nx σ' H')) : tFor wi g tb D σ H := by
  refine hi H (Same.refl _) _ fun J H2 Ok s2 ok cl Y => ?_
  obtain ⟨Pv, p0, ps, pd⟩ := body H2 s2
  refine ⟨fun i m σ' H' => m = ds.length - i ∧ i ≤ ds.length ∧ KT H2 H' ∧ Pv i σ' H', ⟨_, rfl, Nat.zero_le _, KT.refl _, p0⟩, ?_⟩
  rintro i m σ' H' ⟨rfl, hle, k, p⟩
  have ok' : Ok H' := cl _ _ ok k
  by_cases hlt : i < ds.length
  · refine .inr ⟨Y.go i H' ok' hlt, fun σ4 H4 => KT H2 H4 ∧ Pv (i + 1) σ4 H4, fun σ4 H4 h => ⟨_, by omega, rfl, hlt, h⟩, fun x H4 y => ?_⟩
    obtain ⟨s4, d, ed, rd⟩ := Y.yld i H' x H4 ok' hlt y
    exact ps i d x σ' H' H4 ed k p s4 rd
  · have e : i = ds.length := by omega
    subst e
    exact .inl ⟨Y.stop _ H' ok' (Nat.le_refl _), pd σ' H' k p⟩
/-- over a list that the body leaves as it is -/
theorem w_for_list {g : TG} {tb : TS} {D : Ends} (h : EvD te σ H (.list ds)) (body : ∀ H1 a xs, Same H H1 → H1 a = some (.lst xs) → RpL H1 ds xs → ∃ Pv : Nat → L2.St → Hp → Prop, Pv 0 σ H1 ∧ (∀ i σ' H', Pv i σ' H' → H' a = some (.lst xs)) ∧
      (∀ i d x σ' H', ds[i]? = some d → xs[i]? = some x → Pv i σ' H' → g x σ' H' fun σ2 H3 => tb { D with nx := Pv (i + 1), ct := Pv (i + 1), bk := D.nx } σ2 H3) ∧
      (∀ σ' H', Pv ds.length σ' H' → D.nx σ' H')) : tFor (iList K te) g tb D σ H := by
  refine h H (Same.refl _) _ fun v H2 s2 r => ?_
  obtain ⟨a, xs, rfl, ha, hr⟩ := r
  obtain ⟨Pv, p0, pl, ps, pd⟩ := body H2 a xs s2 ha hr
  refine ⟨a, rfl, ⟨xs, .of ha⟩, for_list (K := K) (xs := xs) Pv p0 (fun i σ' H' _ p => .of (pl i σ' H' p)) (fun i x σ' H' ex p => ?_) (fun σ' H' p => pd σ' H' (by rw [← hr.length]; exact p))⟩
  obtain ⟨d, ed, _⟩ := hr.get' ex
  exact ps i d x σ' H' ed ex p
/-- over a dict's keys: the dict is locked within -/
theorem w_for_keys {i0 : Nat} {a : Addr} {m : IM} {xs : List (Key × V)} {g : TG} {tb : TS} {D : Ends} (h : σ[i0]? = some (some (.ref a))) (ha : H a = some (.dK xs)) (hr : RpI H m xs)
    (body : ∀ od, ∃ Pv : Nat → L2.St → Hp → Prop, Pv 0 σ (upd H a (.frz od (.dK xs))) ∧ (∀ i σ' H', Pv i σ' H' → H' a = some (.frz od (.dK xs))) ∧
      (∀ i (k : Int) d σ' H', m[i]? = some (k, d) → Pv i σ' H' → g (.int k) σ' H' fun σ2 H3 => tb ⟨Pv (i + 1), fun v H' => H' a = some (.frz od (.dK xs)) ∧ D.rt v (upd H' a (.dK xs)), fun σ' H' => H' a = some (.frz od (.dK xs)) ∧ D.nx σ' (upd H' a (.dK xs)), Pv (i + 1)⟩ σ2 H3) ∧
      (∀ σ' H', H' a = some (.frz od (.dK xs)) → Pv m.length σ' H' → D.nx σ' (upd H' a (.dK xs)))) : tLock (tFor (iKeys (tVar i0)) g tb) D σ H := by
  refine ⟨a, .dK xs, ha, trivial, fun od => ?_⟩
  obtain ⟨Pv, p0, pl, ps, pd⟩ := body od
  refine ⟨.ref a, h, a, od, rfl, .inl ⟨xs, upd_same, fun i n σ' H' => n = xs.length - i ∧ i ≤ xs.length ∧ Pv i σ' H', ⟨_, rfl, Nat.zero_le _, p0⟩, ?_⟩⟩
  rintro i n σ' H' ⟨rfl, hle, p⟩
  have fz := pl i σ' H' p
  by_cases hlt : i < xs.length
  · refine .inr ⟨⟨fz, hlt⟩, Pv (i + 1), fun σ4 H4 h => ⟨_, by omega, rfl, hlt, h⟩, fun x H4 y => ?_⟩
    obtain ⟨rfl, k, v, ek, rfl⟩ := y
    have : ∃ kk d, m[i]? = some (kk, d) ∧ k = .inl kk := by
      have ks := rpI_keys hr
      have e1 : (xs.map fun kv => kV kv.1)[i]? = some (kV k) := by rw [List.getElem?_map, ek]; rfl
      rw [ks, List.getElem?_map, List.getElem?_map] at e1
      cases q : m[i]? with
      | none => rw [q] at e1; cases e1
      | some kd =>
        rw [q] at e1
        obtain ⟨kk, d⟩ := kd
        have e2 : V.int kk = kV k := Option.some.inj e1
        refine ⟨kk, d, rfl, ?_⟩
        cases k with
        | inl j => cases e2; rfl
        | inr s => cases e2
    obtain ⟨kk, d, em, rfl⟩ := this
    exact ps i kk d σ' _ em p
  · have e : i = xs.length := by omega
    subst e
    exact .inl ⟨⟨fz, Nat.le_refl _⟩, fz, pd σ' H' fz (by rw [← RpI.length hr]; exact p)⟩
/-- a pair is taken apart -/
theorem w_gtup2 {i j : Nat} {d1 d2 : PyData} {x : V} {Q : L2.St → Hp → Prop} (r : Rp H (.tuple [d1, d2]) x) (q : ∀ v1 v2, Rp H d1 v1 → Rp H d2 v2 → Q ((σ.set i (some v1)).set j (some v2)) H) : gTup K 2 (gCons (gName i) (gCons (gName j) gNil)) x σ H Q := by
  obtain ⟨a, xs, rfl, ha, v1, _, rfl, r1, v2, _, rfl, r2, rfl⟩ := r
  exact ⟨a, _, rfl, .of ha, rfl, v1, _, rfl, v2, _, rfl, rfl, q v1 v2 r1 r2⟩

/-! ### what is written -/
theorem w_append {i : Nat} {a : Addr} {xs : List V} {d : PyData} {te : TE} {D : Ends} (h : σ[i]? = some (some (.ref a))) (ha : H a = some (.lst xs)) (he : EvD te σ H d) (hl : xs.length ≤ 100000)
    (q : ∀ v H1, Same H H1 → Rp H1 d v → D.nx σ (upd H1 a (.lst (xs ++ [v])))) : tDrop (tBM K "list" rAppend (tVar i) (tCons te tNil)) D σ H := by
  refine ⟨.ref a, h, .inl ⟨rfl, xs, .of ha⟩, he H (Same.refl _) _ fun v H1 s r => ?_⟩
  exact ⟨a, xs, v, rfl, rfl, s _ _ ha, Nat.lt_of_le_of_lt hl (by decide), q v H1 s r⟩
theorem w_extend {i : Nat} {a : Addr} {xs : List V} {ds : List PyData} {te : TE} {D : Ends} (h : σ[i]? = some (some (.ref a))) (ha : H a = some (.lst xs)) (he : EvD te σ H (.list ds)) (hl : xs.length + ds.length ≤ 100000)
    (q : ∀ vs H1, Same H H1 → RpL H1 ds vs → D.nx σ (upd H1 a (.lst (xs ++ vs)))) : tDrop (tBM K "list" rExtend (tVar i) (tCons te tNil)) D σ H := by
  refine ⟨.ref a, h, .inl ⟨rfl, xs, .of ha⟩, he H (Same.refl _) _ fun v H1 s r => ?_⟩
  obtain ⟨b, ys, rfl, hb, hr⟩ := r
  exact ⟨a, b, xs, ys, rfl, rfl, s _ _ ha, hb, by rw [hr.length]; exact Nat.le_trans hl (by decide), q ys H1 s hr⟩
theorem w_setL {i : Nat} {a : Addr} {xs : List V} {d : PyData} {k : Int} {j : Nat} {te : TE} {D : Ends} (h : σ[i]? = some (some (.ref a))) (ha : H a = some (.lst xs)) (he : EvD te σ H d) (hk : ixN xs.length k = some j)
    (q : ∀ v H1, Same H H1 → Rp H1 d v → D.nx σ (upd H1 a (.lst (xs.set j v)))) : tAsg te (gSub (tVar i) (tC (.int k)) rSetL) D σ H := by
  refine he H (Same.refl _) _ fun v H1 s r => ?_
  exact ⟨.ref a, h, a, xs, k, j, rfl, rfl, s _ _ ha, hk, q v H1 s r⟩
theorem w_dput {i : Nat} {a : Addr} {xs : List (Key × V)} {d : PyData} {k : Int} {te ty : TE} {D : Ends} (h : σ[i]? = some (some (.ref a))) (ha : H a = some (.dK xs)) (he : EvD te σ H d) (hy : EvD ty σ H (.int k)) (hl : xs.length ≤ 100000)
    (q : ∀ v H1, Same H H1 → Rp H1 d v → D.nx σ (upd H1 a (.dK (putK xs (.inl k) v)))) : sDPut (tVar i) ty te D σ H := by
  refine he H (Same.refl _) _ fun v H1 s r => ?_
  refine ⟨.ref a, h, hy H1 s _ fun y H2 s2 r2 => ?_⟩
  cases (show y = V.int k from r2)
  exact ⟨a, _, rfl, .inl ⟨xs, .inl k, (s.trans s2) _ _ ha, rfl, Nat.lt_of_le_of_lt hl (by decide), rfl⟩, q v H2 (s.trans s2) (r.mono s2)⟩
theorem w_dnew {i : Nat} {D : Ends} (q : ∀ p, H p = none → D.nx (σ.set i (some (.ref p))) (upd H p (.dK []))) : tAsg tDNewK (gName i) D σ H := q
theorem w_lnew {i : Nat} {D : Ends} (q : ∀ p, H p = none → D.nx (σ.set i (some (.ref p))) (upd H p (.lst []))) : tAsg (tLst tNil) (gName i) D σ H := ⟨Nat.zero_le _, q⟩

/-! .. and what follows -/
theorem w_sfor {wi : TI} {g : TG} {tb u : TS} {D : Ends} (hi : EvI wi σ H ds) (body : ∀ H1, Same H H1 → ∃ Pv : Nat → L2.St → Hp → Prop, Pv 0 σ H1 ∧
      (∀ i d x σ' H' H2, ds[i]? = some d → KT H1 H' → Pv i σ' H' → Same H' H2 → Rp H2 d x → g x σ' H2 fun σ2 H3 => tb { D with nx := fun σ4 H4 => KT H1 H4 ∧ Pv (i + 1) σ4 H4, ct := fun σ4 H4 => KT H1 H4 ∧ Pv (i + 1) σ4 H4, bk := u D } σ2 H3) ∧
      (∀ σ' H', KT H1 H' → Pv ds.length σ' H' → u D σ' H')) : tSeq (tFor wi g tb) u D σ H := w_for (D := { D with nx := u D }) hi body
theorem w_sfor_list {g : TG} {tb u : TS} {D : Ends} (h : EvD te σ H (.list ds)) (body : ∀ H1 a xs, Same H H1 → H1 a = some (.lst xs) → RpL H1 ds xs → ∃ Pv : Nat → L2.St → Hp → Prop, Pv 0 σ H1 ∧ (∀ i σ' H', Pv i σ' H' → H' a = some (.lst xs)) ∧
      (∀ i d x σ' H', ds[i]? = some d → xs[i]? = some x → Pv i σ' H' → g x σ' H' fun σ2 H3 => tb { D with nx := Pv (i + 1), ct := Pv (i + 1), bk := u D } σ2 H3) ∧
      (∀ σ' H', Pv ds.length σ' H' → u D σ' H')) : tSeq (tFor (iList K te) g tb) u D σ H := w_for_list (D := { D with nx := u D }) h body
theorem w_sfor_keys {i0 : Nat} {a : Addr} {m : IM} {xs : List (Key × V)} {g : TG} {tb u : TS} {D : Ends} (h : σ[i0]? = some (some (.ref a))) (ha : H a = some (.dK xs)) (hr : RpI H m xs)
    (body : ∀ od, ∃ Pv : Nat → L2.St → Hp → Prop, Pv 0 σ (upd H a (.frz od (.dK xs))) ∧ (∀ i σ' H', Pv i σ' H' → H' a = some (.frz od (.dK xs))) ∧
      (∀ i (k : Int) d σ' H', m[i]? = some (k, d) → Pv i σ' H' → g (.int k) σ' H' fun σ2 H3 => tb ⟨Pv (i + 1), fun v H' => H' a = some (.frz od (.dK xs)) ∧ D.rt v (upd H' a (.dK xs)), fun σ' H' => H' a = some (.frz od (.dK xs)) ∧ u D σ' (upd H' a (.dK xs)), Pv (i + 1)⟩ σ2 H3) ∧
      (∀ σ' H', H' a = some (.frz od (.dK xs)) → Pv m.length σ' H' → u D σ' (upd H' a (.dK xs)))) : tSeq (tLock (tFor (iKeys (tVar i0)) g tb)) u D σ H := w_for_keys (D := { D with nx := u D }) h ha hr body
theorem w_slnew {i : Nat} {u : TS} {D : Ends} (q : ∀ p, H p = none → u D (σ.set i (some (.ref p))) (upd H p (.lst []))) : tSeq (tAsg (tLst tNil) (gName i)) u D σ H := ⟨Nat.zero_le _, q⟩
theorem w_sdnew {i : Nat} {u : TS} {D : Ends} (q : ∀ p, H p = none → u D (σ.set i (some (.ref p))) (upd H p (.dK []))) : tSeq (tAsg tDNewK (gName i)) u D σ H := q
theorem w_ssetL {i : Nat} {a : Addr} {xs : List V} {d : PyData} {k : Int} {j : Nat} {te : TE} {u : TS} {D : Ends} (h : σ[i]? = some (some (.ref a))) (ha : H a = some (.lst xs)) (he : EvD te σ H d) (hk : ixN xs.length k = some j)
    (q : ∀ v H1, Same H H1 → Rp H1 d v → u D σ (upd H1 a (.lst (xs.set j v)))) : tSeq (tAsg te (gSub (tVar i) (tC (.int k)) rSetL)) u D σ H := w_setL (D := { D with nx := u D }) h ha he hk q
theorem w_sappend {i : Nat} {a : Addr} {xs : List V} {d : PyData} {te : TE} {u : TS} {D : Ends} (h : σ[i]? = some (some (.ref a))) (ha : H a = some (.lst xs)) (he : EvD te σ H d) (hl : xs.length ≤ 100000)
    (q : ∀ v H1, Same H H1 → Rp H1 d v → u D σ (upd H1 a (.lst (xs ++ [v])))) : tSeq (tDrop (tBM K "list" rAppend (tVar i) (tCons te tNil))) u D σ H := w_append (D := { D with nx := u D }) h ha he hl q
theorem w_sextend {i : Nat} {a : Addr} {xs : List V} {ds : List PyData} {te : TE} {u : TS} {D : Ends} (h : σ[i]? = some (some (.ref a))) (ha : H a = some (.lst xs)) (he : EvD te σ H (.list ds)) (hl : xs.length + ds.length ≤ 100000)
    (q : ∀ vs H1, Same H H1 → RpL H1 ds vs → u D σ (upd H1 a (.lst (xs ++ vs)))) : tSeq (tDrop (tBM K "list" rExtend (tVar i) (tCons te tNil))) u D σ H := w_extend (D := { D with nx := u D }) h ha he hl q
theorem w_sdput {i : Nat} {a : Addr} {xs : List (Key × V)} {d : PyData} {k : Int} {te ty : TE} {u : TS} {D : Ends} (h : σ[i]? = some (some (.ref a))) (ha : H a = some (.dK xs)) (he : EvD te σ H d) (hy : EvD ty σ H (.int k)) (hl : xs.length ≤ 100000)
    (q : ∀ v H1, Same H H1 → Rp H1 d v → u D σ (upd H1 a (.dK (putK xs (.inl k) v)))) : tSeq (sDPut (tVar i) ty te) u D σ H := w_dput (D := { D with nx := u D }) h ha he hy hl q
theorem w_sif {c : TT} {t1 t2 u : TS} {D : Ends} {b : Bool} (h : EvB c σ H b) (q1 : b = true → ∀ H1, Same H H1 → t1 { D with nx := u D } σ H1) (q2 : b = false → ∀ H1, Same H H1 → t2 { D with nx := u D } σ H1) : tSeq (tIfS c t1 t2) u D σ H := w_if (D := { D with nx := u D }) h q1 q2
theorem w_sclear {i : Nat} {a : Addr} {xs : List (Key × V)} {u : TS} {D : Ends} (h : σ[i]? = some (some (.ref a))) (ha : H a = some (.dK xs)) (q : u D σ (upd H a (.dK []))) : tSeq (tDrop (tBM0 K "dict" rDClear (tVar i))) u D σ H :=
  ⟨.ref a, h, .inr (.inr (.inl ⟨rfl, .inl ⟨xs, ha⟩⟩)), a, xs, rfl, rfl, ha, q⟩
theorem w_scopy {i j : Nat} {a : Addr} {xs : List (Key × V)} {u : TS} {D : Ends} (h : σ[i]? = some (some (.ref a))) (ha : Rd H a (.dK xs)) (q : ∀ p, H p = none → u D (σ.set j (some (.ref p))) (upd H p (.dK xs))) : tSeq (tAsg (tCB rDictD (tCons (tVar i) tNil)) (gName j)) u D σ H :=
  ⟨.ref a, h, a, xs, rfl, ha, q⟩
end
end Fx
/-! FxD: defs by their names; forms. -/
namespace Fx
open PySem L2 PySem.Spec PyProof.Rows PySem.PyData

section
variable {P : Program} {w : World} {K : PySem.W.Frag} {mg : Str → Option Value} {base : Heap} {CX : CXT} {lv : Nat} {x : Str} {st : Stmt} {ps N : List Str} {sp : Sp}
/-- its arguments bind by their places -/
def Bd (fd : FuncData) (ps : List Str) : Prop := ∀ us : List Value, us.length = ps.length → bindArgs fd ⟨us, []⟩ = pure (ps.zip us)
/-- the def x of the text, as the top leaves it -/
def Bn (K : PySem.W.Frag) (mg : Str → Option Value) (x : Str) (st : Stmt) (ps : List Str) : Prop := ∃ f fd, Fun K x x st f fd ∧ Bd fd ps ∧ mg x = some (.ref f)
/-- the def x keeps a promise -/
def Df (P : Program) (w : World) (K : PySem.W.Frag) (mg : Str → Option Value) (base : Heap) (CX : CXT) (lv : Nat) (x : Str) (ps : List Str) (sp : Sp) : Prop :=
  ∃ f fd, FnOk P w K mg base CX lv f fd ps sp ∧ Bd fd ps ∧ PySem.W.keepIn K (.ref f) = true ∧ mg x = some (.ref f)
theorem Df.mono {j : Nat} (D : Df P w K mg base CX j x ps sp) (h : j ≤ lv) : Df P w K mg base CX lv x ps sp := let ⟨f, fd, F, r⟩ := D; ⟨f, fd, F.mono h, r⟩
theorem Df.imp {sp' : Sp} (D : Df P w K mg base CX lv x ps sp) (h : ∀ vs H Q E, sp' vs H Q E → sp vs H Q E) : Df P w K mg base CX lv x ps sp' := let ⟨f, fd, F, r⟩ := D; ⟨f, fd, F.imp h, r⟩
theorem Bn.ok (B : Bn K mg x st ps) (S : FnScope N ps (defScope st)) (len : ∀ vs H Q E, sp vs H Q E → vs.length = ps.length)
    (hbody : ∀ (f : Addr) (cdv : Value) (A : Around) (outer : List Env) (s : Shared) (H : Hp) (vs : List V) (Q : VK) (E : XK), Room lv (A.deeper (envOfC x (defScope st) s.heap.objs.size f cdv)) → sp vs H Q E →
      ∃ t, PSs (cxOf CX0 P w K mg base N x (defScope st) f cdv A outer s H E).nox (defBody st) t ∧ t { nx := fun _ H' => Q .non H', rt := Q } (start N vs) H) : Df P w K mg base CX0 (lv + 1) x ps sp := by
  obtain ⟨f, fd, F, hb, hm⟩ := B
  exact ⟨f, fd, F.ok S len fun cdv A outer s H vs Q E hr h => hbody f cdv A outer s H vs Q E hr h, hb, F.kp, hm⟩
theorem Bn.okX (B : Bn K mg x st ps) (S : FnScope N ps (defScope st)) (len : ∀ vs H Q E, sp vs H Q E → vs.length = ps.length)
    (hbody : ∀ (f : Addr) (cdv : Value) (A : Around) (outer : List Env) (s : Shared) (H : Hp) (vs : List V) (Q : VK) (E : XK), Room lv (A.deeper (envOfC x (defScope st) s.heap.objs.size f cdv)) → sp vs H Q E →
      ∃ t, PSs (cxOf (L2.CX P w) P w K mg base N x (defScope st) f cdv A outer s H E) (defBody st) t ∧ t { nx := fun _ H' => Q .non H', rt := Q } (start N vs) H) : Df P w K mg base (L2.CX P w) (lv + 1) x ps sp := by
  obtain ⟨f, fd, F, hb, hm⟩ := B
  exact ⟨f, fd, F.okX S len fun cdv A outer s H vs Q E hr h => hbody f cdv A outer s H vs Q E hr h, hb, F.kp, hm⟩
theorem Bn.none (B : Bn K mg x st ps) (no : ∀ vs H Q E, ¬ sp vs H Q E) : Df P w K mg base CX 0 x ps sp := by
  obtain ⟨f, fd, F, hb, hm⟩ := B
  exact ⟨f, fd, none_ok no, hb, F.kp, hm⟩
theorem Bn.rec {sp : Nat → Sp} (B : Bn K mg x st ps) (no : ∀ vs H Q E, ¬ sp 0 vs H Q E) (step : ∀ n, Df P w K mg base CX n x ps (sp n) → Df P w K mg base CX (n + 1) x ps (sp (n + 1))) : ∀ n, Df P w K mg base CX n x ps (sp n)
  | 0 => B.none no
  | n + 1 => step n (Bn.rec B no step n)
/-- .. c levels higher -/
theorem Bn.recK {sp : Nat → Sp} (c : Nat) (B : Bn K mg x st ps) (no : ∀ vs H Q E, ¬ sp 0 vs H Q E) (step : ∀ n, Df P w K mg base CX (n + c) x ps (sp n) → Df P w K mg base CX (n + c + 1) x ps (sp (n + 1))) : ∀ n, Df P w K mg base CX (n + c) x ps (sp n)
  | 0 => (B.none no).mono (Nat.zero_le _)
  | n + 1 => (step n (Bn.recK c B no step n)).mono (by omega)
end
section
variable {X : Cx} {CX : CXT} {lv : Nat} {x : Str} {ps : List Str} {sp : Sp} {E : XK} {e : Expr} {es : List Expr} {t : TA} {p pos : Pos}
theorem pe_df (D : Df X.prog X.w X.K X.mg X.base CX lv x ps sp) (hr : Room lv X.A) (hg : Gl X x) (hx : Passes CX X E)
    (ha : PA X (e :: es) t) (hdb : (x == ("__debug__" : Str)) = false := by decide) (he : starEach (e :: es) X.env = (false, eval e X.env) :: starEach es X.env := by rfl) (hpl : (backTo pos (starEach es X.env)).any (·.1) = false := by rfl) :
    PE X (.Call (.Name x p) (e :: es) [] pos) (tCall sp [] E t) := by
  obtain ⟨f, fd, F, hb, hk, hm⟩ := D
  exact pe_call F hr hg hm hk (Binds.all hb) .nil hx ha hdb he hpl
end

/-- law's own promise, as the walk wants it -/
theorem Bn.law {P : Program} {w : World} {K : PySem.W.Frag} {mg : Str → Option Value} {sp : Sp} {lv : Nat} {fa : Addr} {st : Stmt} {N : List Str} (B : Bn K mg "law" st ["script"]) (hfa : mg "law" = some (.ref fa)) (S : FnScope N ["script"] (defScope st)) (len : ∀ vs H Q E, sp vs H Q E → vs.length = 1)
    (hbody : ∀ (base : Heap) (f : Addr) (cdv : Value) (A : Around) (outer : List Env) (s : Shared) (H : Hp) (vs : List V) (Q : VK) (E : XK), Room lv (A.deeper (envOfC "law" (defScope st) s.heap.objs.size f cdv)) → sp vs H Q E →
      ∃ t, PSs (cxOf CX0 P w K mg base N "law" (defScope st) f cdv A outer s H E).nox (defBody st) t ∧ t { nx := fun _ H' => Q .non H', rt := Q } (start N vs) H) :
    ∃ fd : FuncData, (∀ (s : Shared) (u : Value), BindsTo s fd ⟨[u], []⟩ [("script", u)]) ∧ ∀ base : Heap, K.In base → base.Ns mainGlobals mg → FnOk P w K mg base CX0 (lv + 1) fa fd ["script"] sp := by
  obtain ⟨f, fd, F, hb, hm⟩ := B
  rw [hfa] at hm; cases hm
  exact ⟨fd, fun s u => .of_eq (hb [u] rfl), fun base _ _ => F.ok S len fun cdv A outer s H vs Q E hr h => hbody base _ cdv A outer s H vs Q E hr h⟩
/-! ### forms -/
inductive Fm where
  | gap (n : Int)
  | tie (w : Str) (ps : List Fm)
mutual
def Fm.d : Fm → PyData
  | .gap n => .tuple [.str "gap", .int n]
  | .tie w ps => .tuple [.str "tie", .str w, .tuple (Fm.dL ps)]
def Fm.dL : List Fm → List PyData
  | [] => []
  | f :: fs => f.d :: Fm.dL fs
end
theorem Fm.dL_map : ∀ fs : List Fm, Fm.dL fs = fs.map Fm.d
  | [] => rfl
  | f :: fs => by rw [Fm.dL, Fm.dL_map fs]; rfl
mutual

def Fm.dep : Fm → Nat
  | .gap _ => 1
  | .tie _ ps => 1 + Fm.depL ps
def Fm.depL : List Fm → Nat
  | [] => 0
  | f :: fs => max f.dep (Fm.depL fs)
end
theorem Fm.dep_pos : ∀ f : Fm, 1 ≤ f.dep
  | .gap _ => Nat.le_refl _
  | .tie _ _ => by simp only [Fm.dep]; omega
theorem Fm.dep_part : ∀ {ps : List Fm} {f : Fm}, f ∈ ps → f.dep ≤ Fm.depL ps
  | g :: ps, f, h => by
    simp only [Fm.depL]
    rcases List.mem_cons.mp h with rfl | h
    · omega
    · have := Fm.dep_part h; omega
theorem Fm.depL_le {ps : List Fm} {n : Nat} (h : ∀ f, f ∈ ps → f.dep ≤ n) : Fm.depL ps ≤ n := by
  induction ps with
  | nil => exact Nat.zero_le _
  | cons g ps ih =>
    simp only [Fm.depL]
    have := h g (by simp)
    have := ih fun f hf => h f (by simp [hf])
    omega
mutual

def Fm.sg : Fm → Nat
  | .gap _ => 1
  | .tie _ ps => 1 + Fm.sgL ps
def Fm.sgL : List Fm → Nat
  | [] => 0
  | f :: fs => f.sg + Fm.sgL fs
end
/-! the words are texts, there are not many parts -/
mutual
def Fm.ok : Fm → Bool
  | .gap _ => true
  | .tie w ps => strOk w && decide (ps.length ≤ 200) && Fm.okL ps
def Fm.okL : List Fm → Bool
  | [] => true
  | f :: fs => f.ok && Fm.okL fs
end

theorem Fm.ok_part : ∀ {fs : List Fm} {f : Fm}, Fm.okL fs = true → f ∈ fs → f.ok = true
  | g :: fs, f, h, m => by
    simp only [Fm.okL, Bool.and_eq_true] at h
    rcases List.mem_cons.mp m with rfl | m
    · exact h.1
    · exact Fm.ok_part h.2 m
theorem Fm.okL_of : ∀ {fs : List Fm}, (∀ f, f ∈ fs → f.ok = true) → Fm.okL fs = true
  | [], _ => rfl
  | f :: fs, h => by simp only [Fm.okL, Bool.and_eq_true]; exact ⟨h f (by simp), Fm.okL_of fun g hg => h g (by simp [hg])⟩

mutual
theorem Fm.imm_d : ∀ f : Fm, imm f.d = true
  | .gap _ => rfl
  | .tie w ps => by simp only [Fm.d, imm, immL, Bool.and_eq_true]; exact ⟨trivial, trivial, Fm.imm_dL ps, trivial⟩
theorem Fm.imm_dL : ∀ fs : List Fm, immL (Fm.dL fs) = true
  | [] => rfl
  | f :: fs => by simp only [Fm.dL, immL, Bool.and_eq_true]; exact ⟨Fm.imm_d f, Fm.imm_dL fs⟩
end
theorem Fm.immL_d {fs : List Fm} : immL (fs.map Fm.d) = true := by rw [← Fm.dL_map]; exact Fm.imm_dL fs
theorem strOk_gap : strOk ("gap" : Str) = true := by decide +kernel
theorem strOk_tie : strOk ("tie" : Str) = true := by decide +kernel
mutual
theorem Fm.lay : ∀ f : Fm, f.ok = true → f.d.canLay0 = true
  | .gap _, _ => by simp only [Fm.d, canLay0, canLayAll0, Bool.and_eq_true]; exact ⟨strOk_gap, trivial, trivial⟩
  | .tie w ps, h => by
    simp only [Fm.ok, Bool.and_eq_true] at h
    simp only [Fm.d, canLay0, canLayAll0, Bool.and_eq_true]
    exact ⟨strOk_tie, h.1.1, Fm.layL ps h.2, trivial⟩
theorem Fm.layL : ∀ fs : List Fm, Fm.okL fs = true → canLayAll0 (Fm.dL fs) = true
  | [], _ => rfl
  | f :: fs, h => by
    simp only [Fm.okL, Bool.and_eq_true] at h
    simp only [Fm.dL, canLayAll0, Bool.and_eq_true]
    exact ⟨Fm.lay f h.1, Fm.layL fs h.2⟩
end
mutual
theorem Fm.depth_d : ∀ f : Fm, f.d.depth ≤ 2 * f.dep
  | .gap _ => by simp [Fm.d, depth, depthAll, Fm.dep]
  | .tie w ps => by
    have := Fm.depth_dL ps
    simp only [Fm.d, depth, depthAll, Fm.dep]
    omega
theorem Fm.depth_dL : ∀ fs : List Fm, depthAll (Fm.dL fs) ≤ 2 * Fm.depL fs
  | [] => by simp [Fm.dL, depthAll]
  | f :: fs => by
    have := Fm.depth_d f
    have := Fm.depth_dL fs
    simp only [Fm.dL, depthAll, Fm.depL]
    omega
end
theorem Fm.okD {f : Fm} (h : f.ok = true) (hd : f.dep ≤ 95) : okD f.d = true := by
  unfold Fx.okD
  rw [Bool.and_eq_true]
  exact ⟨f.lay h, decide_eq_true (by have := f.depth_d; omega)⟩
theorem str_beq {x y : Str} : (x == y) = decide (x = y) := rfl
mutual
theorem Fm.eqv_iff : ∀ f g : Fm, f.d.eqv g.d = true ↔ f = g
  | .gap i, .gap j => by
    simp [Fm.d, eqv, eqvAll]
  | .gap i, .tie w ps => by simp [Fm.d, eqv, eqvAll]
  | .tie w ps, .gap j => by simp [Fm.d, eqv, eqvAll]
  | .tie w ps, .tie w' qs => by
    simp [Fm.d, eqv, eqvAll, Fm.eqv_iffL ps qs]
theorem Fm.eqv_iffL : ∀ fs gs : List Fm, eqvAll (Fm.dL fs) (Fm.dL gs) = true ↔ fs = gs
  | [], [] => by simp [Fm.dL, eqvAll]
  | [], g :: gs => by simp [Fm.dL, eqvAll]
  | f :: fs, [] => by simp [Fm.dL, eqvAll]
  | f :: fs, g :: gs => by simp [Fm.dL, eqvAll, Fm.eqv_iff f g, Fm.eqv_iffL fs gs]
end
instance : DecidableEq Fm := fun a b => if h : a.d.eqv b.d = true then .isTrue ((Fm.eqv_iff a b).mp h) else .isFalse fun e => h ((Fm.eqv_iff a b).mpr e)
theorem Fm.eqv {f g : Fm} : f.d.eqv g.d = decide (f = g) := by
  by_cases h : f = g
  · rw [decide_eq_true h]; exact (Fm.eqv_iff f g).mpr h
  · rw [decide_eq_false h]; exact Bool.eq_false_iff.mpr fun e => h ((Fm.eqv_iff f g).mp e)
end Fx
/-! FxE: isinstance of data; numbers; what a script is. -/
namespace Fx
open PySem L2 PySem.Spec PyProof.Rows PySem.PyData

/-- the type of data -/
def tyN : PyData → String
  | .none => "NoneType"
  | .bool _ => "bool"
  | .int _ => "int"
  | .str _ => "str"
  | .list _ => "list"
  | .tuple _ => "tuple"
  | .dict _ => "dict"
theorem tyX_of {K : PySem.W.Frag} {H : Hp} {d : PyData} {v : V} (h : Rp H d v) : TyX K H v (.type (tyN d)) := by
  cases d with
  | none => rw [show v = V.non from h]; exact .base .non
  | bool b => rw [show v = V.bl b from h]; exact .base (.bl b)
  | int i => rw [show v = V.int i from h]; exact .base (.int i)
  | str s => rw [show v = V.str s from h]; exact .base (.str s)
  | list ds => obtain ⟨a, xs, rfl, ha, _⟩ := h; exact .base (.lst ha)
  | tuple ds => obtain ⟨a, xs, rfl, ha, _⟩ := h; exact .base (.tup ha)
  | dict ds =>
    obtain ⟨a, xs, rfl, ha, _⟩ := h
    rcases ha with ha | ⟨o, ha⟩
    · exact .base (.dK ha)
    · exact .fDict ha
/-- isinstance, by the types' names -/
def isN (a b : String) : Bool := a == b || (a == "bool" && b == "int")
theorem kit_isN {K : PySem.W.Frag} (d : PyData) {b : String} (hb : b = "tuple" ∨ b = "int" ∨ b = "str" ∨ b = "bool" ∨ b = "dict" ∨ b = "list") : PySem.W.kitOne K (.type (tyN d)) (.type b) = some (isN (tyN d) b) := by
  cases d <;> (simp only [tyN]; rcases hb with rfl | rfl | rfl | rfl | rfl | rfl) <;> exact kit_ty (by decide +kernel)
theorem ev_isi {K : PySem.W.Frag} {σ : L2.St} {H : Hp} {ta : TE} {d : PyData} {b : String} (h : EvD ta σ H d) (hb : b = "tuple" ∨ b = "int" ∨ b = "str" ∨ b = "bool" ∨ b = "dict" ∨ b = "list" := by simp) :
    EvD (tCB (rIsi K) (tCons ta (tCons (tC (.ty b)) tNil))) σ H (.bool (isN (tyN d) b)) := fun H1 s Q q => h H1 s _ fun v H2 s2 r =>
  ⟨v, .ty b, _, _, _, rfl, .ty b, tyX_of r, kit_isN d hb, q _ H2 s2 rfl⟩

/-! ### numbers -/
section
variable {K : PySem.W.Frag} {σ : L2.St} {H : Hp} {ta tb : TE} {i j : Int} {r : R2}
theorem ev_add (ha : EvD ta σ H (.int i)) (hb : EvD tb σ H (.int j)) : EvD (tOp (rI0 fun i j => .int (i + j)) ta tb) σ H (.int (i + j)) := ev_op ha hb (od_I0 fun _ => rfl)
theorem ev_sub (ha : EvD ta σ H (.int i)) (hb : EvD tb σ H (.int j)) : EvD (tOp (rI0 fun i j => .int (i - j)) ta tb) σ H (.int (i - j)) := ev_op ha hb (od_I0 fun _ => rfl)
theorem ev_lt (ha : EvD ta σ H (.int i)) (hb : EvD tb σ H (.int j)) : EvD (tOp (rI0 fun i j => .bl (decide (i < j))) ta tb) σ H (.bool (decide (i < j))) := ev_op ha hb (od_I0 fun _ => rfl)
theorem ev_gt (ha : EvD ta σ H (.int i)) (hb : EvD tb σ H (.int j)) : EvD (tOp (rI0 fun i j => .bl (decide (j < i))) ta tb) σ H (.bool (decide (j < i))) := ev_op ha hb (od_I0 fun _ => rfl)
theorem ev_le (ha : EvD ta σ H (.int i)) (hb : EvD tb σ H (.int j)) : EvD (tOp (rI0 fun i j => .bl (decide (i ≤ j))) ta tb) σ H (.bool (decide (i ≤ j))) := ev_op ha hb (od_I0 fun _ => rfl)
theorem ev_ge (ha : EvD ta σ H (.int i)) (hb : EvD tb σ H (.int j)) : EvD (tOp (rI0 fun i j => .bl (decide (j ≤ i))) ta tb) σ H (.bool (decide (j ≤ i))) := ev_op ha hb (od_I0 fun _ => rfl)
theorem ev_mul (ha : EvD ta σ H (.int i)) (hb : EvD tb σ H (.int j)) (h : CMul i j) : EvD (tOp (rI CMul fun i j => .int (i * j)) ta tb) σ H (.int (i * j)) := ev_op ha hb (od_I h fun _ => rfl)
theorem ev_div (ha : EvD ta σ H (.int i)) (hb : EvD tb σ H (.int j)) (h : 0 < j ∧ j < 1073741824) : EvD (tOp (rI CDivN fun i j => .int (i.fdiv j)) ta tb) σ H (.int (i / j)) :=
  (ev_op ha hb (od_I (f := .int (i.fdiv j)) (C := CDivN) (g := fun i j => .int (i.fdiv j)) ⟨by omega, by omega⟩ fun _ => rfl)).to (by rw [Int.fdiv_eq_ediv_of_nonneg _ (by omega)])
theorem ev_mod (ha : EvD ta σ H (.int i)) (hb : EvD tb σ H (.int j)) (h : 0 < j) : EvD (tOp (rI (fun _ j => j ≠ 0) fun i j => .int (i.fmod j)) ta tb) σ H (.int (i % j)) :=
  (ev_op ha hb (od_I (f := .int (i.fmod j)) (C := fun _ j => j ≠ 0) (g := fun i j => .int (i.fmod j)) (by omega) fun _ => rfl)).to (by rw [Int.fmod_eq_emod_of_nonneg _ (by omega)])
theorem ev_eq {d e : PyData} (ha : EvD ta σ H d) (hb : EvD tb σ H e) (h1 : okD d = true) (h2 : okD e = true) : EvD (tOp rEqP ta tb) σ H (.bool (d.eqv e)) := ev_op ha hb (od_eqP h1 h2)
theorem ev_ne {d e : PyData} (ha : EvD ta σ H d) (hb : EvD tb σ H e) (h1 : okD d = true) (h2 : okD e = true) : EvD (tOp rNeP ta tb) σ H (.bool (!d.eqv e)) := ev_op ha hb (od_neP h1 h2)
theorem ev_ixT {ds : List PyData} {d : PyData} (ha : EvD ta σ H (.tuple ds)) (hb : EvD tb σ H (.int i)) (e : atI ds i = some d) : EvD (tOp (rIxT K) ta tb) σ H d := ev_op ha hb (od_ixT e)
theorem ev_ixL {ds : List PyData} {d : PyData} (ha : EvD ta σ H (.list ds)) (hb : EvD tb σ H (.int i)) (e : atI ds i = some d) : EvD (tOp (rIxL K) ta tb) σ H d := ev_op ha hb (od_ixL e)
end
theorem okD_int (i : Int) : okD (.int i) = true := rfl
theorem okD_bool (b : Bool) : okD (.bool b) = true := rfl
theorem okD_none : okD .none = true := rfl
theorem okD_str {s : Str} (h : strOk s = true) : okD (.str s) = true := by
  unfold okD; rw [Bool.and_eq_true]; exact ⟨h, decide_eq_true (Nat.zero_le _)⟩
theorem okD_gap : okD (.str "gap") = true := okD_str strOk_gap
theorem okD_tie : okD (.str "tie") = true := okD_str strOk_tie

/-! ### parts of a form -/
def Fm.tag : Fm → Str
  | .gap _ => "gap"
  | .tie _ _ => "tie"
def Fm.isGap : Fm → Bool
  | .gap _ => true
  | .tie _ _ => false
theorem k_gg : PyData.eqv (.str "gap") (.str "gap") = true := by decide +kernel
theorem k_tg : PyData.eqv (.str "tie") (.str "gap") = false := by decide +kernel
theorem k_gt : PyData.eqv (.str "gap") (.str "tie") = false := by decide +kernel
theorem k_tt : PyData.eqv (.str "tie") (.str "tie") = true := by decide +kernel
def Fm.snd : Fm → PyData
  | .gap n => .int n
  | .tie w _ => .str w
theorem okD_tag (f : Fm) : okD (.str f.tag) = true := by cases f; exact okD_gap; exact okD_tie
section
variable {K : PySem.W.Frag} {σ : L2.St} {H : Hp} {ta tb : TE} {w : Str} {ps : List Fm} {n : Int} {f : Fm}
theorem ev_f0 (h : EvD ta σ H f.d) : EvD (tOp (rIxT K) ta (tC (.int 0))) σ H (.str f.tag) := by
  cases f <;> exact ev_ixT h ev_int rfl
theorem ev_f1 (h : EvD ta σ H f.d) : EvD (tOp (rIxT K) ta (tC (.int 1))) σ H f.snd := by
  cases f <;> exact ev_ixT h ev_int rfl
theorem ev_f2 (h : EvD ta σ H (Fm.tie w ps).d) : EvD (tOp (rIxT K) ta (tC (.int 2))) σ H (.tuple (ps.map Fm.d)) := by
  rw [← Fm.dL_map]; exact ev_ixT h ev_int rfl
/-- form[0] == "gap" -/
theorem ev_isgap (h : EvD ta σ H (.str f.tag)) : EvD (tOp rEqP ta (tC (.str "gap"))) σ H (.bool f.isGap) := by
  refine (ev_eq h ev_str (okD_tag f) okD_gap).to ?_
  cases f
  · exact congrArg PyData.bool k_gg
  · exact congrArg PyData.bool k_tg
theorem ev_nottie (h : EvD ta σ H (.str f.tag)) : EvD (tOp rNeP ta (tC (.str "tie"))) σ H (.bool f.isGap) := by
  refine (ev_ne h ev_str (okD_tag f) okD_tie).to ?_
  cases f
  · exact congrArg (fun b => PyData.bool !b) k_gt
  · exact congrArg (fun b => PyData.bool !b) k_tt
theorem ev_istie (h : EvD ta σ H (.str f.tag)) : EvD (tOp rEqP ta (tC (.str "tie"))) σ H (.bool (!f.isGap)) := by
  refine (ev_eq h ev_str (okD_tag f) okD_tie).to ?_
  cases f
  · exact congrArg PyData.bool k_gt
  · exact congrArg PyData.bool k_tt
end

/-! ### the script -/
/-- len(script), script[k] -/
theorem ev_lenScript {K : PySem.W.Frag} {σ : L2.St} {H : Hp} {i : Nat} {a : Addr} {ns : List Int} (h : σ[i]? = some (some (.ref a))) (hS : SqL K H a (ns.map V.int)) : EvD (tCB (rLen K) (tCons (tVar i) tNil)) σ H (.int ns.length) := fun H1 s Q q =>
  ⟨.ref a, h, .ref a, ns.length, rfl, .inl ⟨_, s.seq hS, by simp⟩, q _ H1 (Same.refl _) rfl⟩
theorem ev_ixScript {K : PySem.W.Frag} {σ : L2.St} {H : Hp} {i : Nat} {a : Addr} {ns : List Int} {tb : TE} {k n : Int} (h : σ[i]? = some (some (.ref a))) (hS : SqL K H a (ns.map V.int)) (hb : EvD tb σ H (.int k)) (e : atI ns k = some n) :
    EvD (tOp (rIxL K) (tVar i) tb) σ H (.int n) := fun H1 s Q q =>
  ⟨.ref a, h, hb H1 s _ fun y H2 s2 r2 => by
    cases (show y = V.int k from r2)
    refine ⟨a, _, k, .int n, rfl, rfl, (s.trans s2).seq hS, ?_, q _ H2 s2 rfl⟩
    unfold atI at e ⊢
    rw [List.length_map]
    cases z : ixN ns.length k with
    | none => rw [z] at e; cases e
    | some j =>
      rw [z] at e
      show (ns.map V.int)[j]? = _
      rw [List.getElem?_map, show ns[j]? = some n from e]; rfl⟩
def cellAt (ns : List Int) (k : Nat) : Int := ns.getD k 0
/-- _law_cell_at(script, k) -/
def spCell (K : PySem.W.Frag) : Sp := fun vs H Q _ => ∃ (a : Addr) (ns : List Int) (k : Nat), vs = [.ref a, .int k] ∧ SqL K H a (ns.map V.int) ∧ ∀ H', Same H H' → Q (.int (cellAt ns k)) H'
end Fx
/-! FxF: fillings, their mathematics. -/
namespace Fx
open PySem L2 PySem.Spec PyProof.Rows PySem.PyData
abbrev FI := List (Int × Fm)
def imF (m : FI) : IM := m.map fun p => (p.1, p.2.d)
def lk (m : FI) (k : Int) : Option Fm := (m.find? fun p => decide (p.1 = k)).map (·.2)
def pt (m : FI) (k : Int) (f : Fm) : FI := if (m.any fun p => decide (p.1 = k)) then m.map (fun p => if p.1 = k then (p.1, f) else p) else m ++ [(k, f)]
/-- a filling as data -/
def dF (m : FI) : PyData := dI (imF m)
theorem look_imF (m : FI) (k : Int) : look (imF m) k = (lk m k).map Fm.d := by
  induction m with
  | nil => rfl
  | cons p m ih =>
    by_cases e : p.1 = k
    · simp [imF, look, lk, e]
    · have := ih
      simp only [imF, look, lk] at this
      simpa [imF, look, lk, e] using this
theorem putI_imF (m : FI) (k : Int) (f : Fm) : putI (imF m) k f.d = imF (pt m k f) := by
  have ha : ((imF m).any fun p => decide (p.1 = k)) = m.any fun p => decide (p.1 = k) := by
    unfold imF; rw [List.any_map]; rfl
  unfold putI pt
  rw [ha]
  split
  · unfold imF; rw [List.map_map, List.map_map]
    apply List.map_congr_left
    intro p _
    by_cases e : p.1 = k <;> simp [e]
  · unfold imF; simp
mutual

def fill (m : FI) : Fm → Fm
  | .gap k => (lk m k).getD (.gap k)
  | .tie w ps => .tie w (fillL m ps)
def fillL (m : FI) : List Fm → List Fm
  | [] => []
  | f :: fs => fill m f :: fillL m fs
end
theorem fillL_map (m : FI) : ∀ fs : List Fm, fillL m fs = fs.map (fill m)
  | [] => rfl
  | f :: fs => by rw [fillL, fillL_map m fs]; rfl
/-- filled(form, filling) -/
def spFill (n : Nat) : Sp := spP fun ds r => ∃ (f : Fm) (m : FI), ds = [f.d, dF m] ∧ r = (fill m f).d ∧ f.dep ≤ n ∧ f.ok = true
theorem spFill.no : ∀ vs H Q E, ¬ spFill 0 vs H Q E := fun vs H Q E ⟨ds, r, _, ⟨f, m, _, _, hd, _⟩, _⟩ => by have := f.dep_pos; omega
theorem spFill.len {n : Nat} : ∀ vs H Q E, spFill n vs H Q E → vs.length = 2 := spP.len fun ds d ⟨f, m, e, _⟩ => by rw [e]; rfl
end Fx
/-! FxG: drawn forms: what is known of them. -/
namespace Fx
open PySem L2 PySem.Spec PyProof.Rows
/-- all but what stands at p is kept -/
def KB (p : Addr) (H H' : Hp) : Prop := ∀ b o, b ≠ p → H b = some o → H' b = some o
theorem KB.refl {p : Addr} {H : Hp} : KB p H H := fun _ _ _ h => h
theorem KB.trans {p : Addr} {H H1 H2 : Hp} (a : KB p H H1) (b : KB p H1 H2) : KB p H H2 := fun c o n h => b c o n (a c o n h)
theorem KB.of {p : Addr} {H H' : Hp} (s : Same H H') : KB p H H' := fun b o _ h => s b o h
theorem KB.upd {p : Addr} {H : Hp} {o : HO} : KB p H (upd H p o) := fun b u n h => by rw [upd_ne n]; exact h
theorem KB.same {p : Addr} {H H' : Hp} (k : KB p H H') (h : H p = none) : Same H H' := fun b o q => k b o (ne_of_none q h) q
theorem KB.kt {p : Addr} {H H' : Hp} (k : KB p H H') (h : ∀ xs, H p ≠ some (.tup xs)) : KT H H' := fun b xs q => k b _ (fun e => h xs (by rw [← e]; exact q)) q
theorem KB.put {p q : Addr} {H H' : Hp} {o : HO} (k : KB p H H') (h : H q = none) : KB p H (L2.upd H' q o) := fun b u n e => by rw [upd_ne (ne_of_none e h)]; exact k b u n e

def wordsL : List Str := ["a", "ab", "f", "fg"]
mutual

def Fm.gd (many : Int) : Fm → Bool
  | .gap n => decide (0 ≤ n) && decide (n < many)
  | .tie w ps => decide (w ∈ wordsL) && decide (ps.length ≤ 4) && Fm.gdL many ps
def Fm.gdL (many : Int) : List Fm → Bool
  | [] => true
  | f :: fs => f.gd many && Fm.gdL many fs
end
theorem Fm.gd_part {many : Int} : ∀ {fs : List Fm} {f : Fm}, Fm.gdL many fs = true → f ∈ fs → f.gd many = true
  | g :: fs, f, h, m => by
    simp only [Fm.gdL, Bool.and_eq_true] at h
    rcases List.mem_cons.mp m with rfl | m
    · exact h.1
    · exact Fm.gd_part h.2 m
theorem Fm.gdL_of {many : Int} : ∀ {fs : List Fm}, (∀ f, f ∈ fs → f.gd many = true) → Fm.gdL many fs = true
  | [], _ => rfl
  | f :: fs, h => by simp only [Fm.gdL, Bool.and_eq_true]; exact ⟨h f (by simp), Fm.gdL_of fun g hg => h g (by simp [hg])⟩
theorem wordsL_ok : ∀ w, w ∈ wordsL → PyData.strOk w = true := by decide +kernel
mutual
theorem Fm.gd_ok {many : Int} : ∀ {f : Fm}, f.gd many = true → f.ok = true
  | .gap _, _ => rfl
  | .tie w ps, h => by
    simp only [Fm.gd, Bool.and_eq_true, decide_eq_true_eq] at h
    simp only [Fm.ok, Bool.and_eq_true, decide_eq_true_eq]
    exact ⟨⟨wordsL_ok w h.1.1, by omega⟩, Fm.gd_okL h.2⟩
theorem Fm.gd_okL {many : Int} : ∀ {fs : List Fm}, Fm.gdL many fs = true → Fm.okL fs = true
  | [], _ => rfl
  | f :: fs, h => by
    simp only [Fm.gdL, Bool.and_eq_true] at h
    simp only [Fm.okL, Bool.and_eq_true]
    exact ⟨Fm.gd_ok h.1, Fm.gd_okL h.2⟩
end
mutual
theorem Fm.gd_mono {m n : Int} (hmn : m ≤ n) : ∀ {f : Fm}, f.gd m = true → f.gd n = true
  | .gap _, h => by
    simp only [Fm.gd, Bool.and_eq_true, decide_eq_true_eq] at h ⊢
    omega
  | .tie w ps, h => by
    simp only [Fm.gd, Bool.and_eq_true] at h ⊢
    exact ⟨h.1, Fm.gdL_mono hmn h.2⟩
theorem Fm.gdL_mono {m n : Int} (hmn : m ≤ n) : ∀ {fs : List Fm}, Fm.gdL m fs = true → Fm.gdL n fs = true
  | [], _ => rfl
  | f :: fs, h => by
    simp only [Fm.gdL, Bool.and_eq_true] at h ⊢
    exact ⟨Fm.gd_mono hmn h.1, Fm.gdL_mono hmn h.2⟩
end
theorem Fm.sgL_append : ∀ fs gs : List Fm, Fm.sgL (fs ++ gs) = Fm.sgL fs + Fm.sgL gs
  | [], gs => by simp [Fm.sgL]
  | f :: fs, gs => by simp only [List.cons_append, Fm.sgL, Fm.sgL_append fs gs]; omega
/-- _law_form(spot, many, deep): some drawn form; spot[1] counts its signs down -/
def spForm (n : Nat) : Sp := fun vs H Q _ => ∃ (p : Addr) (a b many : Int) (deep : Nat), vs = [.ref p, .int many, .int deep] ∧ H p = some (.lst [.int a, .int b]) ∧ 0 ≤ a ∧ a < 2147483647 ∧ 0 ≤ many ∧ 1 ≤ deep ∧ deep ≤ n ∧
  ∀ (f : Fm) (v : V) (H' : Hp) (a' : Int), KB p H H' → H' p = some (.lst [.int a', .int (b - f.sg)]) → 0 ≤ a' → a' < 2147483647 → Rp H' f.d v → f.gd many = true → f.dep ≤ deep → (b < 5 → f.sg = 1) → (f.sg : Int) ≤ max 1 (b - 4) + 4 * (deep - 1) → Q v H'
theorem spForm.no : ∀ vs H Q E, ¬ spForm 0 vs H Q E := fun vs H Q E ⟨p, a, b, many, deep, _, _, _, _, _, h1, h2, _⟩ => by omega
theorem spForm.len {n : Nat} : ∀ vs H Q E, spForm n vs H Q E → vs.length = 3 := fun vs H Q E ⟨p, a, b, many, deep, e, _⟩ => by rw [e]; rfl
/-- _law_drawn(cell, many, deep) -/
def spDrawn (n : Nat) : Sp := fun vs H Q _ => ∃ (c many : Int) (deep : Nat), vs = [.int c, .int many, .int deep] ∧ 0 ≤ many ∧ 1 ≤ deep ∧ deep ≤ n ∧
  ∀ (f : Fm) (v : V) (H' : Hp), Same H H' → Rp H' f.d v → f.gd many = true → f.dep ≤ deep → (f.sg : Int) ≤ 20 + 4 * (deep - 1) → Q v H'
/-- a drawn filling: its numbers among those, its forms drawn -/
def Drawn (m : FI) (ns : List Int) (many : Int) (deep : Nat) : Prop := (m.map (·.1)).Sublist ns ∧ ∀ p, p ∈ m → p.2.gd many = true ∧ p.2.dep ≤ deep ∧ (p.2.sg : Int) ≤ 20 + 4 * (deep - 1)
def spFilling (n : Nat) : Sp := fun vs H Q _ => ∃ (c many : Int) (ns : List Int) (q : Addr) (deep : Nat), vs = [.int c, .ref q, .int many, .int deep] ∧ H q = some (.lst (ns.map V.int)) ∧ ns.Nodup ∧ ns.length ≤ 100 ∧ 0 ≤ many ∧ 1 ≤ deep ∧ deep ≤ n ∧
  ∀ (m : FI) (p : Addr) (xs : List (Key × V)) (H' : Hp), Same H H' → H p = none → H' p = some (.dK xs) → RpI H' (imF m) xs → Drawn m ns many deep → Q (.ref p) H'
theorem pt_new {m : FI} {k : Int} {f : Fm} (h : ¬ k ∈ m.map (·.1)) : pt m k f = m ++ [(k, f)] := by
  unfold pt
  rw [if_neg]
  intro e
  obtain ⟨p, hp, e⟩ := List.any_eq_true.mp e
  exact h (List.mem_map.mpr ⟨p, hp, of_decide_eq_true e⟩)
theorem imF_app (m n : FI) : imF (m ++ n) = imF m ++ imF n := by simp [imF]

def isWhole : PyData → Bool
  | .int _ => true
  | _ => false
def spWhole : Sp := spP fun ds r => ∃ d, ds = [d] ∧ r = .bool (isWhole d)
theorem spWhole.len : ∀ vs H Q E, spWhole vs H Q E → vs.length = 1 := spP.len fun ds d ⟨f, e, _⟩ => by rw [e]; rfl
/-- _law_is_form(form), asked of a form -/
def spIsForm (n : Nat) : Sp := spP fun ds r => ∃ f : Fm, ds = [f.d] ∧ r = .bool true ∧ f.dep ≤ n ∧ f.ok = true
theorem spIsForm.no : ∀ vs H Q E, ¬ spIsForm 0 vs H Q E := fun vs H Q E ⟨ds, r, _, ⟨f, _, _, hd, _⟩, _⟩ => by have := f.dep_pos; omega
theorem spIsForm.len {n : Nat} : ∀ vs H Q E, spIsForm n vs H Q E → vs.length = 1 := spP.len fun ds d ⟨f, e, _⟩ => by rw [e]; rfl
def Fm.arity : Fm → Nat
  | .gap _ => 2
  | .tie _ _ => 3
theorem Fm.tyN (f : Fm) : Fx.tyN f.d = "tuple" := by cases f <;> rfl
theorem cd_lenF {K : PySem.W.Frag} {f : Fm} : CallD (rLen K) [f.d] (.int f.arity) := by cases f <;> exact cd_lenT
theorem imF_imm (m : FI) : ((imF m).all fun p => imm p.2) = true := by
  rw [List.all_eq_true]
  intro p hp
  obtain ⟨q, _, rfl⟩ := List.mem_map.mp hp
  exact Fm.imm_d _
end Fx
/-! FxH: dicts compared. -/
namespace Fx
open PySem L2 PySem.Spec PyProof.Rows
/-- two dicts of whole numbers to data, compared -/
def hitM (m : IM) (p : Int × PyData) : Bool := match look m p.1 with
  | some e => p.2.eqv e
  | none => false
def deq (m m' : IM) : Bool := (m.length == m'.length) && m.all (hitM m')
def okM (m : IM) : Prop := ∀ p, p ∈ m → okD p.2 = true
def rEqX : R2 := fun x y H Q => ∃ m m' : IM, Rp H (dI m) x ∧ Rp H (dI m') y ∧ okM m ∧ okM m' ∧ Q (.bl (deq m m')) H
def rNeX : R2 := fun x y H Q => ∃ m m' : IM, Rp H (dI m) x ∧ Rp H (dI m') y ∧ okM m ∧ okM m' ∧ Q (.bl (!deq m m')) H
theorem look_mem {m : IM} {k : Int} {d : PyData} (h : look m k = some d) : (k, d) ∈ m := by
  unfold look at h
  obtain ⟨p, hp, rfl⟩ := Option.map_eq_some_iff.mp h
  have e := List.find?_some hp
  have hm := List.mem_of_find?_eq_some hp
  simp only [decide_eq_true_eq] at e
  subst e
  exact hm
section
variable {X : Cx} {pins : List (Addr × Obj)} {σ : L2.St} {H : Hp} {s : Shared}
theorem eqAt_data (I : L2.Inv X pins σ H s) {A : Around} (hu : A.units + 190 < cLine) {d e : PyData} {x y : V} {u v : Value} (hd : okD d = true) (he : okD e = true) (rd : Rp H d x) (re : Rp H e y) (rx : RelV x u) (ry : RelV y v) : SeqAt.EqAt A s u v (PyData.eqv d e) := by
  obtain ⟨as, r1⟩ := Dp.reads I d x u (Rp.dp d x (okD_lay hd) rd) rx
  obtain ⟨bs, r2⟩ := Dp.reads I e y v (Rp.dp e y (okD_lay he) re) ry
  refine SeqAt.eqAt_reads _ _ _ _ _ _ _ _ r1 r2 (okD_lay hd) (okD_lay he) ?_
  have := okD_dep hd
  have := Nat.min_le_left d.depth e.depth
  omega
theorem hits_data (I : L2.Inv X pins σ H s) {A : Around} (hu : A.units + 190 < cLine) {m' : IM} {ls : List (Key × V)} {vb : List (Key × Value)} (rm' : RpI H m' ls) (rb : KV ls vb) (ok' : okM m') : ∀ {m : IM} {ks : List (Key × V)} {va : List (Key × Value)}, RpI H m ks → KV ks va → okM m →
    PySem.W.KeqHits A s vb va (m.all (hitM m'))
  | [], _, va, hm, ra, ok => by
    rw [show _ = [] from hm] at ra
    cases ra
    exact .nil
  | (k, d) :: m, _, va, hm, ra, ok => by
    obtain ⟨x, r, rfl, rd, rm⟩ := hm.inv
    cases ra with
    | @cons p q ps qs h t =>
      obtain ⟨h1, h2⟩ := h
      obtain ⟨key, u⟩ := q
      have hk : (Sum.inl k : Key) = key := h1
      subst hk
      have hv := rb.val (Sum.inl k : Key)
      have ih := hits_data I hu rm' rb ok' rm t fun p hp => ok p (List.mem_cons_of_mem _ hp)
      simp only [List.all_cons]
      rcases RpI.look k rm' with ⟨e, y, e1, e2, e3⟩ | ⟨e1, e2⟩
      · rw [e2] at hv
        obtain ⟨w', hw, rw'⟩ := hv.some_of
        have q : hitM m' (k, d) = d.eqv e := by simp only [hitM, e1]
        rw [q]
        exact .hit hw (eqAt_data I hu (ok (k, d) (List.mem_cons_self)) (ok' _ (look_mem e1)) rd e3 h2 rw') ih
      · rw [e2] at hv
        have q : hitM m' (k, d) = false := by simp only [hitM, e1]
        rw [q, Bool.false_and]
        exact .miss (RelO.none_of hv)
theorem op_eqX (hu : X.A.units + 199 < cLine) : OpR X (compareOp .Eq) rEqX := by
  intro pins s σ H x y v u Q I rx ry h
  obtain ⟨m, m', ⟨a, ks, rfl, ea, ra'⟩, ⟨b, ls, rfl, eb, rb'⟩, ok, ok', q⟩ := h
  obtain rfl : v = Value.ref a := rx
  obtain rfl : u = Value.ref b := ry
  obtain ⟨_, ya, va, ra, da⟩ := dk_rd I.hok ea
  obtain ⟨_, yb, vb, rb, db⟩ := dk_rd I.hok eb
  refine PySem.W.keq_eq (knd := mixKind X.prog X.w) (r := m.all (hitM m')) ya yb da db (by omega) (fun _ => hits_data I (by show X.A.units + 1 + 190 < cLine; omega) rb' rb ok' ra' ra ok) ⟨.bl _, H, I, rfl, ?_⟩
  rw [← ra.length, ← rb.length, RpI.length ra', RpI.length rb']
  exact q
theorem op_neX (hu : X.A.units + 199 < cLine) : OpR X (compareOp .NotEq) rNeX := by
  intro pins s σ H x y v u Q I rx ry h
  obtain ⟨m, m', ⟨a, ks, rfl, ea, ra'⟩, ⟨b, ls, rfl, eb, rb'⟩, ok, ok', q⟩ := h
  obtain rfl : v = Value.ref a := rx
  obtain rfl : u = Value.ref b := ry
  obtain ⟨_, ya, va, ra, da⟩ := dk_rd I.hok ea
  obtain ⟨_, yb, vb, rb, db⟩ := dk_rd I.hok eb
  refine PySem.W.keq_ne (knd := mixKind X.prog X.w) (r := m.all (hitM m')) ya yb da db (by omega) (fun _ => hits_data I (by show X.A.units + 1 + 190 < cLine; omega) rb' rb ok' ra' ra ok) ⟨.bl _, H, I, rfl, ?_⟩
  rw [← ra.length, ← rb.length, RpI.length ra', RpI.length rb']
  exact q
end
theorem ev_eqX {σ : L2.St} {H : Hp} {ta tb : TE} {m m' : IM} (ha : EvD ta σ H (dI m)) (hb : EvD tb σ H (dI m')) (h1 : okM m) (h2 : okM m') : EvD (tOp rEqX ta tb) σ H (.bool (deq m m')) := ev_op ha hb fun H x y hx hy Q q => ⟨m, m', hx, hy, h1, h2, q _ H (Same.refl _) rfl⟩
theorem ev_neX {σ : L2.St} {H : Hp} {ta tb : TE} {m m' : IM} (ha : EvD ta σ H (dI m)) (hb : EvD tb σ H (dI m')) (h1 : okM m) (h2 : okM m') : EvD (tOp rNeX ta tb) σ H (.bool (!deq m m')) := ev_op ha hb fun H x y hx hy Q q => ⟨m, m', hx, hy, h1, h2, q _ H (Same.refl _) rfl⟩
/-! the same of fillings -/
theorem okM_imF {m : FI} (h : ∀ p, p ∈ m → p.2.ok = true ∧ p.2.dep ≤ 95) : okM (imF m) := by
  intro p hp
  obtain ⟨q, hq, rfl⟩ := List.mem_map.mp hp
  exact Fm.okD (h q hq).1 (h q hq).2
theorem lk_mem {m : FI} {k : Int} {f : Fm} (h : lk m k = some f) : (k, f) ∈ m := by
  unfold lk at h
  obtain ⟨p, hp, rfl⟩ := Option.map_eq_some_iff.mp h
  have e := List.find?_some hp
  have hm := List.mem_of_find?_eq_some hp
  simp only [decide_eq_true_eq] at e
  subst e
  exact hm
/-- fillings with the same numbers and forms are the same as dicts -/
theorem deq_imF {m m' : FI} (hl : m.length = m'.length) (h : ∀ p, p ∈ m → lk m' p.1 = some p.2) : deq (imF m) (imF m') = true := by
  unfold deq
  rw [Bool.and_eq_true, beq_iff_eq, List.all_eq_true]
  refine ⟨by simp [imF, hl], fun p hp => ?_⟩
  obtain ⟨q, hq, rfl⟩ := List.mem_map.mp hp
  unfold hitM
  simp only [look_imF, h q hq, Option.map_some]
  exact (Fm.eqv_iff _ _).mpr rfl
theorem lk_self {m : FI} (hn : (m.map (·.1)).Nodup) : ∀ p, p ∈ m → lk m p.1 = some p.2 := by
  induction m with
  | nil => intro p hp; cases hp
  | cons q m ih =>
    intro p hp
    have hn' : (q.1 :: m.map (·.1)).Nodup := hn
    obtain ⟨h1, h2⟩ := List.nodup_cons.mp hn'
    rcases List.mem_cons.mp hp with rfl | hp
    · simp [lk]
    · have ne : ¬ q.1 = p.1 := fun e => h1 (by rw [e]; exact List.mem_map.mpr ⟨p, hp, rfl⟩)
      have := ih h2 p hp
      simpa [lk, ne] using this
/-- what a law's own promise says: True, whatever the script -/
def spLaw (K : PySem.W.Frag) : Sp := fun vs H Q _ => ∃ (a : Addr) (ns : List Int), vs = [.ref a] ∧ SqL K H a (ns.map V.int) ∧ ns.length ≤ 63 ∧ ∀ H', Q (.bl true) H'
theorem spLaw.len {K : PySem.W.Frag} : ∀ vs H Q E, spLaw K vs H Q E → vs.length = 1 := fun vs H Q E ⟨a, ns, e, _⟩ => by rw [e]; rfl
/-- _law_cell_at as data -/
theorem ev_cell {K : PySem.W.Frag} {σ : L2.St} {H : Hp} {i : Nat} {a : Addr} {ns : List Int} {k : Nat} {E : XK} (h : σ[i]? = some (some (.ref a))) (hS : SqL K H a (ns.map V.int)) : EvD (tCall (spCell K) [] E (tCons (tVar i) (tCons (tC (.int k)) tNil))) σ H (.int (cellAt ns k)) := fun H1 s Q q =>
  ⟨.ref a, h, a, ns, k, rfl, s.seq hS, fun H' s' => q _ H' s' rfl⟩
end Fx
/-! FxI: calls of the drawing defs, as statements. -/
namespace Fx
open PySem L2 PySem.Spec PyProof.Rows
section
variable {K : PySem.W.Frag} {σ : L2.St} {H : Hp} {u : TS} {D : Ends} {i n : Nat} {t : TA} {E : XK} {c many : Int} {deep : Nat} {ns : List Int}
theorem w_sdrawn (h : EvA t σ H [.int c, .int many, .int deep]) (hm : 0 ≤ many) (h1 : 1 ≤ deep) (hn : deep ≤ n)
    (q : ∀ (f : Fm) v H1, Same H H1 → Rp H1 f.d v → f.gd many = true → f.dep ≤ deep → (f.sg : Int) ≤ 20 + 4 * (deep - 1) → u D (σ.set i (some v)) H1) : tSeq (tAsg (tCall (spDrawn n) [] E t) (gName i)) u D σ H := by
  refine h H (Same.refl _) _ fun vs H1 s1 rs => ?_
  obtain ⟨v1, _, rfl, r1, v2, _, rfl, r2, v3, _, rfl, r3, rfl⟩ := rs
  cases (show v1 = V.int c from r1)
  cases (show v2 = V.int many from r2)
  cases (show v3 = V.int deep from r3)
  exact ⟨c, many, deep, rfl, hm, h1, hn, fun f v H' s' r gd dp sg => q f v H' (s1.trans s') r gd dp sg⟩
theorem w_sfilling (h : EvA t σ H [.int c, .list (ns.map .int), .int many, .int deep]) (hnd : ns.Nodup) (hl : ns.length ≤ 100) (hm : 0 ≤ many) (h1 : 1 ≤ deep) (hn : deep ≤ n)
    (q : ∀ (m : FI) p xs H1, Same H H1 → H p = none → H1 p = some (.dK xs) → RpI H1 (imF m) xs → Drawn m ns many deep → u D (σ.set i (some (.ref p))) H1) : tSeq (tAsg (tCall (spFilling n) [] E t) (gName i)) u D σ H := by
  refine h H (Same.refl _) _ fun vs H1 s1 rs => ?_
  obtain ⟨v1, _, rfl, r1, v2, _, rfl, r2, v3, _, rfl, r3, v4, _, rfl, r4, rfl⟩ := rs
  cases (show v1 = V.int c from r1)
  cases (show v3 = V.int many from r3)
  cases (show v4 = V.int deep from r4)
  obtain ⟨a, xs, rfl, ha, hx⟩ := r2
  have hx' := RpL.ints_inv hx
  subst hx'
  exact ⟨c, many, ns, a, deep, rfl, ha, hnd, hl, hm, h1, hn, fun m p xs H' s' hp hp' rm dm => q m p xs H' (s1.trans s') (s1.free hp) hp' rm dm⟩
end
/-! small things of drawn fillings -/
theorem Drawn.nodup {m : FI} {ns : List Int} {many : Int} {deep : Nat} (h : Drawn m ns many deep) (hn : ns.Nodup) : (m.map (·.1)).Nodup := hn.sublist h.1
theorem Drawn.okM {m : FI} {ns : List Int} {many : Int} {deep : Nat} (h : Drawn m ns many deep) (hd : deep ≤ 95) : okM (imF m) := okM_imF fun p hp => ⟨Fm.gd_ok (h.2 p hp).1, Nat.le_trans (h.2 p hp).2.1 hd⟩
/-! a form filled is not much deeper -/
mutual
theorem fill_dep {m : FI} {k : Nat} (h : ∀ p, p ∈ m → p.2.dep ≤ k) : ∀ f : Fm, (fill m f).dep ≤ f.dep + k
  | .gap n => by
    rw [fill]
    cases e : lk m n with
    | none => simp only [Option.getD, Fm.dep]; omega
    | some g => simp only [Option.getD, Fm.dep]; have := h _ (lk_mem e); simp only at this; omega
  | .tie w ps => by
    have := fillL_dep h ps
    simp only [fill, Fm.dep]; omega
theorem fillL_dep {m : FI} {k : Nat} (h : ∀ p, p ∈ m → p.2.dep ≤ k) : ∀ fs : List Fm, Fm.depL (fillL m fs) ≤ Fm.depL fs + k
  | [] => by simp [fillL, Fm.depL]
  | f :: fs => by
    have := fill_dep h f
    have := fillL_dep h fs
    simp only [fillL, Fm.depL]; omega
end
theorem fillL_length (m : FI) (fs : List Fm) : (fillL m fs).length = fs.length := by rw [fillL_map, List.length_map]
mutual
theorem fill_ok {m : FI} (h : ∀ p, p ∈ m → p.2.ok = true) : ∀ f : Fm, f.ok = true → (fill m f).ok = true
  | .gap n, _ => by
    rw [fill]
    cases e : lk m n with
    | none => rfl
    | some g => exact h _ (lk_mem e)
  | .tie w ps, hf => by
    simp only [Fm.ok, Bool.and_eq_true, decide_eq_true_eq] at hf
    simp only [fill, Fm.ok, Bool.and_eq_true, decide_eq_true_eq, fillL_length]
    exact ⟨hf.1, fillL_ok h ps hf.2⟩
theorem fillL_ok {m : FI} (h : ∀ p, p ∈ m → p.2.ok = true) : ∀ fs : List Fm, Fm.okL fs = true → Fm.okL (fillL m fs) = true
  | [], _ => rfl
  | f :: fs, hf => by
    simp only [Fm.okL, Bool.and_eq_true] at hf
    simp only [fillL, Fm.okL, Bool.and_eq_true]
    exact ⟨fill_ok h f hf.1, fillL_ok h fs hf.2⟩
end
mutual
theorem fill_nil : ∀ f : Fm, fill [] f = f
  | .gap n => rfl
  | .tie w ps => by rw [fill, fillL_nil ps]
theorem fillL_nil : ∀ fs : List Fm, fillL [] fs = fs
  | [] => rfl
  | f :: fs => by rw [fillL, fill_nil f, fillL_nil fs]
end
theorem Drawn.mem_ok {m : FI} {ns : List Int} {many : Int} {deep : Nat} (h : Drawn m ns many deep) : ∀ p, p ∈ m → p.2.ok = true := fun p hp => Fm.gd_ok (h.2 p hp).1
end Fx
/-! FxJ: gaps, ranks, plain forms: their mathematics, the promises. -/
namespace Fx
open PySem L2 PySem.Spec PyProof.Rows
mutual
def ag : Fm → List Int
  | .gap n => [n]
  | .tie _ ps => agL ps
def agL : List Fm → List Int
  | [] => []
  | f :: fs => ag f ++ agL fs
end
theorem agL_append : ∀ fs gs : List Fm, agL (fs ++ gs) = agL fs ++ agL gs
  | [], gs => rfl
  | f :: fs, gs => by simp [agL, agL_append fs gs]
mutual
theorem ag_len : ∀ f : Fm, (ag f).length ≤ f.sg
  | .gap _ => by simp [ag, Fm.sg]
  | .tie _ ps => by have := agL_len ps; simp only [ag, Fm.sg]; omega
theorem agL_len : ∀ fs : List Fm, (agL fs).length ≤ Fm.sgL fs
  | [] => by simp [agL, Fm.sgL]
  | f :: fs => by have := ag_len f; have := agL_len fs; simp only [agL, Fm.sgL, List.length_append]; omega
end
/-- a number put at the end of a list where it isn't there -/
def ins (l : List Int) (n : Int) : List Int := if n ∈ l then l else l ++ [n]
def insL (l : List Int) (ns : List Int) : List Int := ns.foldl ins l
theorem insL_nil (l : List Int) : insL l [] = l := rfl
theorem insL_cons (l : List Int) (n : Int) (ns : List Int) : insL l (n :: ns) = insL (ins l n) ns := rfl
theorem insL_append (l ns ms : List Int) : insL l (ns ++ ms) = insL (insL l ns) ms := by unfold insL; rw [List.foldl_append]
theorem ins_in {l : List Int} {n : Int} (h : n ∈ l) : ins l n = l := if_pos h
theorem ins_out {l : List Int} {n : Int} (h : ¬ n ∈ l) : ins l n = l ++ [n] := if_neg h
theorem mem_ins {l : List Int} {n m : Int} : m ∈ ins l n ↔ m ∈ l ∨ m = n := by
  unfold ins; split
  · constructor
    · intro h; exact .inl h
    · rintro (h | rfl)
      · exact h
      · assumption
  · simp
theorem mem_insL {ns : List Int} : ∀ {l : List Int} {m : Int}, m ∈ insL l ns ↔ m ∈ l ∨ m ∈ ns := by
  induction ns with
  | nil => intro l m; simp [insL_nil]
  | cons n ns ih => intro l m; rw [insL_cons, ih, mem_ins]; simp [or_assoc]
theorem nodup_ins {l : List Int} {n : Int} (h : l.Nodup) : (ins l n).Nodup := by
  unfold ins; split
  · exact h
  · rename_i hn
    exact nd_snoc h hn
theorem nodup_insL {ns : List Int} : ∀ {l : List Int}, l.Nodup → (insL l ns).Nodup := by
  induction ns with
  | nil => intro l h; exact h
  | cons n ns ih => intro l h; exact ih (nodup_ins h)
theorem insL_all {ns : List Int} : ∀ {l : List Int}, (∀ n, n ∈ ns → n ∈ l) → insL l ns = l := by
  induction ns with
  | nil => intro l _; rfl
  | cons n ns ih => intro l h; rw [insL_cons, ins_in (h n (by simp))]; exact ih fun m hm => h m (by simp [hm])
/-- a list put in with its repeats or without them -/
theorem insL_insL {ns : List Int} : ∀ {k l : List Int}, insL k (insL l ns) = insL (insL k l) ns := by
  induction ns with
  | nil => intro k l; rfl
  | cons n ns ih =>
    intro k l
    rw [insL_cons, insL_cons, ih]
    congr 1
    by_cases h : n ∈ l
    · rw [ins_in h, ins_in (mem_insL.mpr (.inr h))]
    · rw [ins_out h, insL_append]; rfl
theorem insL_len {ns : List Int} : ∀ {l : List Int}, (insL l ns).length ≤ l.length + ns.length := by
  induction ns with
  | nil => intro l; simp [insL_nil]
  | cons n ns ih =>
    intro l
    rw [insL_cons]
    have h : (ins l n).length ≤ l.length + 1 := by unfold ins; split <;> simp
    have := ih (l := ins l n)
    simp only [List.length_cons]; omega
theorem insL_take {ns : List Int} {i : Nat} {n : Int} (h : ns[i]? = some n) : insL [] (ns.take (i + 1)) = ins (insL [] (ns.take i)) n := by
  rw [List.take_add_one, h, insL_append]; rfl
/-- the gaps, each once, in the order in which they first stand -/
def gp (f : Fm) : List Int := insL [] (ag f)
def gpL (fs : List Fm) : List Int := insL [] (agL fs)
theorem gp_nodup (f : Fm) : (gp f).Nodup := nodup_insL List.nodup_nil
theorem mem_gp {f : Fm} {n : Int} : n ∈ gp f ↔ n ∈ ag f := by unfold gp; rw [mem_insL]; simp
theorem gp_len (f : Fm) : (gp f).length ≤ f.sg := by
  have h := insL_len (ns := ag f) (l := [])
  have := ag_len f
  unfold gp; simp at h; omega
theorem gpL_snoc (fs : List Fm) (f : Fm) : gpL (fs ++ [f]) = insL (gpL fs) (gp f) := by
  unfold gpL gp
  rw [agL_append, insL_append, insL_insL, insL_nil]
  simp [agL]
mutual
def rn (r : Int → Int) : Fm → Fm
  | .gap n => .gap (r n)
  | .tie w ps => .tie w (rnL r ps)
def rnL (r : Int → Int) : List Fm → List Fm
  | [] => []
  | f :: fs => rn r f :: rnL r fs
end
theorem rnL_map (r : Int → Int) : ∀ fs : List Fm, rnL r fs = fs.map (rn r)
  | [] => rfl
  | f :: fs => by rw [rnL, rnL_map r fs]; rfl
/-- a gap's place among the gaps -/
def ix (l : List Int) (n : Int) : Int := (l.idxOf n : Int)
/-- the plain form -/
def pl (f : Fm) : Fm := rn (ix (gp f)) f
/-- a list with its places, counted from i -/
def enumF (i : Nat) : List Int → List (Int × Int)
  | [] => []
  | g :: r => (g, (i : Int)) :: enumF (i + 1) r
theorem enumF_snoc : ∀ (l : List Int) (i : Nat) (g : Int), enumF i (l ++ [g]) = enumF i l ++ [(g, ((i + l.length : Nat) : Int))]
  | [], i, g => rfl
  | a :: l, i, g => by
    have := enumF_snoc l (i + 1) g
    simp only [List.cons_append, enumF, this, List.length_cons]
    rw [show i + 1 + l.length = i + (l.length + 1) by omega]
theorem enumF_len : ∀ (l : List Int) (i : Nat), (enumF i l).length = l.length
  | [], _ => rfl
  | a :: l, i => by simp [enumF, enumF_len l]
theorem enumF_keys : ∀ (l : List Int) (i : Nat), (enumF i l).map (·.1) = l
  | [], _ => rfl
  | a :: l, i => by simp [enumF, enumF_keys l]
/-- .. as a dict of whole numbers, as a filling by gaps -/
def numI (m : List (Int × Int)) : IM := m.map fun p => (p.1, .int p.2)
def numG (m : List (Int × Int)) : FI := m.map fun p => (p.1, .gap p.2)
theorem look_numI : ∀ (l : List Int) (i : Nat) (g : Int), g ∈ l → look (numI (enumF i l)) g = some (.int (i + ix l g))
  | a :: l, i, g, h => by
    by_cases e : a = g
    · subst e
      simp [enumF, numI, look, ix]
    · have hg : g ∈ l := by rcases List.mem_cons.mp h with rfl | h; exact absurd rfl e; exact h
      have := look_numI l (i + 1) g hg
      simp only [enumF, numI, look, ix] at this ⊢
      simp only [List.map_cons, List.find?_cons, decide_eq_false e]
      rw [this]
      rw [List.idxOf_cons]
      have : (a == g) = false := by simpa using e
      simp only [this, cond_false]
      congr 2
      omega
theorem lk_numG : ∀ (l : List Int) (i : Nat) (g : Int), g ∈ l → lk (numG (enumF i l)) g = some (.gap (i + ix l g))
  | a :: l, i, g, h => by
    by_cases e : a = g
    · subst e
      simp [enumF, numG, lk, ix]
    · have hg : g ∈ l := by rcases List.mem_cons.mp h with rfl | h; exact absurd rfl e; exact h
      have := lk_numG l (i + 1) g hg
      simp only [enumF, numG, lk, ix] at this ⊢
      simp only [List.map_cons, List.find?_cons, decide_eq_false e]
      rw [this]
      rw [List.idxOf_cons]
      have : (a == g) = false := by simpa using e
      simp only [this, cond_false]
      congr 2
      omega
mutual
theorem fill_num {l : List Int} : ∀ f : Fm, (∀ g, g ∈ ag f → g ∈ l) → fill (numG (enumF 0 l)) f = rn (ix l) f
  | .gap n, h => by
    rw [fill, lk_numG l 0 n (h n (by simp [ag]))]
    simp [rn]
  | .tie w ps, h => by rw [fill, rn, fillL_num ps h]
theorem fillL_num {l : List Int} : ∀ fs : List Fm, (∀ g, g ∈ agL fs → g ∈ l) → fillL (numG (enumF 0 l)) fs = rnL (ix l) fs
  | [], _ => rfl
  | f :: fs, h => by
    rw [fillL, rnL, fill_num f fun g hg => h g (by simp [agL, hg]), fillL_num fs fun g hg => h g (by simp [agL, hg])]
end
theorem fill_plain (f : Fm) : fill (numG (enumF 0 (gp f))) f = pl f := fill_num f fun g hg => mem_gp.mpr hg
mutual
theorem rn_dep (r : Int → Int) : ∀ f : Fm, (rn r f).dep = f.dep
  | .gap _ => rfl
  | .tie _ ps => by simp only [rn, Fm.dep, rnL_dep r ps]
theorem rnL_dep (r : Int → Int) : ∀ fs : List Fm, Fm.depL (rnL r fs) = Fm.depL fs
  | [] => rfl
  | f :: fs => by simp only [rnL, Fm.depL, rn_dep r f, rnL_dep r fs]
end
mutual
theorem rn_sg (r : Int → Int) : ∀ f : Fm, (rn r f).sg = f.sg
  | .gap _ => rfl
  | .tie _ ps => by simp only [rn, Fm.sg, rnL_sg r ps]
theorem rnL_sg (r : Int → Int) : ∀ fs : List Fm, Fm.sgL (rnL r fs) = Fm.sgL fs
  | [] => rfl
  | f :: fs => by simp only [rnL, Fm.sgL, rn_sg r f, rnL_sg r fs]
end
mutual
theorem rn_ok (r : Int → Int) : ∀ f : Fm, (rn r f).ok = f.ok
  | .gap _ => rfl
  | .tie _ ps => by simp only [rn, Fm.ok, rnL_map, List.length_map, ← rnL_ok r ps]
theorem rnL_ok (r : Int → Int) : ∀ fs : List Fm, Fm.okL (rnL r fs) = Fm.okL fs
  | [] => rfl
  | f :: fs => by simp only [rnL, Fm.okL, rn_ok r f, rnL_ok r fs]
end
theorem pl_dep (f : Fm) : (pl f).dep = f.dep := rn_dep _ f
theorem pl_ok (f : Fm) : (pl f).ok = f.ok := rn_ok _ f
theorem pl_sg (f : Fm) : (pl f).sg = f.sg := rn_sg _ f

/-! ### promises: a new list, a new dict -/
def spFL (R : List PyData → List PyData → Prop) : Sp := fun vs H Q _ => ∃ ds es, RpL H ds vs ∧ R ds es ∧ ∀ p xs H', Same H H' → H p = none → H' p = some (.lst xs) → RpL H' es xs → Q (.ref p) H'
theorem spFL.d {R : List PyData → List PyData → Prop} {ds es : List PyData} (h : R ds es) : SpD (spFL R) ds (.list es) := fun H xs hx Q E q => ⟨ds, es, hx, h, fun p ys H' s _ hp hr => q _ H' s ⟨p, ys, rfl, hp, hr⟩⟩
theorem spFL.len {R : List PyData → List PyData → Prop} {n : Nat} (h : ∀ ds d, R ds d → ds.length = n) : ∀ vs H Q E, spFL R vs H Q E → vs.length = n := fun vs H Q E ⟨ds, d, hR, hr, _⟩ => by rw [hR.length, h ds d hr]
/-- evaluates to a new list -/
def EvF (te : TE) (σ : L2.St) (H : Hp) (es : List PyData) : Prop := ∀ H1, Same H H1 → ∀ Q : VK, (∀ p xs H2, Same H1 H2 → H1 p = none → H2 p = some (.lst xs) → RpL H2 es xs → Q (.ref p) H2) → te σ H1 Q
theorem EvF.d {te : TE} {σ : L2.St} {H : Hp} {es : List PyData} (h : EvF te σ H es) : EvD te σ H (.list es) := fun H1 s Q q => h H1 s Q fun p xs H2 s2 _ hp hr => q _ H2 s2 ⟨p, xs, rfl, hp, hr⟩
theorem ef_call {σ : L2.St} {H : Hp} {ds es : List PyData} {R : List PyData → List PyData → Prop} {E : XK} {t : TA} (h : EvA t σ H ds) (hc : R ds es) : EvF (tCall (spFL R) [] E t) σ H es := fun H1 s Q q =>
  h H1 s _ fun vs H2 s2 rs => by
    rw [List.append_nil]
    exact ⟨ds, es, rs, hc, fun p xs H3 s3 hp hp' hr => q p xs H3 (s2.trans s3) (s2.free hp) hp' hr⟩
theorem w_sflist {σ : L2.St} {H : Hp} {te : TE} {i : Nat} {u : TS} {D : Ends} {es : List PyData} (h : EvF te σ H es) (q : ∀ p xs H1, Same H H1 → H p = none → H1 p = some (.lst xs) → RpL H1 es xs → u D (σ.set i (some (.ref p))) H1) : tSeq (tAsg te (gName i)) u D σ H := h H (Same.refl _) _ q

def spAllGaps (n : Nat) : Sp := spFL fun ds es => ∃ f : Fm, ds = [f.d] ∧ es = (ag f).map .int ∧ f.dep ≤ n ∧ f.ok = true ∧ f.sg ≤ 5000
def spGaps (n : Nat) : Sp := spFL fun ds es => ∃ f : Fm, ds = [f.d] ∧ es = (gp f).map .int ∧ f.dep ≤ n ∧ f.ok = true ∧ f.sg ≤ 5000
theorem spAllGaps.no : ∀ vs H Q E, ¬ spAllGaps 0 vs H Q E := fun vs H Q E ⟨ds, es, _, ⟨f, _, _, hd, _⟩, _⟩ => by have := f.dep_pos; omega
theorem spGaps.no : ∀ vs H Q E, ¬ spGaps 0 vs H Q E := fun vs H Q E ⟨ds, es, _, ⟨f, _, _, hd, _⟩, _⟩ => by have := f.dep_pos; omega
theorem spAllGaps.len {n : Nat} : ∀ vs H Q E, spAllGaps n vs H Q E → vs.length = 1 := spFL.len fun ds d ⟨f, e, _⟩ => by rw [e]; rfl
theorem spGaps.len {n : Nat} : ∀ vs H Q E, spGaps n vs H Q E → vs.length = 1 := spFL.len fun ds d ⟨f, e, _⟩ => by rw [e]; rfl
def spSigns (n : Nat) : Sp := spP fun ds r => ∃ f : Fm, ds = [f.d] ∧ r = .int f.sg ∧ f.dep ≤ n ∧ f.ok = true
theorem spSigns.no : ∀ vs H Q E, ¬ spSigns 0 vs H Q E := fun vs H Q E ⟨ds, r, _, ⟨f, _, _, hd, _⟩, _⟩ => by have := f.dep_pos; omega
theorem spSigns.len {n : Nat} : ∀ vs H Q E, spSigns n vs H Q E → vs.length = 1 := spP.len fun ds d ⟨f, e, _⟩ => by rw [e]; rfl
def Fm.parts : Fm → List Fm
  | .gap _ => []
  | .tie _ ps => ps
def spParts : Sp := spP fun ds r => ∃ f : Fm, ds = [f.d] ∧ r = .tuple (Fm.dL f.parts)
theorem spParts.len : ∀ vs H Q E, spParts vs H Q E → vs.length = 1 := spP.len fun ds d ⟨f, e, _⟩ => by rw [e]; rfl
/-- rank(form) -/
def rk (f : Fm) : Int := (f.sg : Int) - (gp f).length
def spRank (n : Nat) : Sp := spP fun ds r => ∃ f : Fm, ds = [f.d] ∧ r = .int (rk f) ∧ f.dep ≤ n ∧ f.ok = true ∧ f.sg ≤ 5000
theorem spRank.len {n : Nat} : ∀ vs H Q E, spRank n vs H Q E → vs.length = 1 := spP.len fun ds d ⟨f, e, _⟩ => by rw [e]; rfl
/-- renamed(form, names) -/
def spRen (n : Nat) : Sp := spP fun ds r => ∃ (f : Fm) (m : IM) (ρ : Int → Int), ds = [f.d, dI m] ∧ r = (rn ρ f).d ∧ f.dep ≤ n ∧ f.ok = true ∧ ∀ g, g ∈ ag f → look m g = some (.int (ρ g))
theorem spRen.no : ∀ vs H Q E, ¬ spRen 0 vs H Q E := fun vs H Q E ⟨ds, r, _, ⟨f, m, ρ, _, _, hd, _⟩, _⟩ => by have := f.dep_pos; omega
theorem spRen.len {n : Nat} : ∀ vs H Q E, spRen n vs H Q E → vs.length = 2 := spP.len fun ds d ⟨f, m, ρ, e, _⟩ => by rw [e]; rfl
def spPlain (n : Nat) : Sp := spP fun ds r => ∃ f : Fm, ds = [f.d] ∧ r = (pl f).d ∧ f.dep ≤ n ∧ f.ok = true ∧ f.sg ≤ 5000
theorem spPlain.len {n : Nat} : ∀ vs H Q E, spPlain n vs H Q E → vs.length = 1 := spP.len fun ds d ⟨f, e, _⟩ => by rw [e]; rfl
def spAlike (n : Nat) : Sp := spP fun ds r => ∃ f g : Fm, ds = [f.d, g.d] ∧ r = .bool (decide (pl f = pl g)) ∧ f.dep ≤ n ∧ f.ok = true ∧ f.sg ≤ 5000 ∧ g.dep ≤ n ∧ g.ok = true ∧ g.sg ≤ 5000
theorem spAlike.len {n : Nat} : ∀ vs H Q E, spAlike n vs H Q E → vs.length = 2 := spP.len fun ds d ⟨f, g, e, _⟩ => by rw [e]; rfl
/-! x not in a list of whole numbers -/
theorem any_int (ns : List Int) (n : Int) : ((ns.map PyData.int).any fun z => PyData.eqv z (.int n)) = decide (n ∈ ns) := by
  induction ns with
  | nil => rfl
  | cons a ns ih =>
    simp only [List.map_cons, List.any_cons, ih, PyData.eqv]
    by_cases e : a = n
    · subst e; simp
    · have : ¬ n = a := fun h => e h.symm
      simp [e, this]
theorem lay_ints : ∀ ns : List Int, PyData.canLayAll0 (ns.map PyData.int) = true
  | [] => rfl
  | n :: ns => by simp only [List.map_cons, PyData.canLayAll0, lay_ints ns]; rfl
theorem dep_ints : ∀ ns : List Int, PyData.depthAll (ns.map PyData.int) = 0
  | [] => rfl
  | n :: ns => by simp only [List.map_cons, PyData.depthAll, dep_ints ns]; rfl
theorem shaped_ints (ns : List Int) : SeqAt.shaped (.list (ns.map PyData.int)) = true := by
  unfold SeqAt.shaped
  rw [Bool.and_eq_true]
  refine ⟨lay_ints ns, decide_eq_true ?_⟩
  simp only [PyData.depth, dep_ints]
  omega
theorem okD_ints (ns : List Int) : okD (.list (ns.map PyData.int)) = true := by
  unfold okD
  rw [Bool.and_eq_true]
  refine ⟨lay_ints ns, decide_eq_true ?_⟩
  simp only [PyData.depth, dep_ints]
  omega
theorem ev_inL {K : PySem.W.Frag} {σ : L2.St} {H : Hp} {ta tb : TE} {d : PyData} {ds : List PyData} (ha : EvD ta σ H d) (hb : EvD tb σ H (.list ds)) (h1 : SeqAt.shaped d = true) (h2 : SeqAt.shaped (.list ds) = true) : EvD (tOp (rInD K) ta tb) σ H (.bool (ds.any fun z => PyData.eqv z d)) := ev_op ha hb fun H x y hx hy Q q =>
  ⟨d, ds, Rp.dp d x (Bool.and_eq_true_iff.mp h1).1 hx, Rp.dp _ y (Bool.and_eq_true_iff.mp h2).1 hy, h1, h2, q _ H (Same.refl _) rfl⟩
theorem ev_ninL {K : PySem.W.Frag} {σ : L2.St} {H : Hp} {ta tb : TE} {d : PyData} {ds : List PyData} (ha : EvD ta σ H d) (hb : EvD tb σ H (.list ds)) (h1 : SeqAt.shaped d = true) (h2 : SeqAt.shaped (.list ds) = true) : EvD (tOp (rNotInD K) ta tb) σ H (.bool (!ds.any fun z => PyData.eqv z d)) := ev_op ha hb fun H x y hx hy Q q =>
  ⟨d, ds, Rp.dp d x (Bool.and_eq_true_iff.mp h1).1 hx, Rp.dp _ y (Bool.and_eq_true_iff.mp h2).1 hy, h1, h2, q _ H (Same.refl _) rfl⟩
theorem shaped_int (n : Int) : SeqAt.shaped (.int n) = true := rfl
theorem ev_inI {K : PySem.W.Frag} {σ : L2.St} {H : Hp} {ta tb : TE} {n : Int} {ns : List Int} (ha : EvD ta σ H (.int n)) (hb : EvD tb σ H (.list (ns.map .int))) : EvD (tOp (rInD K) ta tb) σ H (.bool (decide (n ∈ ns))) := (ev_inL ha hb (shaped_int n) (shaped_ints ns)).to (by rw [any_int])
theorem ev_ninI {K : PySem.W.Frag} {σ : L2.St} {H : Hp} {ta tb : TE} {n : Int} {ns : List Int} (ha : EvD ta σ H (.int n)) (hb : EvD tb σ H (.list (ns.map .int))) : EvD (tOp (rNotInD K) ta tb) σ H (.bool (!decide (n ∈ ns))) := (ev_ninL ha hb (shaped_int n) (shaped_ints ns)).to (by rw [any_int])

theorem sgL_sum : ∀ fs : List Fm, ((Fm.sgL fs : Nat) : Int) = (fs.map fun g => (g.sg : Int)).sum
  | [] => rfl
  | f :: fs => by simp only [Fm.sgL, List.map_cons, List.sum_cons, ← sgL_sum fs]; omega
theorem Fm.sg_part : ∀ {fs : List Fm} {f : Fm}, f ∈ fs → f.sg ≤ Fm.sgL fs
  | g :: fs, f, h => by
    simp only [Fm.sgL]
    rcases List.mem_cons.mp h with rfl | h
    · omega
    · have := Fm.sg_part h; omega
theorem ag_part {w : Str} : ∀ {fs : List Fm} {f : Fm} {g : Int}, f ∈ fs → g ∈ ag f → g ∈ ag (.tie w fs)
  | h :: fs, f, g, hf, hg => by
    simp only [ag, agL, List.mem_append]
    rcases List.mem_cons.mp hf with rfl | hf
    · exact .inl hg
    · exact .inr (by have := ag_part (w := w) hf hg; simpa [ag] using this)
theorem putI_true {l : List Int} {k : Int} : putI (l.map fun k => (k, PyData.bool true)) k (.bool true) = (ins l k).map fun k => (k, .bool true) := by
  unfold putI ins
  have ha : ((l.map fun k => (k, PyData.bool true)).any fun p => decide (p.1 = k)) = decide (k ∈ l) := by
    rw [List.any_map]
    by_cases h : k ∈ l
    · rw [decide_eq_true h]
      exact List.any_eq_true.mpr ⟨k, h, by simp⟩
    · rw [decide_eq_false h]
      refine Bool.eq_false_iff.mpr fun z => ?_
      obtain ⟨j, hj, e⟩ := List.any_eq_true.mp z
      simp at e
      subst e
      exact h hj
  rw [ha]
  by_cases h : k ∈ l
  · rw [if_pos (by simpa using h), if_pos h, List.map_map]
    apply List.map_congr_left
    intro j _
    by_cases e : j = k <;> simp [e]
  · rw [if_neg (by simpa using h), if_neg h, List.map_append]; rfl
theorem putI_num {l : List Int} {k : Int} (h : ¬ k ∈ l) : putI (numI (enumF 0 l)) k (.int l.length) = numI (enumF 0 (l ++ [k])) := by
  unfold putI
  have hk : ((numI (enumF 0 l)).any fun p => decide (p.1 = k)) = false := by
    refine Bool.eq_false_iff.mpr fun z => ?_
    obtain ⟨p, hp, e⟩ := List.any_eq_true.mp z
    obtain ⟨q, hq, rfl⟩ := List.mem_map.mp hp
    have : q.1 ∈ l := by rw [← enumF_keys l 0]; exact List.mem_map.mpr ⟨q, hq, rfl⟩
    simp only [decide_eq_true_eq] at e
    rw [← e] at h
    exact h this
  rw [if_neg (by rw [hk]; exact Bool.false_ne_true), enumF_snoc]
  simp [numI]
/-- len of a dict -/
def rLenD : List V → Hp → VK → Prop := fun xs H Q => ∃ a kvs, xs = [V.ref a] ∧ H a = some (.dK kvs) ∧ Q (.int kvs.length) H
theorem cr_lenD {X : Cx} : CallR X (.builtin "len") rLenD := call_lenD
theorem ev_lenD {σ : L2.St} {H : Hp} {i : Nat} {m : IM} {a : Addr} {ys : List (Key × V)} (h : EvD (tVar i) σ H (dI m)) (ha : H a = some (.dK ys)) (hv : σ[i]? = some (some (.ref a)) := by rfl) (hr : RpI H m ys := by assumption) : EvD (tCB rLenD (tCons (tVar i) tNil)) σ H (.int m.length) := fun H1 s Q q =>
  ⟨.ref a, hv, a, ys, rfl, s _ _ ha, q _ H1 (Same.refl _) (by rw [RpI.length hr]; rfl)⟩
end Fx
/-! FxK: more statements; named forms. -/
namespace Fx
open PySem L2 PySem.Spec PyProof.Rows
section
variable {K : PySem.W.Frag} {σ : L2.St} {H : Hp} {te : TE} {ds : List PyData}
/-- over a new list -/
theorem w_for_flist {g : TG} {tb : TS} {D : Ends} (h : EvF te σ H ds) (body : ∀ H1 a xs, Same H H1 → H a = none → H1 a = some (.lst xs) → RpL H1 ds xs → ∃ Pv : Nat → L2.St → Hp → Prop, Pv 0 σ H1 ∧ (∀ i σ' H', Pv i σ' H' → H' a = some (.lst xs)) ∧
      (∀ i d x σ' H', ds[i]? = some d → xs[i]? = some x → Pv i σ' H' → g x σ' H' fun σ2 H3 => tb { D with nx := Pv (i + 1), ct := Pv (i + 1), bk := D.nx } σ2 H3) ∧
      (∀ σ' H', Pv ds.length σ' H' → D.nx σ' H')) : tFor (iList K te) g tb D σ H := by
  refine h H (Same.refl _) _ fun p xs H2 s2 hn ha hr => ?_
  obtain ⟨Pv, p0, pl, ps, pd⟩ := body H2 p xs s2 hn ha hr
  refine ⟨p, rfl, ⟨xs, .of ha⟩, for_list (K := K) (xs := xs) Pv p0 (fun i σ' H' _ p => .of (pl i σ' H' p)) (fun i x σ' H' ex p => ?_) (fun σ' H' p => pd σ' H' (by rw [← hr.length]; exact p))⟩
  obtain ⟨d, ed, _⟩ := hr.get' ex
  exact ps i d x σ' H' ed ex p
theorem w_sfor_flist {g : TG} {tb u : TS} {D : Ends} (h : EvF te σ H ds) (body : ∀ H1 a xs, Same H H1 → H a = none → H1 a = some (.lst xs) → RpL H1 ds xs → ∃ Pv : Nat → L2.St → Hp → Prop, Pv 0 σ H1 ∧ (∀ i σ' H', Pv i σ' H' → H' a = some (.lst xs)) ∧
      (∀ i d x σ' H', ds[i]? = some d → xs[i]? = some x → Pv i σ' H' → g x σ' H' fun σ2 H3 => tb { D with nx := Pv (i + 1), ct := Pv (i + 1), bk := u D } σ2 H3) ∧
      (∀ σ' H', Pv ds.length σ' H' → u D σ' H')) : tSeq (tFor (iList K te) g tb) u D σ H := w_for_flist (D := { D with nx := u D }) h body
theorem w_sasg {i : Nat} {u : TS} {D : Ends} (h : te σ H fun x H1 => u D (σ.set i (some x)) H1) : tSeq (tAsg te (gName i)) u D σ H := h
/-- what follows is shown once -/
theorem w_cut {t u : TS} {D : Ends} (Pj : L2.St → Hp → Prop) (tail : ∀ σ' H', Pj σ' H' → u D σ' H') (ht : (∀ σ' H', Pj σ' H' → u D σ' H') → t { D with nx := u D } σ H) : tSeq t u D σ H := ht tail
/-- while c: tb, over a state that is told -/
theorem w_swhile {c : TT} {tb u : TS} {D : Ends} (W : Nat → L2.St → Hp → Prop) {m : Nat} (w0 : W m σ H) (hs : ∀ m σ' H', W m σ' H' → ∃ b, EvB c σ' H' b ∧ (b = true → ∀ H1, Same H' H1 → tb { D with nx := fun σ2 H2 => ∃ m', m' < m ∧ W m' σ2 H2, ct := fun σ2 H2 => ∃ m', m' < m ∧ W m' σ2 H2, bk := u D } σ' H1) ∧ (b = false → ∀ H1, Same H' H1 → u D σ' H1)) : tSeq (tWhile c tb) u D σ H := by
  refine ⟨W, ⟨m, w0⟩, fun m σ' H' w => ?_⟩
  obtain ⟨b, hb, h1, h2⟩ := hs m σ' H' w
  refine hb H' (Same.refl _) _ fun H1 s => ?_
  cases b with
  | true => exact iteT ⟨_, fun _ _ n => n, h1 rfl H1 s⟩
  | false => exact iteF (h2 rfl H1 s)
end
/-- pigeons -/
theorem nodup_le : ∀ {l k : List Int}, l.Nodup → (∀ x, x ∈ l → x ∈ k) → l.length ≤ k.length
  | [], _, _, _ => Nat.zero_le _
  | a :: l, k, h, hs => by
    obtain ⟨h1, h2⟩ := List.nodup_cons.mp h
    have ha : a ∈ k := hs a (by simp)
    have := nodup_le (l := l) (k := k.erase a) h2 fun x hx => by
      have : x ≠ a := fun e => h1 (e ▸ hx)
      exact (List.mem_erase_of_ne this).mpr (hs x (by simp [hx]))
    rw [List.length_erase_of_mem ha] at this
    have := List.length_pos_of_mem ha
    simp only [List.length_cons]; omega
theorem free_name {used : List Int} {name : Int} (h0 : 0 ≤ name) (h1 : name < 1000) (hu : used.length < 999) : ∃ j, j ≤ used.length ∧ ¬ (name + (j : Int)) % 1000 ∈ used := by
  refine Classical.byContradiction fun no => ?_
  have all : ∀ j, j ≤ used.length → (name + (j : Int)) % 1000 ∈ used := fun j hj => Classical.byContradiction fun h => no ⟨j, hj, h⟩
  have nd : ((List.range (used.length + 1)).map fun j => (name + ((j : Nat) : Int)) % 1000).Nodup := by
    refine List.nodup_iff_pairwise_ne.mpr ?_
    refine List.pairwise_map.mpr ?_
    refine List.Pairwise.imp_of_mem ?_ (List.nodup_iff_pairwise_ne.mp List.nodup_range)
    intro a b ha hb hab e
    have ha' := List.mem_range.mp ha
    have hb' := List.mem_range.mp hb
    omega
  have := nodup_le nd fun x hx => by
    obtain ⟨j, hj, rfl⟩ := List.mem_map.mp hx
    exact all j (by have := List.mem_range.mp hj; omega)
  simp at this
  omega

mutual
theorem fill_gaps {m : List (Int × Int)} : ∀ f : Fm, (fill (numG m) f).dep = f.dep ∧ (fill (numG m) f).sg = f.sg
  | .gap n => by
    rw [fill]
    cases e : lk (numG m) n with
    | none => exact ⟨rfl, rfl⟩
    | some g =>
      obtain ⟨p, hp, h⟩ := List.mem_map.mp (lk_mem e)
      cases h
      exact ⟨rfl, rfl⟩
  | .tie w ps => by
    obtain ⟨h1, h2⟩ := fillL_gaps (m := m) ps
    simp only [fill, Fm.dep, Fm.sg, h1, h2, and_self]
theorem fillL_gaps {m : List (Int × Int)} : ∀ fs : List Fm, Fm.depL (fillL (numG m) fs) = Fm.depL fs ∧ Fm.sgL (fillL (numG m) fs) = Fm.sgL fs
  | [] => ⟨rfl, rfl⟩
  | f :: fs => by
    obtain ⟨h1, h2⟩ := fill_gaps (m := m) f
    obtain ⟨h3, h4⟩ := fillL_gaps (m := m) fs
    simp only [fillL, Fm.depL, Fm.sgL, h1, h2, h3, h4, and_self]
end
mutual
theorem fill_gd {m : FI} {a b : Int} (hab : a ≤ b) (h : ∀ p, p ∈ m → p.2.gd b = true) : ∀ f : Fm, f.gd a = true → (fill m f).gd b = true
  | .gap n, hf => by
    rw [fill]
    cases e : lk m n with
    | none => exact Fm.gd_mono hab hf
    | some g => exact h _ (lk_mem e)
  | .tie w ps, hf => by
    simp only [Fm.gd, Bool.and_eq_true, decide_eq_true_eq] at hf
    simp only [fill, Fm.gd, Bool.and_eq_true, decide_eq_true_eq, fillL_length]
    exact ⟨hf.1, fillL_gd hab h ps hf.2⟩
theorem fillL_gd {m : FI} {a b : Int} (hab : a ≤ b) (h : ∀ p, p ∈ m → p.2.gd b = true) : ∀ fs : List Fm, Fm.gdL a fs = true → Fm.gdL b (fillL m fs) = true
  | [], _ => rfl
  | f :: fs, hf => by
    simp only [Fm.gdL, Bool.and_eq_true] at hf
    simp only [fillL, Fm.gdL, Bool.and_eq_true]
    exact ⟨fill_gd hab h f hf.1, fillL_gd hab h fs hf.2⟩
end
/-- _law_named(form, cell, merge) -/
def spNamed (n : Nat) : Sp := fun vs H Q _ => ∃ (f : Fm) (v : V) (c : Int) (b : Bool), vs = [v, .int c, .bl b] ∧ Rp H f.d v ∧ f.gd 1000 = true ∧ f.dep ≤ n ∧ f.sg ≤ 500 ∧
  ∀ (f' : Fm) v' H', Same H H' → Rp H' f'.d v' → f'.gd 1000 = true → f'.dep = f.dep → f'.sg = f.sg → Q v' H'
theorem spNamed.len {n : Nat} : ∀ vs H Q E, spNamed n vs H Q E → vs.length = 3 := fun vs H Q E ⟨f, v, c, b, e, _⟩ => by rw [e]; rfl
theorem w_snamed {σ : L2.St} {H : Hp} {D : Ends} {i n : Nat} {t : TA} {E : XK} {c : Int} {f : Fm} {b : Bool} (h : EvA t σ H [f.d, .int c, .bool b]) (h1 : f.gd 1000 = true) (h2 : f.dep ≤ n) (h3 : f.sg ≤ 500)
    (q : ∀ (f' : Fm) v H1, Same H H1 → Rp H1 f'.d v → f'.gd 1000 = true → f'.dep = f.dep → f'.sg = f.sg → D.nx (σ.set i (some v)) H1) : tAsg (tCall (spNamed n) [] E t) (gName i) D σ H := by
  refine h H (Same.refl _) _ fun vs H1 s1 rs => ?_
  obtain ⟨v1, _, rfl, r1, v2, _, rfl, r2, v3, _, rfl, r3, rfl⟩ := rs
  cases (show v2 = V.int c from r2)
  cases (show v3 = V.bl b from r3)
  exact ⟨f, v1, c, b, rfl, r1, h1, h2, h3, fun f' v' H' s' r' g d e => q f' v' H' (s1.trans s') r' g d e⟩
theorem numG_pt {l : List (Int × Int)} {k : Int} {x : Int} (h : ¬ k ∈ l.map (·.1)) : pt (numG l) k (.gap x) = numG (l ++ [(k, x)]) := by
  rw [pt_new (by unfold numG; rw [List.map_map]; exact h)]
  simp [numG]
theorem eqvAll_ints : ∀ ns : List Int, PyData.eqvAll (ns.map PyData.int) (ns.map PyData.int) = true
  | [] => rfl
  | n :: ns => by simp [PyData.eqvAll, PyData.eqv, eqvAll_ints ns]
theorem eqv_ints (ns : List Int) : (PyData.list (ns.map PyData.int)).eqv (.list (ns.map PyData.int)) = true := by
  simp only [PyData.eqv]; exact eqvAll_ints ns
end Fx
/-! FxL: lists of dicts compared with != where they are equal; fillings one behind the other. -/
namespace PySem.SeqAt
open AutoSeq1 (wpAny_loadPart')
open MeetsSeq MeetsSeq2 MeetsSeq3 SeqRoads2
section
variable {prog : Program} {w : World}
theorem fx_neSame (p q : Addr) (U W : Array Value) (c c2 : Nat) (g1 g2 : Option Addr) (k1 k2 : Array (Option Value)) (same : U.size = W.size) (r : Nat) :
    ∀ j : Nat, U.size - j = r → MeetsIn prog w (Builtin.«list.__eq__.loop» ⟨[.ref p, .ref q, rawInt j, rawInt 3], []⟩)
      (fun A R st => st.heap.get? p = some { cls := .type "list", dict := g1, data := .seq U c, slots := k1 } ∧ st.heap.get? q = some { cls := .type "list", dict := g2, data := .seq W c2, slots := k2 } ∧
        (∀ m (m1 : m < U.size) (m2 : m < W.size), EqP prog w A.in1 st U[m] W[m] true) ∧ R (.ok (.ret (.bool false))) st) := by
  induction r with
  | zero =>
    intro j hj A R st hyp
    obtain ⟨hp', gg, dd', tt, oo⟩ := st
    obtain ⟨gp, gq, all, fin⟩ := hyp
    wp_walk using wpAny_loadPart' gp, wpAny_loadPart' gq
    have u1 : U[((j : Nat) : Int).toNat]? = none := by simp; omega
    have u2 : W[((j : Nat) : Int).toNat]? = none := by simp; omega
    rw [u1, u2]
    wp_walk using wpAny_loadPart' gp, wpAny_loadPart' gq
    show R (.ok (.ret (.bool (U.size != W.size)))) _
    rw [same]
    simpa using fin
  | succ r ih =>
    intro j hj A R st hyp
    obtain ⟨hp', gg, dd', tt, oo⟩ := st
    obtain ⟨gp, gq, all, fin⟩ := hyp
    wp_walk using wpAny_loadPart' gp, wpAny_loadPart' gq
    have l1 : j < U.size := by omega
    have l2 : j < W.size := by omega
    have u1 : U[((j : Nat) : Int).toNat]? = some U[j] := by simp [l1]
    have u2 : W[((j : Nat) : Int).toNat]? = some W[j] := by simp [l2]
    have nx : ((j : Int) + 1) = ((j + 1 : Nat) : Int) := by push_cast; rfl
    rw [u1, u2]
    refine wpAny_bind (all j l1 l2 _ _ ?_)
    wp_walk
    rw [nx]
    refine ⟨plainId_quiet plain_eq_loop _, codeAny_builtin entry_eq_loop ?_⟩
    rw [Around.under_plainId plain_eq_loop _]
    exact ih (j + 1) (by omega) A R _ ⟨gp, gq, all, fin⟩
theorem fx_listNe (p q : Addr) (U W : Array Value) (c c2 : Nat) (g1 g2 : Option Addr) (k1 k2 : Array (Option Value)) (same : U.size = W.size) :
    MeetsIn prog w (Builtin.«list.__ne__» ⟨[.ref p, .ref q], []⟩)
      (fun A R st => st.heap.get? p = some { cls := .type "list", dict := g1, data := .seq U c, slots := k1 } ∧ st.heap.get? q = some { cls := .type "list", dict := g2, data := .seq W c2, slots := k2 } ∧
        (∀ m (m1 : m < U.size) (m2 : m < W.size), EqP prog w A.in1 st U[m] W[m] true) ∧ R (.ok (.ret (.bool false))) st) := by
  intro A R st hyp
  obtain ⟨hp', gg, dd', tt, oo⟩ := st
  obtain ⟨gp, gq, all, fin⟩ := hyp
  have sub := AutoSeq1.sub_list_list
  have nsz : ¬ (U.size != W.size) = true := by simp [same]
  wp_walk using wpAny_loadPart' gp, wpAny_loadPart' gq
  refine ⟨plainId_quiet plain_eq_loop _, codeAny_builtin entry_eq_loop ?_⟩
  rw [Around.under_plainId plain_eq_loop _]
  exact fx_neSame p q U W c c2 g1 g2 k1 k2 same _ 0 rfl A R _ ⟨gp, gq, all, fin⟩
theorem fx_cmpNe {A : Around} {st : Shared} {p q : Addr} {U W : Array Value} (lp : st.heap.IsList p U) (lq : st.heap.IsList q W) (same : U.size = W.size) (hu : A.units < cLine)
    (all : ∀ m (m1 : m < U.size) (m2 : m < W.size), EqP prog w A.in1 st U[m] W[m] true) (E Q : Value → Shared → Prop) (fin : Q (.bool false) st) : wpAny (model prog w) A (richCompare .NotEq (.ref p) (.ref q)) Q E st := by
  obtain ⟨⟨c1, g1, z1, k1⟩, o1, e1, n1, f1⟩ := id lp
  obtain ⟨⟨c2, g2, z2, k2⟩, o2, e2, n2, f2⟩ := id lq
  simp only at e1 f1 e2 f2
  subst e1 f1 e2 f2
  have tp : st.TypeIs (.ref p) "list" := ⟨_, o1, rfl⟩
  have tq : st.TypeIs (.ref q) "list" := ⟨_, o2, rfl⟩
  refine wpAny_richCompare_same_room (op := .NotEq) tp tq F.slot_list_ne (call_meetsIn F.slot_list_ne tp F.entry_list_ne (F.args_list_ne_2 _ _) (fx_listNe p q U W n1 n2 g1 g2 k1 k2 same) ?_) hu
  exact ⟨o1, o2, all, show Value.bool false ≠ Value.notImplemented ∧ Q (.bool false) st from ⟨(fun x => nomatch x), fin⟩⟩
end
end PySem.SeqAt
namespace Fx
open PySem L2 PySem.Spec PyProof.Rows
/-- two dicts that are equal, as items of lists -/
def SameD (H : Hp) (x y : V) : Prop := ∃ m m' : IM, Rp H (dI m) x ∧ Rp H (dI m') y ∧ okM m ∧ okM m' ∧ deq m m' = true
inductive AllD (H : Hp) : List V → List V → Prop
  | nil : AllD H [] []
  | cons {x y : V} {xs ys : List V} : SameD H x y → AllD H xs ys → AllD H (x :: xs) (y :: ys)
theorem AllD.length {H : Hp} {xs ys : List V} (h : AllD H xs ys) : xs.length = ys.length := by
  induction h with
  | nil => rfl
  | cons _ _ ih => simp [ih]
theorem AllD.get {H : Hp} {xs ys : List V} (h : AllD H xs ys) : ∀ {i : Nat} {x y : V}, xs[i]? = some x → ys[i]? = some y → SameD H x y := by
  induction h with
  | nil => intro i x y e; simp at e
  | cons hd _ ih =>
    intro i x y e1 e2
    cases i with
    | zero => simp at e1 e2; subst e1 e2; exact hd
    | succ i => exact ih (by simpa using e1) (by simpa using e2)
def rNeLD : R2 := fun x y H Q => ∃ a b xs ys, x = .ref a ∧ y = .ref b ∧ H a = some (.lst xs) ∧ H b = some (.lst ys) ∧ AllD H xs ys ∧ Q (.bl false) H
section
variable {X : Cx} {pins : List (Addr × Obj)} {σ : L2.St} {H : Hp} {s : Shared}
theorem eqP_dicts (I : L2.Inv X pins σ H s) {A : Around} (hu : A.units + 192 < cLine) {x y : V} {u v : Value} (h : SameD H x y) (rx : RelV x u) (ry : RelV y v) : SeqAt.EqP X.prog X.w A s u v true := by
  obtain ⟨m, m', ⟨a, ks, rfl, ea, ra'⟩, ⟨b, ls, rfl, eb, rb'⟩, ok, ok', hq⟩ := h
  obtain rfl : u = Value.ref a := rx
  obtain rfl : v = Value.ref b := ry
  by_cases e : a = b
  · subst e
    exact (SeqAt.EqAt.same _).eqP
  · refine SeqAt.eqP_refs e fun E Q q => ?_
    obtain ⟨_, ya, va, ra, da⟩ := dk_rd I.hok ea
    obtain ⟨_, yb, vb, rb, db⟩ := dk_rd I.hok eb
    have hl : va.length = vb.length := by
      unfold deq at hq
      rw [Bool.and_eq_true, beq_iff_eq] at hq
      rw [← ra.length, ← rb.length, RpI.length ra', RpI.length rb']
      exact hq.1
    have hm : m.all (hitM m') = true := by
      unfold deq at hq
      rw [Bool.and_eq_true] at hq
      exact hq.2
    have hits := hits_data I (A := A.in1) (by show A.units + 1 + 190 < cLine; omega) rb' rb ok' ra' ra ok
    rw [hm] at hits
    refine PySem.W.keq_eq (knd := mixKind X.prog X.w) (r := true) ya yb da db (by omega) (fun _ => hits) ?_
    rw [hl]
    simpa using q
theorem op_neLD (hu : X.A.units + 199 < cLine) : OpR X (compareOp .NotEq) rNeLD := by
  intro pins s σ H x y v u Q I rx ry h
  obtain ⟨a, b, xs, ys, rfl, rfl, ea, eb, hall, q⟩ := h
  obtain rfl : v = Value.ref a := rx
  obtain rfl : u = Value.ref b := ry
  obtain ⟨us, r1, p1, _⟩ := I.list (.of ea)
  obtain ⟨ws, r2, p2, _⟩ := I.list (.of eb)
  have l1 := r1.length
  have l2 := r2.length
  have l3 := hall.length
  refine SeqAt.fx_cmpNe p1.isList p2.isList (by simp; omega) (by omega) (fun j h1 h2 => ?_) _ _ ⟨.bl false, H, I, rfl, q⟩
  have j1 : j < us.length := by simpa using h1
  have j2 : j < ws.length := by simpa using h2
  have e1 : xs[j]? = some (xs[j]'(by omega)) := by simp
  have e2 : ys[j]? = some (ys[j]'(by omega)) := by simp
  obtain ⟨u1, f1, g1⟩ := r1.get e1
  obtain ⟨u2, f2, g2⟩ := r2.get e2
  have k1 : us[j] = u1 := by rw [List.getElem?_eq_getElem j1] at f1; exact Option.some.inj f1
  have k2 : ws[j] = u2 := by rw [List.getElem?_eq_getElem j2] at f2; exact Option.some.inj f2
  have := eqP_dicts I (A := X.A.in1) (by show X.A.units + 1 + 192 < cLine; omega) (hall.get e1 e2) g1 g2
  rw [← k1, ← k2] at this
  simpa using this
end
end Fx
/-! FxM: fillings one behind the other; promises with dicts. -/
namespace Fx
open PySem L2 PySem.Spec PyProof.Rows
theorem lk_pt {m : FI} {k j : Int} {f : Fm} : lk (pt m k f) j = if j = k then some f else lk m j := by
  unfold pt
  by_cases ha : (m.any fun p => decide (p.1 = k)) = true
  · rw [if_pos ha]
    induction m with
    | nil => simp at ha
    | cons p m ih =>
      by_cases e : p.1 = k
      · by_cases ej : j = k
        · subst ej; subst e; simp [lk]
        · have : ¬ p.1 = j := fun z => ej (z.symm.trans e)
          have ih' : lk (m.map fun p => if p.1 = k then (p.1, f) else p) j = lk m j := by
            by_cases hb : (m.any fun p => decide (p.1 = k)) = true
            · have := ih hb; rw [if_neg ej] at this; exact this
            · have : m.map (fun p => if p.1 = k then (p.1, f) else p) = m := by
                conv => rhs; rw [← List.map_id m]
                apply List.map_congr_left
                intro q hq
                have : ¬ q.1 = k := fun z => hb (List.any_eq_true.mpr ⟨q, hq, by simpa using z⟩)
                simp [this]
              rw [this]
          rw [if_neg ej]
          simp only [lk] at ih' ⊢
          simpa [e, this, ej, Ne.symm ej] using ih'
      · have hb : (m.any fun p => decide (p.1 = k)) = true := by simpa [e] using ha
        have ih' := ih hb
        by_cases ej : p.1 = j
        · have : ¬ j = k := fun z => e (ej.trans z)
          simp [lk, e, ej, this]
        · simp only [lk] at ih' ⊢
          simpa [e, ej] using ih'
  · rw [if_neg ha]
    have hn : ∀ p, p ∈ m → ¬ p.1 = k := fun p hp z => ha (List.any_eq_true.mpr ⟨p, hp, by simpa using z⟩)
    by_cases ej : j = k
    · subst ej
      rw [if_pos rfl]
      unfold lk
      rw [List.find?_append]
      have : m.find? (fun p => decide (p.1 = j)) = none := List.find?_eq_none.mpr fun p hp => by simpa using hn p hp
      rw [this]
      simp
    · rw [if_neg ej]
      unfold lk
      rw [List.find?_append]
      cases m.find? (fun p => decide (p.1 = j)) with
      | none => simp [Ne.symm ej]
      | some _ => simp
theorem keys_pt {m : FI} {k : Int} {f : Fm} : (pt m k f).map (·.1) = ins (m.map (·.1)) k := by
  unfold pt ins
  by_cases ha : (m.any fun p => decide (p.1 = k)) = true
  · have : k ∈ m.map (·.1) := by
      obtain ⟨p, hp, e⟩ := List.any_eq_true.mp ha
      exact List.mem_map.mpr ⟨p, hp, by simpa using e⟩
    rw [if_pos ha, if_pos this, List.map_map]
    apply List.map_congr_left
    intro p _
    by_cases e : p.1 = k <;> simp [e]
  · have : ¬ k ∈ m.map (·.1) := fun h => by
      obtain ⟨p, hp, e⟩ := List.mem_map.mp h
      exact ha (List.any_eq_true.mpr ⟨p, hp, by simpa using e⟩)
    rw [if_neg ha, if_neg this, List.map_append]; rfl
/-- m1's numbers put into a, filled by m2 -/
def puts (m2 : FI) (a : FI) (m1 : FI) : FI := m1.foldl (fun acc p => pt acc p.1 (fill m2 p.2)) a
/-- the filling that does as m1 and then m2 do -/
def comp (m1 m2 : FI) : FI := puts m2 m2 m1
theorem puts_snoc (m2 a m1 : FI) (p : Int × Fm) : puts m2 a (m1 ++ [p]) = pt (puts m2 a m1) p.1 (fill m2 p.2) := by simp [puts]
theorem puts_nodup {m2 : FI} : ∀ {m1 a : FI}, (a.map (·.1)).Nodup → ((puts m2 a m1).map (·.1)).Nodup
  | [], a, h => h
  | p :: m1, a, h => by
    show ((puts m2 (pt a p.1 (fill m2 p.2)) m1).map (·.1)).Nodup
    refine puts_nodup ?_
    rw [keys_pt]; exact nodup_ins h
theorem comp_nodup {m1 m2 : FI} (h : (m2.map (·.1)).Nodup) : ((comp m1 m2).map (·.1)).Nodup := puts_nodup h
theorem lk_puts {m2 : FI} {j : Int} : ∀ {m1 a : FI}, (m1.map (·.1)).Nodup → lk (puts m2 a m1) j = match lk m1 j with
    | some f => some (fill m2 f)
    | none => lk a j
  | [], a, _ => rfl
  | p :: m1, a, h => by
    have h' : (p.1 :: m1.map (·.1)).Nodup := h
    obtain ⟨h1, h2⟩ := List.nodup_cons.mp h'
    show lk (puts m2 (pt a p.1 (fill m2 p.2)) m1) j = _
    rw [lk_puts h2]
    by_cases e : p.1 = j
    · have hn : lk m1 j = none := by
        cases q : lk m1 j with
        | none => rfl
        | some f => exact absurd (List.mem_map.mpr ⟨_, lk_mem q, rfl⟩) (e ▸ h1)
      have hs : lk (p :: m1) j = some p.2 := by simp [lk, e]
      rw [hn, hs, lk_pt]
      simp [e]
    · have hs : lk (p :: m1) j = lk m1 j := by simp [lk, e]
      rw [hs, lk_pt]
      cases lk m1 j with
      | none => simp [Ne.symm e]
      | some f => rfl
theorem lk_comp {m1 m2 : FI} {j : Int} (h : (m1.map (·.1)).Nodup) : lk (comp m1 m2) j = match lk m1 j with
    | some f => some (fill m2 f)
    | none => lk m2 j := lk_puts h
mutual
theorem fill_comp {m1 m2 : FI} (h : (m1.map (·.1)).Nodup) : ∀ f : Fm, fill m2 (fill m1 f) = fill (comp m1 m2) f
  | .gap k => by
    simp only [fill]
    rw [lk_comp h]
    cases lk m1 k with
    | none => simp [fill]
    | some g => rfl
  | .tie w ps => by simp only [fill]; rw [fillL_comp h ps]
theorem fillL_comp {m1 m2 : FI} (h : (m1.map (·.1)).Nodup) : ∀ fs : List Fm, fillL m2 (fillL m1 fs) = fillL (comp m1 m2) fs
  | [] => rfl
  | f :: fs => by simp only [fillL]; rw [fill_comp h f, fillL_comp h fs]
end
theorem lk_none_of {m : FI} {k : Int} (h : ¬ k ∈ m.map (·.1)) : lk m k = none := by
  cases q : lk m k with
  | none => rfl
  | some f => exact absurd (List.mem_map.mpr ⟨_, lk_mem q, rfl⟩) h
theorem lk_isSome {m : FI} {k : Int} (h : k ∈ m.map (·.1)) : ∃ f, lk m k = some f := by
  obtain ⟨p, hp, e⟩ := List.mem_map.mp h
  cases q : lk m k with
  | some f => exact ⟨f, rfl⟩
  | none =>
    unfold lk at q
    rw [Option.map_eq_none_iff, List.find?_eq_none] at q
    exact absurd e (by simpa using q p hp)
/-- fillings that tell the same are the same as dicts -/
theorem deq_of_lk {m m' : FI} (hn : (m.map (·.1)).Nodup) (hn' : (m'.map (·.1)).Nodup) (h : ∀ k, lk m k = lk m' k) : deq (imF m) (imF m') = true := by
  refine deq_imF ?_ fun p hp => by rw [← h, lk_self hn p hp]
  have k1 : ∀ x, x ∈ m.map (·.1) → x ∈ m'.map (·.1) := fun x hx => by
    obtain ⟨f, hf⟩ := lk_isSome hx
    rw [h] at hf
    exact List.mem_map.mpr ⟨_, lk_mem hf, rfl⟩
  have k2 : ∀ x, x ∈ m'.map (·.1) → x ∈ m.map (·.1) := fun x hx => by
    obtain ⟨f, hf⟩ := lk_isSome hx
    rw [← h] at hf
    exact List.mem_map.mpr ⟨_, lk_mem hf, rfl⟩
  have a := nodup_le hn k1
  have b := nodup_le hn' k2
  simp only [List.length_map] at a b
  omega
/-- the forms of a filling are right -/
def OkFI (m : FI) (n : Nat) : Prop := ∀ p, p ∈ m → p.2.ok = true ∧ p.2.dep ≤ n
theorem OkFI.mono {m : FI} {a b : Nat} (h : OkFI m a) (hab : a ≤ b) : OkFI m b := fun p hp => ⟨(h p hp).1, Nat.le_trans (h p hp).2 hab⟩
theorem OkFI.okM {m : FI} {n : Nat} (h : OkFI m n) (hn : n ≤ 95) : okM (imF m) := okM_imF fun p hp => ⟨(h p hp).1, Nat.le_trans (h p hp).2 hn⟩
theorem mem_pt {m : FI} {k : Int} {f : Fm} {p : Int × Fm} (h : p ∈ pt m k f) : p ∈ m ∨ p = (k, f) ∨ (p.1 = k ∧ p.2 = f) := by
  unfold pt at h
  split at h
  · obtain ⟨q, hq, e⟩ := List.mem_map.mp h
    split at e
    · rename_i hk
      subst e
      exact .inr (.inr ⟨hk, rfl⟩)
    · subst e; exact .inl hq
  · rcases List.mem_append.mp h with h | h
    · exact .inl h
    · exact .inr (.inl (List.mem_singleton.mp h))
theorem OkFI.pt {m : FI} {k : Int} {f : Fm} {n : Nat} (h : OkFI m n) (h1 : f.ok = true) (h2 : f.dep ≤ n) : OkFI (pt m k f) n := fun p hp => by
  rcases mem_pt hp with hp | rfl | ⟨_, e⟩
  · exact h p hp
  · exact ⟨h1, h2⟩
  · rw [e]; exact ⟨h1, h2⟩
theorem OkFI.puts {m2 : FI} {n : Nat} (h2 : OkFI m2 n) : ∀ {m1 a : FI} {k : Nat}, OkFI m1 k → OkFI a (k + n) → OkFI (puts m2 a m1) (k + n)
  | [], a, k, _, h => h
  | p :: m1, a, k, h, ha => by
    show OkFI (Fx.puts m2 (Fx.pt a p.1 (fill m2 p.2)) m1) (k + n)
    have hp := h p (by simp)
    refine OkFI.puts h2 (fun q hq => h q (by simp [hq])) (ha.pt (fill_ok (fun q hq => (h2 q hq).1) _ hp.1) ?_)
    have := fill_dep (m := m2) (k := n) (fun q hq => (h2 q hq).2) p.2
    omega
theorem OkFI.comp {m1 m2 : FI} {k n : Nat} (h1 : OkFI m1 k) (h2 : OkFI m2 n) : OkFI (comp m1 m2) (k + n) := OkFI.puts h2 h1 (h2.mono (by omega))
theorem pt_len {m : FI} {k : Int} {f : Fm} : (pt m k f).length ≤ m.length + 1 := by
  unfold pt; split <;> simp
theorem puts_len {m2 : FI} : ∀ {m1 a : FI}, (puts m2 a m1).length ≤ a.length + m1.length
  | [], a => by simp [puts]
  | p :: m1, a => by
    have := puts_len (m2 := m2) (m1 := m1) (a := pt a p.1 (fill m2 p.2))
    have := pt_len (m := a) (k := p.1) (f := fill m2 p.2)
    show (puts m2 (pt a p.1 (fill m2 p.2)) m1).length ≤ _
    simp only [List.length_cons]; omega
theorem Drawn.okFI {m : FI} {ns : List Int} {many : Int} {deep : Nat} (h : Drawn m ns many deep) : OkFI m deep := fun p hp => ⟨Fm.gd_ok (h.2 p hp).1, (h.2 p hp).2.1⟩
/-! ### promises -/
/-- evaluates to a tracked dict | to a new one -/
def EvT (te : TE) (σ : L2.St) (H : Hp) (m : IM) : Prop := ∀ H1, Same H H1 → ∀ Q : VK, (∀ a xs H2, Same H1 H2 → H2 a = some (.dK xs) → RpI H2 m xs → Q (.ref a) H2) → te σ H1 Q
def EvN (te : TE) (σ : L2.St) (H : Hp) (m : IM) : Prop := ∀ H1, Same H H1 → ∀ Q : VK, (∀ a xs H2, Same H1 H2 → H1 a = none → H2 a = some (.dK xs) → RpI H2 m xs → Q (.ref a) H2) → te σ H1 Q
theorem EvN.t {te : TE} {σ : L2.St} {H : Hp} {m : IM} (h : EvN te σ H m) : EvT te σ H m := fun H1 s Q q => h H1 s Q fun a xs H2 s2 _ ha hr => q a xs H2 s2 ha hr
theorem EvT.d {te : TE} {σ : L2.St} {H : Hp} {m : IM} (h : EvT te σ H m) : EvD te σ H (dI m) := fun H1 s Q q => h H1 s Q fun a xs H2 s2 ha hr => q _ H2 s2 ⟨a, xs, rfl, .inl ha, hr⟩
theorem et_var {σ : L2.St} {H : Hp} {i : Nat} {a : Addr} {xs : List (Key × V)} {m : IM} (h : σ[i]? = some (some (.ref a))) (ha : H a = some (.dK xs)) (hr : RpI H m xs) : EvT (tVar i) σ H m := fun H1 s Q q => ⟨.ref a, h, q a xs H1 (Same.refl _) (s _ _ ha) (hr.mono s)⟩
theorem en_new {σ : L2.St} {H : Hp} : EvN tDNewK σ H [] := fun H1 s Q q p hp => q p [] _ (Fx.Same.new hp) hp upd_same rfl
theorem w_sndict {σ : L2.St} {H : Hp} {te : TE} {i : Nat} {u : TS} {D : Ends} {m : IM} (h : EvN te σ H m) (q : ∀ p xs H1, Same H H1 → H p = none → H1 p = some (.dK xs) → RpI H1 m xs → u D (σ.set i (some (.ref p))) H1) : tSeq (tAsg te (gName i)) u D σ H := h H (Same.refl _) _ q
/-- one_filling(one, other) -/
def spOne (n : Nat) : Sp := fun vs H Q _ => ∃ (a : Addr) (xs : List (Key × V)) (v2 : V) (m1 m2 : FI), vs = [.ref a, v2] ∧ H a = some (.dK xs) ∧ RpI H (imF m1) xs ∧ Rp H (dF m2) v2 ∧ (m1.map (·.1)).Nodup ∧ OkFI m1 n ∧ m1.length ≤ 1000 ∧ m2.length ≤ 1000 ∧
  ∀ p ys H', Same H H' → H p = none → H' p = some (.dK ys) → RpI H' (imF (comp m1 m2)) ys → Q (.ref p) H'
theorem spOne.len {n : Nat} : ∀ vs H Q E, spOne n vs H Q E → vs.length = 2 := fun vs H Q E ⟨a, xs, v2, m1, m2, e, _⟩ => by rw [e]; rfl
theorem en_one {σ : L2.St} {H : Hp} {n : Nat} {ta tb : TE} {m1 m2 : FI} {E : XK} (h1 : EvT ta σ H (imF m1)) (h2 : EvD tb σ H (dF m2)) (hn : (m1.map (·.1)).Nodup) (hk : OkFI m1 n) (l1 : m1.length ≤ 1000) (l2 : m2.length ≤ 1000) :
    EvN (tCall (spOne n) [] E (tCons ta (tCons tb tNil))) σ H (imF (comp m1 m2)) := fun H1 s Q q => h1 H1 s _ fun a xs H2 s2 ha hr => h2 H2 (s.trans s2) _ fun v H3 s3 r3 => by
  refine ⟨a, xs, v, m1, m2, rfl, s3 _ _ ha, hr.mono s3, r3, hn, hk, l1, l2, fun p ys H' s' hp hp' hr' => ?_⟩
  exact q p ys H' ((s2.trans s3).trans s') ((s2.trans s3).free hp) hp' hr'
/-- _law_is_filling(found, due), asked where it holds -/
def spIsFilling (n : Nat) : Sp := fun vs H Q _ => ∃ (a : Addr) (xs : List (Key × V)) (v2 : V) (m m' : FI), vs = [.ref a, v2] ∧ H a = some (.dK xs) ∧ RpI H (imF m) xs ∧ Rp H (dF m') v2 ∧ OkFI m n ∧ OkFI m' n ∧ (m.map (·.1)).Nodup ∧ deq (imF m) (imF m') = true ∧ ∀ H', Same H H' → Q (.bl true) H'
theorem spIsFilling.len {n : Nat} : ∀ vs H Q E, spIsFilling n vs H Q E → vs.length = 2 := fun vs H Q E ⟨a, xs, v2, m, m', e, _⟩ => by rw [e]; rfl
theorem ev_isfilling {σ : L2.St} {H : Hp} {n : Nat} {ta tb : TE} {m m' : FI} {E : XK} (h1 : EvT ta σ H (imF m)) (h2 : EvD tb σ H (dF m')) (k1 : OkFI m n) (k2 : OkFI m' n) (hn : (m.map (·.1)).Nodup) (he : deq (imF m) (imF m') = true) :
    EvD (tCall (spIsFilling n) [] E (tCons ta (tCons tb tNil))) σ H (.bool true) := fun H1 s Q q => h1 H1 s _ fun a xs H2 s2 ha hr => h2 H2 (s.trans s2) _ fun v H3 s3 r3 =>
  ⟨a, xs, v, m, m', rfl, s3 _ _ ha, hr.mono s3, r3, k1, k2, hn, he, fun H' s' => q _ H' ((s2.trans s3).trans s') rfl⟩
theorem RpI.lock {H : Hp} {d : Addr} {kvs : List (Key × V)} (h : H d = some (.dK kvs)) (od : Obj) {m : IM} {xs : List (Key × V)} (r : RpI H m xs) : RpI (upd H d (.frz od (.dK kvs))) m xs := RpK.le (Le.lock h od) _ _ r
theorem RpI.unlock {H : Hp} {d : Addr} {kvs : List (Key × V)} {od : Obj} (h : H d = some (.frz od (.dK kvs))) {m : IM} {xs : List (Key × V)} (r : RpI H m xs) : RpI (upd H d (.dK kvs)) m xs := RpK.le (Le.unlock h) _ _ r
/-- what was done under a lock leaves all as it was -/
theorem Same.unlock {H H' : Hp} {d : Addr} {kvs : List (Key × V)} {od : Obj} (h : H d = some (.dK kvs)) (s : Same (upd H d (.frz od (.dK kvs))) H') : Same H (upd H' d (.dK kvs)) := fun b o q => by
  by_cases e : b = d
  · subst e; rw [h] at q; cases q; exact upd_same
  · rw [upd_ne e]; exact s b o (by rw [upd_ne e]; exact q)
end Fx
/-! FxN: covering; spots of a form, forms opened. -/
namespace Fx
open PySem L2 PySem.Spec PyProof.Rows
/-! ### covering -/
mutual

def mt : Fm → Fm → FI → Bool × FI
  | .gap k, g, m => match lk m k with
    | none => (true, pt m k g)
    | some h => (decide (h = g), m)
  | .tie _ _, .gap _, m => (false, m)
  | .tie w ps, .tie v qs, m => if w = v ∧ ps.length = qs.length then mtL ps qs m else (false, m)
def mtL : List Fm → List Fm → FI → Bool × FI
  | [], _, m => (true, m)
  | _ :: _, [], m => (true, m)
  | f :: fs, g :: gs, m => match mt f g m with
    | (true, m') => mtL fs gs m'
    | (false, m') => (false, m')
end
mutual

def lc : Fm → Fm → FI → Bool × FI
  | .gap k, g, m => match lk m k with
    | none => (true, pt m k g)
    | some h => (decide (h = g), m)
  | .tie _ _, .gap _, m => (false, m)
  | .tie w ps, .tie v qs, m => if w = v ∧ ps.length = qs.length then lcL ps qs m else (false, m)
def lcL : List Fm → List Fm → FI → Bool × FI
  | [], _, m => (true, m)
  | _ :: _, [], m => (true, m)
  | f :: fs, g :: gs, m => ((lc f g m).1 && (lcL fs gs (lc f g m).2).1, (lcL fs gs (lc f g m).2).2)
end
mutual
theorem lc_mt : ∀ (f g : Fm) (m : FI), (lc f g m).1 = (mt f g m).1 ∧ ((mt f g m).1 = true → (lc f g m).2 = (mt f g m).2)
  | .gap k, g, m => by simp [lc, mt]
  | .tie _ _, .gap _, m => by simp [lc, mt]
  | .tie w ps, .tie v qs, m => by
    simp only [lc, mt]
    split
    · exact lcL_mtL ps qs m
    · exact ⟨rfl, fun _ => rfl⟩
theorem lcL_mtL : ∀ (fs gs : List Fm) (m : FI), (lcL fs gs m).1 = (mtL fs gs m).1 ∧ ((mtL fs gs m).1 = true → (lcL fs gs m).2 = (mtL fs gs m).2)
  | [], _, m => ⟨rfl, fun _ => rfl⟩
  | _ :: _, [], m => ⟨rfl, fun _ => rfl⟩
  | f :: fs, g :: gs, m => by
    obtain ⟨h1, h2⟩ := lc_mt f g m
    simp only [lcL, mtL]
    rcases q : mt f g m with ⟨b, m'⟩
    rw [q] at h1 h2
    cases b with
    | false => simp [h1]
    | true =>
      have e := h2 rfl
      simp only at h1 e
      rw [h1, e, Bool.true_and]
      exact lcL_mtL fs gs m'
end
theorem nodup_pt {m : FI} {k : Int} {f : Fm} (h : (m.map (·.1)).Nodup) : ((pt m k f).map (·.1)).Nodup := by rw [keys_pt]; exact nodup_ins h
mutual
theorem mt_inv {n : Nat} : ∀ (f g : Fm) (m : FI), g.ok = true → g.dep ≤ n → OkFI m n → (m.map (·.1)).Nodup → OkFI (mt f g m).2 n ∧ ((mt f g m).2.map (·.1)).Nodup ∧ (mt f g m).2.length ≤ m.length + f.sg
  | .gap k, g, m, h1, h2, h3, h4 => by
    simp only [mt]
    cases e : lk m k with
    | none => exact ⟨h3.pt h1 h2, nodup_pt h4, by have := pt_len (m := m) (k := k) (f := g); simp only [Fm.sg]; omega⟩
    | some h => exact ⟨h3, h4, by simp⟩
  | .tie _ _, .gap _, m, _, _, h3, h4 => by simp only [mt]; exact ⟨h3, h4, by omega⟩
  | .tie w ps, .tie v qs, m, h1, h2, h3, h4 => by
    simp only [mt]
    split
    · have h1' := h1
      simp only [Fm.ok, Bool.and_eq_true] at h1'
      have h2' : Fm.depL qs ≤ n := by simp only [Fm.dep] at h2; omega
      have := mtL_inv ps qs m h1'.2 h2' h3 h4
      simp only [Fm.sg]
      exact ⟨this.1, this.2.1, by omega⟩
    · exact ⟨h3, h4, Nat.le_add_right _ _⟩
theorem mtL_inv {n : Nat} : ∀ (fs gs : List Fm) (m : FI), Fm.okL gs = true → Fm.depL gs ≤ n → OkFI m n → (m.map (·.1)).Nodup → OkFI (mtL fs gs m).2 n ∧ ((mtL fs gs m).2.map (·.1)).Nodup ∧ (mtL fs gs m).2.length ≤ m.length + Fm.sgL fs
  | [], _, m, _, _, h3, h4 => ⟨h3, h4, by simp [mtL, Fm.sgL]⟩
  | _ :: _, [], m, _, _, h3, h4 => ⟨h3, h4, by simp only [mtL]; omega⟩
  | f :: fs, g :: gs, m, h1, h2, h3, h4 => by
    simp only [Fm.okL, Bool.and_eq_true] at h1
    simp only [Fm.depL] at h2
    have a := mt_inv f g m h1.1 (by omega) h3 h4
    simp only [mtL, Fm.sgL]
    rcases q : mt f g m with ⟨b, m'⟩
    rw [q] at a
    cases b with
    | false => exact ⟨a.1, a.2.1, by have := a.2.2; simp only at this ⊢; omega⟩
    | true =>
      have c := mtL_inv fs gs m' h1.2 (by omega) a.1 a.2.1
      exact ⟨c.1, c.2.1, by have := a.2.2; have := c.2.2; simp only at *; omega⟩
end
/-- same_kind -/
def sk : Fm → Fm → Bool
  | .tie w ps, .tie v qs => decide (w = v) && decide (ps.length = qs.length)
  | _, _ => false
def spSame : Sp := spP fun ds r => ∃ f g : Fm, ds = [f.d, g.d] ∧ r = .bool (sk f g) ∧ f.ok = true ∧ g.ok = true
theorem spSame.len : ∀ vs H Q E, spSame vs H Q E → vs.length = 2 := spP.len fun ds d ⟨f, g, e, _⟩ => by rw [e]; rfl
/-- matched(one, other, filling); R tells which def's way it goes -/
def spMt (R : Fm → Fm → FI → Bool × FI) (n : Nat) : Sp := fun vs H Q _ => ∃ (v1 v2 : V) (a : Addr) (xs : List (Key × V)) (f g : Fm) (m : FI), vs = [v1, v2, .ref a] ∧ Rp H f.d v1 ∧ Rp H g.d v2 ∧ H a = some (.dK xs) ∧ RpI H (imF m) xs ∧
  f.ok = true ∧ f.dep ≤ n ∧ g.ok = true ∧ g.dep ≤ 90 ∧ OkFI m 90 ∧ (m.map (·.1)).Nodup ∧ m.length + f.sg ≤ 50000 ∧
  ∀ ys H', KB a H H' → H' a = some (.dK ys) → RpI H' (imF (R f g m).2) ys → Q (.bl (R f g m).1) H'
theorem spMt.no {R : Fm → Fm → FI → Bool × FI} : ∀ vs H Q E, ¬ spMt R 0 vs H Q E := fun vs H Q E ⟨_, _, _, _, f, _, _, _, _, _, _, _, _, hd, _⟩ => by have := f.dep_pos; omega
theorem spMt.len {R : Fm → Fm → FI → Bool × FI} {n : Nat} : ∀ vs H Q E, spMt R n vs H Q E → vs.length = 3 := fun vs H Q E ⟨_, _, _, _, _, _, _, e, _⟩ => by rw [e]; rfl
/-- covers(one, other): the filling, or None -/
def spCov (n : Nat) : Sp := fun vs H Q _ => ∃ (v1 v2 : V) (f g : Fm), vs = [v1, v2] ∧ Rp H f.d v1 ∧ Rp H g.d v2 ∧ f.ok = true ∧ f.dep ≤ n ∧ f.sg ≤ 5000 ∧ g.ok = true ∧ g.dep ≤ 90 ∧
  ((mt f g []).1 = true → ∀ p ys H', Same H H' → H p = none → H' p = some (.dK ys) → RpI H' (imF (mt f g []).2) ys → Q (.ref p) H') ∧ ((mt f g []).1 = false → ∀ H', Same H H' → Q .non H')
theorem spCov.len {n : Nat} : ∀ vs H Q E, spCov n vs H Q E → vs.length = 2 := fun vs H Q E ⟨_, _, _, _, e, _⟩ => by rw [e]; rfl
mutual
theorem lc_inv {n : Nat} : ∀ (f g : Fm) (m : FI), g.ok = true → g.dep ≤ n → OkFI m n → (m.map (·.1)).Nodup → OkFI (lc f g m).2 n ∧ ((lc f g m).2.map (·.1)).Nodup ∧ (lc f g m).2.length ≤ m.length + f.sg
  | .gap k, g, m, h1, h2, h3, h4 => by
    simp only [lc]
    cases e : lk m k with
    | none => exact ⟨h3.pt h1 h2, nodup_pt h4, by have := pt_len (m := m) (k := k) (f := g); simp only [Fm.sg]; omega⟩
    | some h => exact ⟨h3, h4, by simp⟩
  | .tie _ _, .gap _, m, _, _, h3, h4 => by simp only [lc]; exact ⟨h3, h4, by omega⟩
  | .tie w ps, .tie v qs, m, h1, h2, h3, h4 => by
    simp only [lc]
    split
    · have h1' := h1
      simp only [Fm.ok, Bool.and_eq_true] at h1'
      have h2' : Fm.depL qs ≤ n := by simp only [Fm.dep] at h2; omega
      have := lcL_inv ps qs m h1'.2 h2' h3 h4
      simp only [Fm.sg]
      exact ⟨this.1, this.2.1, by omega⟩
    · exact ⟨h3, h4, Nat.le_add_right _ _⟩
theorem lcL_inv {n : Nat} : ∀ (fs gs : List Fm) (m : FI), Fm.okL gs = true → Fm.depL gs ≤ n → OkFI m n → (m.map (·.1)).Nodup → OkFI (lcL fs gs m).2 n ∧ ((lcL fs gs m).2.map (·.1)).Nodup ∧ (lcL fs gs m).2.length ≤ m.length + Fm.sgL fs
  | [], _, m, _, _, h3, h4 => ⟨h3, h4, by simp [lcL, Fm.sgL]⟩
  | _ :: _, [], m, _, _, h3, h4 => ⟨h3, h4, by simp only [lcL]; omega⟩
  | f :: fs, g :: gs, m, h1, h2, h3, h4 => by
    simp only [Fm.okL, Bool.and_eq_true] at h1
    simp only [Fm.depL] at h2
    have a := lc_inv f g m h1.1 (by omega) h3 h4
    have c := lcL_inv fs gs (lc f g m).2 h1.2 (by omega) a.1 a.2.1
    simp only [lcL, Fm.sgL]
    exact ⟨c.1, c.2.1, by have := a.2.2; have := c.2.2; omega⟩
end
/-! prefixes of parts -/
theorem mtL_snoc : ∀ {fs gs : List Fm} {m m' : FI} {f g : Fm}, fs.length = gs.length → mtL fs gs m = (true, m') → mtL (fs ++ [f]) (gs ++ [g]) m = mt f g m'
  | [], [], m, m', f, g, _, h => by
    cases h
    simp only [List.nil_append, mtL]
    rcases q : mt f g m with ⟨b, m2⟩
    cases b <;> rfl
  | a :: fs, c :: gs, m, m', f, g, hl, h => by
    simp only [List.cons_append, mtL] at h ⊢
    rcases q : mt a c m with ⟨b, m2⟩
    rw [q] at h
    cases b with
    | false => cases h
    | true => exact mtL_snoc (by simpa using hl) h
theorem mtL_stop : ∀ {fs gs fs' gs' : List Fm} {m m' m2 : FI} {f g : Fm}, fs.length = gs.length → mtL fs gs m = (true, m') → mt f g m' = (false, m2) → mtL (fs ++ f :: fs') (gs ++ g :: gs') m = (false, m2)
  | [], [], fs', gs', m, m', m2, f, g, _, h, k => by
    cases h
    simp only [List.nil_append, mtL, k]
  | a :: fs, c :: gs, fs', gs', m, m', m2, f, g, hl, h, k => by
    simp only [List.cons_append, mtL] at h ⊢
    rcases q : mt a c m with ⟨b, m3⟩
    rw [q] at h
    cases b with
    | false => cases h
    | true => exact mtL_stop (by simpa using hl) h k
theorem lcL_snoc : ∀ {fs gs : List Fm} {m : FI} {f g : Fm}, fs.length = gs.length → lcL (fs ++ [f]) (gs ++ [g]) m = ((lcL fs gs m).1 && (lc f g (lcL fs gs m).2).1, (lc f g (lcL fs gs m).2).2)
  | [], [], m, f, g, _ => by simp [lcL]
  | a :: fs, c :: gs, m, f, g, hl => by
    simp only [List.cons_append, lcL]
    rw [lcL_snoc (by simpa using hl), Bool.and_assoc]

/-! ### spots, forms opened -/
mutual

def spo : Fm → List Int → List (List Int × Fm)
  | .gap n, p => [(p, .gap n)]
  | .tie w ps, p => (p, .tie w ps) :: spoL 0 ps p
def spoL (i : Nat) : List Fm → List Int → List (List Int × Fm)
  | [], _ => []
  | f :: fs, p => spo f (p ++ [(i : Int)]) ++ spoL (i + 1) fs p
end
mutual
theorem spo_len : ∀ (f : Fm) (p : List Int), (spo f p).length = f.sg
  | .gap _, _ => rfl
  | .tie w ps, p => by simp only [spo, List.length_cons, Fm.sg, spoL_len 0 ps p]; omega
theorem spoL_len : ∀ (i : Nat) (fs : List Fm) (p : List Int), (spoL i fs p).length = Fm.sgL fs
  | _, [], _ => rfl
  | i, f :: fs, p => by simp only [spoL, List.length_append, Fm.sgL, spo_len f, spoL_len (i + 1) fs p]
end
theorem spoL_snoc : ∀ (i : Nat) (fs : List Fm) (f : Fm) (p : List Int), spoL i (fs ++ [f]) p = spoL i fs p ++ spo f (p ++ [((i + fs.length : Nat) : Int)])
  | i, [], f, p => by simp [spoL]
  | i, a :: fs, f, p => by
    simp only [List.cons_append, spoL, spoL_snoc (i + 1) fs f p, List.append_assoc, List.length_cons]
    rw [show i + 1 + fs.length = i + (fs.length + 1) by omega]
/-- a place of a form -/
def Vld : Fm → List Int → Prop
  | _, [] => True
  | .gap _, _ :: _ => False
  | .tie _ ps, k :: r => 0 ≤ k ∧ ∃ g, ps[k.toNat]? = some g ∧ Vld g r
mutual
theorem spo_vld : ∀ (f : Fm) (p : List Int) (x : List Int × Fm), x ∈ spo f p → ∃ r, x.1 = p ++ r ∧ Vld f r ∧ r.length + 1 ≤ f.dep
  | .gap n, p, x, h => by
    simp only [spo, List.mem_singleton] at h
    subst h
    exact ⟨[], by simp, by simp [Vld], by simp [Fm.dep]⟩
  | .tie w ps, p, x, h => by
    simp only [spo] at h
    rcases List.mem_cons.mp h with rfl | h
    · exact ⟨[], by simp, by simp [Vld], by simp [Fm.dep]⟩
    · obtain ⟨j, g, r, hg, e, hv, hl⟩ := spoL_vld 0 ps p x h
      refine ⟨(j : Int) :: r, by simpa using e, ?_, ?_⟩
      · simp only [Vld]; exact ⟨by omega, g, by simpa using hg, hv⟩
      · have := Fm.dep_part (List.mem_of_getElem? hg)
        simp only [List.length_cons, Fm.dep]; omega
theorem spoL_vld : ∀ (i : Nat) (fs : List Fm) (p : List Int) (x : List Int × Fm), x ∈ spoL i fs p → ∃ (j : Nat) (g : Fm) (r : List Int), fs[j]? = some g ∧ x.1 = p ++ ((i + j : Nat) : Int) :: r ∧ Vld g r ∧ r.length + 1 ≤ g.dep
  | i, [], p, x, h => by simp [spoL] at h
  | i, f :: fs, p, x, h => by
    simp only [spoL, List.mem_append] at h
    rcases h with h | h
    · obtain ⟨r, e, hv, hl⟩ := spo_vld f _ x h
      exact ⟨0, f, r, rfl, by rw [e]; simp, hv, hl⟩
    · obtain ⟨j, g, r, hg, e, hv, hl⟩ := spoL_vld (i + 1) fs p x h
      exact ⟨j + 1, g, r, by simpa using hg, by rw [e, show i + 1 + j = i + (j + 1) by omega], hv, hl⟩
end
/-- the form with a gap at a place -/
def opn : Fm → List Int → Int → Fm
  | _, [], n => .gap n
  | .gap k, _ :: _, _ => .gap k
  | .tie w ps, k :: r, n => match ps[k.toNat]? with
    | some g => .tie w (ps.set k.toNat (opn g r n))
    | none => .tie w ps
theorem opn_nil (f : Fm) (n : Int) : opn f [] n = .gap n := by cases f <;> rfl
theorem opn_tie {w : Str} {ps : List Fm} {k : Int} {r : List Int} {n : Int} {g : Fm} (h : ps[k.toNat]? = some g) : opn (.tie w ps) (k :: r) n = .tie w (ps.set k.toNat (opn g r n)) := by simp [opn, h]
theorem depL_set : ∀ {ps : List Fm} {i : Nat} {g f : Fm}, ps[i]? = some g → f.dep ≤ g.dep → Fm.depL (ps.set i f) ≤ Fm.depL ps
  | p :: ps, 0, g, f, h, hd => by
    simp at h; subst h
    simp only [List.set_cons_zero, Fm.depL]; omega
  | p :: ps, i + 1, g, f, h, hd => by
    have := depL_set (ps := ps) (i := i) (by simpa using h) hd
    simp only [List.set_cons_succ, Fm.depL]; omega
theorem sgL_set : ∀ {ps : List Fm} {i : Nat} {g f : Fm}, ps[i]? = some g → f.sg ≤ g.sg → Fm.sgL (ps.set i f) ≤ Fm.sgL ps
  | p :: ps, 0, g, f, h, hd => by
    simp at h; subst h
    simp only [List.set_cons_zero, Fm.sgL]; omega
  | p :: ps, i + 1, g, f, h, hd => by
    have := sgL_set (ps := ps) (i := i) (by simpa using h) hd
    simp only [List.set_cons_succ, Fm.sgL]; omega
theorem gdL_set {many : Int} : ∀ {ps : List Fm} {i : Nat} {f : Fm}, Fm.gdL many ps = true → f.gd many = true → Fm.gdL many (ps.set i f) = true
  | [], i, f, h, hd => by simp [Fm.gdL]
  | p :: ps, 0, f, h, hd => by
    simp only [Fm.gdL, Bool.and_eq_true] at h
    simp only [List.set_cons_zero, Fm.gdL, Bool.and_eq_true]
    exact ⟨hd, h.2⟩
  | p :: ps, i + 1, f, h, hd => by
    simp only [Fm.gdL, Bool.and_eq_true] at h
    simp only [List.set_cons_succ, Fm.gdL, Bool.and_eq_true]
    exact ⟨h.1, gdL_set h.2 hd⟩
theorem opn_inv {many : Int} {n : Int} (h0 : 0 ≤ n) (h1 : n < many) : ∀ (r : List Int) (f : Fm), Vld f r → f.gd many = true → (opn f r n).gd many = true ∧ (opn f r n).dep ≤ f.dep ∧ (opn f r n).sg ≤ f.sg
  | [], f, _, hg => by
    rw [opn_nil]
    have := f.dep_pos
    have hs : 1 ≤ f.sg := by cases f <;> simp [Fm.sg]
    refine ⟨?_, ?_, ?_⟩
    · simp only [Fm.gd, Bool.and_eq_true, decide_eq_true_eq]; exact ⟨h0, h1⟩
    · simp only [Fm.dep]; omega
    · simp only [Fm.sg]; omega
  | k :: r, .gap _, hv, _ => by simp [Vld] at hv
  | k :: r, .tie w ps, hv, hg => by
    simp only [Vld] at hv
    obtain ⟨hk, g, eg, hv⟩ := hv
    simp only [Fm.gd, Bool.and_eq_true, decide_eq_true_eq] at hg
    have ih := opn_inv h0 h1 r g hv (Fm.gd_part hg.2 (List.mem_of_getElem? eg))
    rw [opn_tie eg]
    refine ⟨?_, ?_, ?_⟩
    · simp only [Fm.gd, Bool.and_eq_true, decide_eq_true_eq, List.length_set]
      exact ⟨hg.1, gdL_set hg.2 ih.1⟩
    · have := depL_set eg ih.2.1
      simp only [Fm.dep]; omega
    · have := sgL_set eg ih.2.2
      simp only [Fm.sg]; omega
/-- one opening, some openings -/
def Opens (f f' : Fm) (n : Int) : Prop := ∃ r, Vld f r ∧ f' = opn f r n
inductive Loose : Fm → Int → Nat → Fm → Prop
  | none (f : Fm) (b : Int) : Loose f b 0 f
  | one {f g h : Fm} {b : Int} {k : Nat} : Loose f b k g → Opens g h (b + k) → Loose f b (k + 1) h
theorem Loose.inv {f g : Fm} {b : Int} {k : Nat} (h : Loose f b k g) {many : Int} (h0 : 0 ≤ b) (h1 : b + k ≤ many) (hf : f.gd many = true) : g.gd many = true ∧ g.dep ≤ f.dep ∧ g.sg ≤ f.sg := by
  induction h with
  | none => exact ⟨hf, Nat.le_refl _, Nat.le_refl _⟩
  | one l o ih =>
    rename_i g h b k
    obtain ⟨a1, a2, a3⟩ := ih h0 (by omega)
    obtain ⟨r, hv, rfl⟩ := o
    obtain ⟨b1, b2, b3⟩ := opn_inv (many := many) (n := b + k) (by omega) (by omega) r g hv a1
    exact ⟨b1, by omega, by omega⟩
def encP (x : List Int × Fm) : PyData := .tuple [.tuple (x.1.map .int), x.2.d]
/-- _law_spots(form, path, found) -/
def spSpots (n : Nat) : Sp := fun vs H Q _ => ∃ (v1 v2 : V) (p : Addr) (xs : List V) (f : Fm) (path : List Int), vs = [v1, v2, .ref p] ∧ Rp H f.d v1 ∧ Rp H (.tuple (path.map .int)) v2 ∧ H p = some (.lst xs) ∧ f.ok = true ∧ f.dep ≤ n ∧ path.length + f.dep ≤ 100 ∧ xs.length + f.sg ≤ 50000 ∧
  ∀ ys H', KB p H H' → H' p = some (.lst (xs ++ ys)) → RpL H' ((spo f path).map encP) ys → Q (.ref p) H'
theorem spSpots.no : ∀ vs H Q E, ¬ spSpots 0 vs H Q E := fun vs H Q E ⟨_, _, _, _, f, _, _, _, _, _, _, hd, _⟩ => by have := f.dep_pos; omega
theorem spSpots.len {n : Nat} : ∀ vs H Q E, spSpots n vs H Q E → vs.length = 3 := fun vs H Q E ⟨_, _, _, _, _, _, e, _⟩ => by rw [e]; rfl
/-- _law_opened(form, path, number) -/
def spOpened (n : Nat) : Sp := spP fun ds r => ∃ (f : Fm) (path : List Int) (k : Int), ds = [f.d, .tuple (path.map .int), .int k] ∧ r = (opn f path k).d ∧ Vld f path ∧ path.length + 1 ≤ n ∧ n ≤ 100 ∧ f.ok = true
theorem spOpened.no : ∀ vs H Q E, ¬ spOpened 0 vs H Q E := fun vs H Q E ⟨ds, r, _, ⟨f, path, k, _, _, _, hd, _⟩, _⟩ => by omega
theorem spOpened.len {n : Nat} : ∀ vs H Q E, spOpened n vs H Q E → vs.length = 3 := spP.len fun ds d ⟨f, path, k, e, _⟩ => by rw [e]; rfl
/-- _law_looser(form, cell, base) -/
def spLooser (n : Nat) : Sp := fun vs H Q _ => ∃ (v1 : V) (f : Fm) (c b : Int), vs = [v1, .int c, .int b] ∧ Rp H f.d v1 ∧ f.gd 1000 = true ∧ f.dep ≤ n ∧ f.dep ≤ 50 ∧ f.sg ≤ 5000 ∧ 0 ≤ b ∧ b ≤ 900 ∧
  ∀ (g : Fm) v H', Same H H' → Rp H' g.d v → Loose f b (c % 4).toNat g → Q v H'
theorem spLooser.len {n : Nat} : ∀ vs H Q E, spLooser n vs H Q E → vs.length = 3 := fun vs H Q E ⟨_, _, _, _, e, _⟩ => by rw [e]; rfl
theorem okD_tints (ns : List Int) : okD (.tuple (ns.map PyData.int)) = true := by
  unfold okD
  rw [Bool.and_eq_true]
  refine ⟨lay_ints ns, decide_eq_true ?_⟩
  simp only [PyData.depth, dep_ints]
  omega
/-- t[a:], of a tuple whose slice isn't the whole -/
theorem ev_tail {K : PySem.W.Frag} {σ : L2.St} {H : Hp} {ta : TE} {k : PyData} {ds : List PyData} (h : EvD ta σ H (.tuple (k :: ds))) (hl : ds.length ≤ 1000) : EvD (tSl (rSlA K) ta (tPart (tC (.int 1))) tNoPart) σ H (.tuple ds) := fun H1 s Q q => h H1 s _ fun v H2 s2 r => by
  obtain ⟨a, xs, rfl, ha, hr⟩ := r
  have hx := hr.length
  obtain ⟨v0, rest, rfl, h0, h1⟩ := hr
  have c1 : HT.sIx (v0 :: rest).length 0 (some 1) = 1 := by
    simp [HT.sIx]
  have c2 : HT.sIx (v0 :: rest).length (v0 :: rest).length none = (v0 :: rest).length := rfl
  refine ⟨1, rfl, a, v0 :: rest, rfl, .of ha, fun z => ?_, fun _ p hp => ?_⟩
  · rw [c1] at z; exact absurd z.1 (by decide)
  · have e : cutV (v0 :: rest) (some 1) none = rest := by
      unfold cutV
      rw [c1, c2]
      simp
    rw [e]
    exact q _ _ (s2.trans (Fx.Same.new hp)) ⟨p, rest, rfl, upd_same, h1.mono (Fx.Same.new hp)⟩
/-- t + (k,) -/
theorem ev_catT {K : PySem.W.Frag} {σ : L2.St} {H : Hp} {ta tb : TE} {ds es : List PyData} (ha : EvD ta σ H (.tuple ds)) (hb : EvD tb σ H (.tuple es)) (hl : ds.length + es.length ≤ 1000) : EvD (tOp (rCatA K) ta tb) σ H (.tuple (ds ++ es)) := ev_op ha hb fun H x y hx hy Q q => by
  obtain ⟨a, xs, rfl, ha, hr⟩ := hx
  obtain ⟨b, ys, rfl, hb, hr'⟩ := hy
  refine ⟨a, b, xs, ys, rfl, rfl, .of ha, .of hb, by rw [hr.length, hr'.length]; exact le1000 hl, fun e => ?_, fun _ e => ?_, fun _ _ p hp => ?_⟩
  · subst e
    have : ds = [] := by have := hr.length; simpa using this.symm
    subst this
    exact q _ H (Same.refl _) ⟨b, ys, rfl, hb, hr'⟩
  · subst e
    have : es = [] := by have := hr'.length; simpa using this.symm
    subst this
    rw [List.append_nil] at *
    exact q _ H (Same.refl _) ⟨a, xs, rfl, ha, hr⟩
  · exact q _ _ (Fx.Same.new hp) ⟨p, xs ++ ys, rfl, upd_same, (hr.append hr').mono (Fx.Same.new hp)⟩
/-- xs[i] = e, i reckoned -/
theorem w_ssetLi {σ : L2.St} {H : Hp} {i : Nat} {a : Addr} {xs : List V} {d : PyData} {k : Int} {j : Nat} {te ti : TE} {u : TS} {D : Ends} (h : σ[i]? = some (some (.ref a))) (ha : H a = some (.lst xs)) (he : EvD te σ H d) (hi : EvD ti σ H (.int k)) (hk : ixN xs.length k = some j)
    (q : ∀ v H1, Same H H1 → Rp H1 d v → u D σ (upd H1 a (.lst (xs.set j v)))) : tSeq (tAsg te (gSub (tVar i) ti rSetL)) u D σ H := by
  refine he H (Same.refl _) _ fun v H1 s r => ⟨.ref a, h, hi H1 s _ fun y H2 s2 r2 => ?_⟩
  cases (show y = V.int k from r2)
  exact ⟨a, xs, k, j, rfl, rfl, (s.trans s2) _ _ ha, hk, q v H2 (s.trans s2) (r.mono s2)⟩
/-- a comprehension whose block changes things -/
theorem w_lc {σ : L2.St} {H : Hp} {wi : TI} {tt : TT} {te : TE} {j : Nat} {ds : List PyData} {Q : VK} (hi : EvI wi σ H ds) (body : ∀ H1 D, Same H H1 → H1 D = none → ∃ Pv : Nat → List V → Hp → Prop, Pv 0 [] (upd H1 D (.lst [])) ∧ (∀ i acc H', Pv i acc H' → KT H1 H') ∧
      (∀ i d x acc H' H2 (Nx : Hp → Prop), ds[i]? = some d → Pv i acc H' → Same H' H2 → Rp H2 d x → (∀ acc' H3, Pv (i + 1) acc' H3 → Nx H3) → tt ((σ.set j none).set j (some x)) H2 fun b H3 => if b = true then te ((σ.set j none).set j (some x)) H3 fun y H4 => ∃ acc, H4 D = some (.lst acc) ∧ acc.length < sizeLine ∧ Nx (upd H4 D (.lst (acc ++ [y]))) else Nx H3) ∧
      (∀ acc H', Pv ds.length acc H' → Q (.ref D) H')) : tLc wi (gName j) tt te [j] σ H Q := by
  refine hi H (Same.refl _) _ fun J H2 Ok s2 ok cl Y => fun D hD => ?_
  obtain ⟨Pv, p0, pk, ps, pd⟩ := body H2 D s2 hD
  refine ⟨fun i m H' => m = ds.length - i ∧ i ≤ ds.length ∧ ∃ acc, Pv i acc H', ⟨_, rfl, Nat.zero_le _, [], p0⟩, ?_⟩
  rintro i m H' ⟨rfl, hle, acc, p⟩
  have ok' : Ok H' := cl _ _ ok (pk _ _ _ p)
  by_cases hlt : i < ds.length
  · refine .inr ⟨Y.go i H' ok' hlt, fun H' => i + 1 ≤ ds.length ∧ ∃ acc, Pv (i + 1) acc H', fun H'' h => ⟨_, by omega, rfl, h⟩, fun v H4 y => ?_⟩
    obtain ⟨s4, d, ed, rd⟩ := Y.yld i H' v H4 ok' hlt y
    exact ⟨wipe1, ps i d v acc H' H4 _ ed p s4 rd fun acc' H3 p3 => ⟨hlt, acc', p3⟩⟩
  · have e : i = ds.length := by omega
    subst e
    exact .inl ⟨Y.stop _ H' ok' (Nat.le_refl _), pd acc H' p⟩
mutual
theorem fill_sg {m : FI} {k : Nat} (hk : 1 ≤ k) (h : ∀ p, p ∈ m → p.2.sg ≤ k) : ∀ f : Fm, (fill m f).sg ≤ f.sg * k
  | .gap n => by
    rw [fill]
    cases e : lk m n with
    | none => simp only [Option.getD, Fm.sg]; omega
    | some g => have := h _ (lk_mem e); simp only [Option.getD, Fm.sg] at *; omega
  | .tie w ps => by
    have := fillL_sg hk h ps
    simp only [fill, Fm.sg]
    rw [Nat.add_mul]
    omega
theorem fillL_sg {m : FI} {k : Nat} (hk : 1 ≤ k) (h : ∀ p, p ∈ m → p.2.sg ≤ k) : ∀ fs : List Fm, Fm.sgL (fillL m fs) ≤ Fm.sgL fs * k
  | [] => by simp [fillL, Fm.sgL]
  | f :: fs => by
    have := fill_sg hk h f
    have := fillL_sg hk h fs
    simp only [fillL, Fm.sgL]
    rw [Nat.add_mul]
    omega
end
/-- a form that may be handled: right, not too deep, not too large -/
structure Gd (f : Fm) (d s : Nat) : Prop where
  gd : f.gd 1000 = true
  dep : f.dep ≤ d
  sg : f.sg ≤ s
theorem Gd.ok {f : Fm} {d s : Nat} (h : Gd f d s) : f.ok = true := Fm.gd_ok h.gd
theorem Gd.mono {f : Fm} {d s d' s' : Nat} (h : Gd f d s) (h1 : d ≤ d') (h2 : s ≤ s') : Gd f d' s' := ⟨h.gd, Nat.le_trans h.dep h1, Nat.le_trans h.sg h2⟩
theorem Gd.fill {f : Fm} {d s : Nat} (h : Gd f d s) {m : FI} {ns : List Int} {many : Int} {deep k : Nat} (dm : Drawn m ns many deep) (hm : many ≤ 1000) (hk : 1 ≤ k) (hs : ∀ p, p ∈ m → p.2.sg ≤ k) : Gd (Fx.fill m f) (d + deep) (s * k) :=
  ⟨fill_gd (Int.le_refl _) (fun p hp => Fm.gd_mono hm (dm.2 p hp).1) f h.gd, Nat.le_trans (fill_dep (fun p hp => (dm.2 p hp).2.1) f) (by have := h.dep; omega), Nat.le_trans (fill_sg hk hs f) (Nat.mul_le_mul_right _ h.sg)⟩
theorem Gd.loose {f g : Fm} {d s : Nat} (h : Gd f d s) {b : Int} {k : Nat} (l : Loose f b k g) (h0 : 0 ≤ b) (h1 : b + k ≤ 1000) : Gd g d s := by
  obtain ⟨a1, a2, a3⟩ := l.inv h0 h1 h.gd
  have := h.dep
  have := h.sg
  exact ⟨a1, by omega, by omega⟩
/-- _law_other(form, cell, second) of law k05 -/
def spOther (n : Nat) : Sp := fun vs H Q _ => ∃ (v1 : V) (f : Fm) (c c2 : Int), vs = [v1, .int c, .int c2] ∧ Rp H f.d v1 ∧ Gd f 5 50 ∧ ∀ (g : Fm) v H', Same H H' → Rp H' g.d v → Gd g 10 2000 → Q v H'
theorem spOther.len {n : Nat} : ∀ vs H Q E, spOther n vs H Q E → vs.length = 3 := fun vs H Q E ⟨_, _, _, _, e, _⟩ => by rw [e]; rfl
/-- _law_told(one, other) -/
def spTold : Sp := spP fun ds r => ∃ f g : Fm, ds = [f.d, g.d] ∧ r = .bool true ∧ Gd f 10 2000 ∧ Gd g 10 2000
theorem spTold.len : ∀ vs H Q E, spTold vs H Q E → vs.length = 2 := spP.len fun ds d ⟨f, g, e, _⟩ => by rw [e]; rfl
/-- return len([.. for .. if ..]) == 0, the block changing things -/
theorem w_retlc {K : PySem.W.Frag} {σ : L2.St} {H : Hp} {wi : TI} {tt : TT} {te : TE} {j : Nat} {ds : List PyData} {E : Ends} (hi : EvI wi σ H ds) (body : ∀ H1 D, Same H H1 → H1 D = none → ∃ Pv : Nat → List V → Hp → Prop, Pv 0 [] (upd H1 D (.lst [])) ∧ (∀ i acc H', Pv i acc H' → KT H1 H') ∧
      (∀ i d x acc H' H2 (Nx : Hp → Prop), ds[i]? = some d → Pv i acc H' → Same H' H2 → Rp H2 d x → (∀ acc' H3, Pv (i + 1) acc' H3 → Nx H3) → tt ((σ.set j none).set j (some x)) H2 fun b H3 => if b = true then te ((σ.set j none).set j (some x)) H3 fun y H4 => ∃ acc, H4 D = some (.lst acc) ∧ acc.length < sizeLine ∧ Nx (upd H4 D (.lst (acc ++ [y]))) else Nx H3) ∧
      (∀ acc H', Pv ds.length acc H' → H' D = some (.lst acc) ∧ E.rt (.bl acc.isEmpty) H')) : tRet (tOp rEqP (tCB (rLen K) (tCons (tLc wi (gName j) tt te [j]) tNil)) (tC (.int 0))) E σ H := by
  unfold tRet tOp tCB tCons
  refine w_lc hi fun H1 D s hD => ?_
  obtain ⟨Pv, p0, pk, ps, pd⟩ := body H1 D s hD
  refine ⟨Pv, p0, pk, ps, fun acc H' p => ?_⟩
  obtain ⟨eD, q⟩ := pd acc H' p
  refine ⟨.ref D, acc.length, rfl, .inl ⟨acc, .of eD, rfl⟩, .int acc.length, .int 0, rfl, rfl, rfl, rfl, ?_⟩
  have e : (PyData.int (acc.length : Int)).eqv (.int 0) = acc.isEmpty := by
    cases acc with
    | nil => rfl
    | cons x acc => simp [PyData.eqv]; omega
  rw [e]
  exact q
theorem imm_ints : ∀ ns : List Int, imm (.tuple (ns.map PyData.int)) = true := fun ns => by
  simp only [imm]
  exact immL_of fun d hd => by obtain ⟨_, _, rfl⟩ := List.mem_map.mp hd; rfl
theorem imm_encP (x : List Int × Fm) : imm (encP x) = true := by
  simp only [encP, imm, immL, Bool.and_eq_true]
  exact ⟨by have := imm_ints x.1; simpa only [imm] using this, Fm.imm_d _, trivial⟩
theorem RpL.set {H : Hp} : ∀ {ds : List PyData} {vs : List V} {d : PyData} {v : V}, RpL H ds vs → Rp H d v → ∀ i, RpL H (ds.set i d) (vs.set i v)
  | [], _, d, v, h, _, i => by rw [show _ = [] from h]; rfl
  | e :: ds, _, d, v, ⟨w, r, ev, h, t⟩, q, 0 => by subst ev; exact ⟨v, r, rfl, q, t⟩
  | e :: ds, _, d, v, ⟨w, r, ev, h, t⟩, q, i + 1 => by subst ev; exact ⟨w, r.set i v, rfl, h, RpL.set t q i⟩
/-- spots = _law_spots(form, (), []) -/
theorem w_sspots {σ : L2.St} {H : Hp} {i n : Nat} {tf : TE} {u : TS} {D : Ends} {E : XK} {g : Fm} (h : EvD tf σ H g.d) (okg : g.ok = true) (h1 : g.dep ≤ n) (h2 : g.dep ≤ 100) (h3 : g.sg ≤ 50000)
    (q : ∀ l ys H1, Same H H1 → H l = none → H1 l = some (.lst ys) → RpL H1 ((spo g []).map encP) ys → u D (σ.set i (some (.ref l))) H1) : tSeq (tAsg (tCall (spSpots n) [] E (tCons tf (tCons (tTup tNil) (tCons (tLst tNil) tNil)))) (gName i)) u D σ H := by
  refine h H (Same.refl _) _ fun v H3 s3 rg3 => ⟨Nat.zero_le _, fun t ht => ⟨Nat.zero_le _, fun l hl => ?_⟩⟩
  have s4 : Same H3 (upd H3 t (.tup [])) := Fx.Same.new ht
  have e4 : (upd H3 t (.tup [])) t = some (.tup []) := upd_same
  have s5 : Same (upd H3 t (.tup [])) (upd (upd H3 t (.tup [])) l (.lst [])) := Fx.Same.new hl
  have s35 := s4.trans s5
  refine ⟨v, .ref t, l, [], g, [], rfl, rg3.mono s35, ⟨t, [], rfl, s5 _ _ e4, rfl⟩, upd_same, okg, h1, by simpa using h2, by simpa using h3, fun ys H6 k6 e6 r6 => ?_⟩
  have hl3 : H3 l = none := s4.free hl
  have s36 : Same H3 H6 := fun b o hb => k6 b o (ne_of_none hb hl3) (s35 _ _ hb)
  exact q l ys H6 (s3.trans s36) (s3.free hl3) (by simpa using e6) r6
section
variable {X : Cx} {K : PySem.W.Frag}
theorem ix_tupK (h : X.K = K := by rfl) : IxR X (rIxT K) := h ▸ ix_tup
theorem ix_listK (h : X.K = K := by rfl) : IxR X (rIxL K) := h ▸ ix_list
theorem cr_tupleK (h : X.K = K := by rfl) : CallR X (.type "tuple") (rTupleOf K) := h ▸ cr_tuple
theorem cr_listK (h : X.K = K := by rfl) : CallR X (.type "list") (rListOf K) := h ▸ cr_list
theorem cr_lenK (h : X.K = K := by rfl) : CallR X (.builtin "len") (rLen K) := h ▸ cr_len
theorem cr_isiK (h : X.K = K := by rfl) : CallR X (.builtin "isinstance") (rIsi K) := h ▸ call_isi
end
end Fx
/-! FxO: substitutions: covering, alikeness, ranks (no program in sight). -/
namespace Fx
open PySem L2 PySem.Spec PyProof.Rows
mutual
def sub (s : Int → Fm) : Fm → Fm
  | .gap k => s k
  | .tie w ps => .tie w (subL s ps)
def subL (s : Int → Fm) : List Fm → List Fm
  | [] => []
  | f :: fs => sub s f :: subL s fs
end
theorem subL_map (s : Int → Fm) : ∀ fs : List Fm, subL s fs = fs.map (sub s)
  | [] => rfl
  | f :: fs => by rw [subL, subL_map s fs]; rfl
theorem subL_len (s : Int → Fm) (fs : List Fm) : (subL s fs).length = fs.length := by rw [subL_map, List.length_map]
/-- what a filling has at a gap -/
def lkd (m : FI) (k : Int) : Fm := (lk m k).getD (.gap k)
mutual
theorem fill_sub (m : FI) : ∀ f : Fm, fill m f = sub (lkd m) f
  | .gap k => rfl
  | .tie w ps => by rw [fill, sub, fillL_sub m ps]
theorem fillL_sub (m : FI) : ∀ fs : List Fm, fillL m fs = subL (lkd m) fs
  | [] => rfl
  | f :: fs => by rw [fillL, subL, fill_sub m f, fillL_sub m fs]
end
mutual
theorem rn_sub (r : Int → Int) : ∀ f : Fm, rn r f = sub (fun k => .gap (r k)) f
  | .gap k => rfl
  | .tie w ps => by rw [rn, sub, rnL_sub r ps]
theorem rnL_sub (r : Int → Int) : ∀ fs : List Fm, rnL r fs = subL (fun k => .gap (r k)) fs
  | [] => rfl
  | f :: fs => by rw [rnL, subL, rn_sub r f, rnL_sub r fs]
end
mutual
theorem sub_sub (s t : Int → Fm) : ∀ f : Fm, sub t (sub s f) = sub (fun k => sub t (s k)) f
  | .gap k => rfl
  | .tie w ps => by simp only [sub]; rw [subL_subL s t ps]
theorem subL_subL (s t : Int → Fm) : ∀ fs : List Fm, subL t (subL s fs) = subL (fun k => sub t (s k)) fs
  | [] => rfl
  | f :: fs => by simp only [subL]; rw [sub_sub s t f, subL_subL s t fs]
end
mutual
theorem sub_congr {s t : Int → Fm} : ∀ f : Fm, (∀ k, k ∈ ag f → s k = t k) → sub s f = sub t f
  | .gap k, h => h k (by simp [ag])
  | .tie w ps, h => by simp only [sub]; rw [subL_congr ps h]
theorem subL_congr {s t : Int → Fm} : ∀ fs : List Fm, (∀ k, k ∈ agL fs → s k = t k) → subL s fs = subL t fs
  | [], _ => rfl
  | f :: fs, h => by
    simp only [subL]
    rw [sub_congr f fun k hk => h k (by simp [agL, hk]), subL_congr fs fun k hk => h k (by simp [agL, hk])]
end
mutual
theorem sub_inj {s t : Int → Fm} : ∀ f : Fm, sub s f = sub t f → ∀ k, k ∈ ag f → s k = t k
  | .gap j, h, k, hk => by simp [ag] at hk; subst hk; exact h
  | .tie w ps, h, k, hk => by
    simp only [sub] at h
    injection h with _ h
    exact subL_inj ps h k hk
theorem subL_inj {s t : Int → Fm} : ∀ fs : List Fm, subL s fs = subL t fs → ∀ k, k ∈ agL fs → s k = t k
  | [], _, k, hk => by simp [agL] at hk
  | f :: fs, h, k, hk => by
    simp only [subL] at h
    injection h with h1 h2
    rcases List.mem_append.mp hk with hk | hk
    · exact sub_inj f h1 k hk
    · exact subL_inj fs h2 k hk
end
mutual
theorem sub_gap : ∀ f : Fm, sub .gap f = f
  | .gap _ => rfl
  | .tie w ps => by simp only [sub]; rw [subL_gap ps]
theorem subL_gap : ∀ fs : List Fm, subL .gap fs = fs
  | [] => rfl
  | f :: fs => by simp only [subL]; rw [sub_gap f, subL_gap fs]
end
mutual
theorem ag_sub (s : Int → Fm) : ∀ f : Fm, ag (sub s f) = (ag f).flatMap fun k => ag (s k)
  | .gap k => by simp [sub, ag]
  | .tie w ps => by simp only [sub, ag]; exact agL_sub s ps
theorem agL_sub (s : Int → Fm) : ∀ fs : List Fm, agL (subL s fs) = (agL fs).flatMap fun k => ag (s k)
  | [] => rfl
  | f :: fs => by simp only [subL, agL, List.flatMap_append]; rw [ag_sub s f, agL_sub s fs]
end
mutual
theorem sg_sub (s : Int → Fm) : ∀ f : Fm, ((sub s f).sg : Int) = f.sg + ((ag f).map fun k => ((s k).sg : Int) - 1).sum
  | .gap k => by simp [sub, ag, Fm.sg]; omega
  | .tie w ps => by
    have := sgL_sub s ps
    simp only [sub, ag, Fm.sg]
    omega
theorem sgL_sub (s : Int → Fm) : ∀ fs : List Fm, ((Fm.sgL (subL s fs) : Nat) : Int) = Fm.sgL fs + ((agL fs).map fun k => ((s k).sg : Int) - 1).sum
  | [] => rfl
  | f :: fs => by
    have h1 := sg_sub s f
    have h2 := sgL_sub s fs
    simp only [subL, agL, Fm.sgL, List.map_append, List.sum_append]
    omega
end
/-! ### matched finds just the substitutions -/
def tab (s : Int → Fm) (l : List Int) : FI := l.map fun k => (k, s k)
theorem tab_keys (s : Int → Fm) (l : List Int) : (tab s l).map (·.1) = l := by
  unfold tab; rw [List.map_map]; exact List.map_id _
theorem lk_tab {s : Int → Fm} {k : Int} : ∀ {l : List Int}, k ∈ l → lk (tab s l) k = some (s k)
  | a :: l, h => by
    by_cases e : a = k
    · subst e; simp [tab, lk]
    · have hk : k ∈ l := by rcases List.mem_cons.mp h with rfl | h; exact absurd rfl e; exact h
      have := lk_tab (s := s) hk
      simpa [tab, lk, e] using this
theorem lk_tab_none {s : Int → Fm} {k : Int} {l : List Int} (h : ¬ k ∈ l) : lk (tab s l) k = none := lk_none_of (by rw [tab_keys]; exact h)
mutual
theorem mt_sub (s : Int → Fm) : ∀ (f : Fm) (l : List Int), mt f (sub s f) (tab s l) = (true, tab s (insL l (ag f)))
  | .gap k, l => by
    simp only [sub, mt, ag, insL_cons, insL_nil]
    by_cases h : k ∈ l
    · rw [lk_tab h, ins_in h]; simp
    · rw [lk_tab_none h, ins_out h]
      have : pt (tab s l) k (s k) = tab s (l ++ [k]) := by rw [pt_new (by rw [tab_keys]; exact h)]; simp [tab]
      simp [this]
  | .tie w ps, l => by
    simp only [sub, mt, ag]
    rw [if_pos ⟨trivial, (subL_len s ps).symm⟩]
    exact mtL_sub s ps l
theorem mtL_sub (s : Int → Fm) : ∀ (fs : List Fm) (l : List Int), mtL fs (subL s fs) (tab s l) = (true, tab s (insL l (agL fs)))
  | [], l => rfl
  | f :: fs, l => by
    simp only [subL, mtL, agL, insL_append]
    rw [mt_sub s f l]
    exact mtL_sub s fs _
end
theorem mt_sub0 (s : Int → Fm) (f : Fm) : mt f (sub s f) [] = (true, tab s (gp f)) := mt_sub s f []
mutual
theorem mt_sound : ∀ (f g : Fm) (m : FI), (mt f g m).1 = true → (∀ k h, lk m k = some h → lk (mt f g m).2 k = some h) ∧ ∀ m' : FI, (∀ k h, lk (mt f g m).2 k = some h → lk m' k = some h) → sub (lkd m') f = g
  | .gap k, g, m, h => by
    simp only [mt] at h ⊢
    cases e : lk m k with
    | none =>
      rw [e] at h
      refine ⟨fun j x hx => ?_, fun m' hm => ?_⟩
      · rw [lk_pt, if_neg (fun z => by subst z; rw [e] at hx; cases hx)]; exact hx
      · have := hm k g (by rw [lk_pt, if_pos rfl])
        simp [sub, lkd, this]
    | some x =>
      rw [e] at h
      have hx : x = g := of_decide_eq_true h
      subst hx
      refine ⟨fun _ _ hx => hx, fun m' hm => ?_⟩
      simp [sub, lkd, hm k x e]
  | .tie _ _, .gap _, m, h => by simp only [mt] at h; cases h
  | .tie w ps, .tie v qs, m, h => by
    simp only [mt] at h ⊢
    by_cases c : w = v ∧ ps.length = qs.length
    · rw [if_pos c] at h ⊢
      obtain ⟨h1, h2⟩ := mtL_sound ps qs m c.2 h
      refine ⟨h1, fun m' hm => ?_⟩
      simp only [sub]
      rw [h2 m' hm, c.1]
    · rw [if_neg c] at h; cases h
theorem mtL_sound : ∀ (fs gs : List Fm) (m : FI), fs.length = gs.length → (mtL fs gs m).1 = true → (∀ k h, lk m k = some h → lk (mtL fs gs m).2 k = some h) ∧ ∀ m' : FI, (∀ k h, lk (mtL fs gs m).2 k = some h → lk m' k = some h) → subL (lkd m') fs = gs
  | [], [], m, _, _ => ⟨fun _ _ h => h, fun _ _ => rfl⟩
  | f :: fs, g :: gs, m, hl, h => by
    simp only [mtL] at h ⊢
    rcases q : mt f g m with ⟨b, m1⟩
    rw [q] at h
    cases b with
    | false => cases h
    | true =>
      have a := mt_sound f g m (by rw [q])
      rw [q] at a
      obtain ⟨c1, c2⟩ := mtL_sound fs gs m1 (by simpa using hl) h
      refine ⟨fun k x hx => c1 k x (a.1 k x hx), fun m' hm => ?_⟩
      simp only [subL]
      rw [a.2 m' fun k x hx => hm k x (c1 k x hx), c2 m' hm]
end
theorem mt_iff {f g : Fm} : (mt f g []).1 = true ↔ ∃ s, sub s f = g :=
  ⟨fun h => ⟨_, (mt_sound f g [] h).2 _ fun _ _ h => h⟩, fun ⟨s, e⟩ => by rw [← e, mt_sub0]⟩
/-! ### alike -/
theorem ix_map {r : Int → Int} {k : Int} : ∀ {l : List Int}, (∀ a, a ∈ l → ∀ b, b ∈ l → r a = r b → a = b) → k ∈ l → ix (l.map r) (r k) = ix l k
  | a :: l, h, hk => by
    unfold ix
    rw [List.map_cons, List.idxOf_cons, List.idxOf_cons]
    by_cases e : a = k
    · subst e; simp
    · have hk' : k ∈ l := by rcases List.mem_cons.mp hk with rfl | h; exact absurd rfl e; exact h
      have e2 : ¬ r a = r k := fun z => e (h a (by simp) k hk z)
      have ih := ix_map (l := l) (fun x hx y hy => h x (by simp [hx]) y (by simp [hy])) hk'
      unfold ix at ih
      have b1 : (a == k) = false := by simpa using e
      have b2 : (r a == r k) = false := by simpa using e2
      rw [b1, b2]
      simp only [cond_false]
      omega
theorem insL_map {r : Int → Int} : ∀ {ns l : List Int}, (∀ a, a ∈ l ++ ns → ∀ b, b ∈ l ++ ns → r a = r b → a = b) → insL (l.map r) (ns.map r) = (insL l ns).map r
  | [], l, _ => rfl
  | n :: ns, l, h => by
    rw [List.map_cons, insL_cons, insL_cons]
    have e : ins (l.map r) (r n) = (ins l n).map r := by
      by_cases hn : n ∈ l
      · rw [ins_in hn, ins_in (List.mem_map.mpr ⟨n, hn, rfl⟩)]
      · have : ¬ r n ∈ l.map r := fun z => by
          obtain ⟨a, ha, e⟩ := List.mem_map.mp z
          exact hn (h a (by simp [ha]) n (by simp) e ▸ ha)
        rw [ins_out hn, ins_out this, List.map_append]; rfl
    rw [e]
    refine insL_map fun a ha b hb => h a ?_ b ?_
    · rcases List.mem_append.mp ha with ha | ha
      · rcases mem_ins.mp ha with ha | rfl <;> simp [*]
      · simp [ha]
    · rcases List.mem_append.mp hb with hb | hb
      · rcases mem_ins.mp hb with hb | rfl <;> simp [*]
      · simp [hb]
theorem ag_rn (r : Int → Int) (f : Fm) : ag (rn r f) = (ag f).map r := by
  rw [rn_sub, ag_sub]
  simp only [ag]
  induction ag f with
  | nil => rfl
  | cons a l ih => simp [ih]
/-- injective on the gaps -/
def InjG (r : Int → Int) (f : Fm) : Prop := ∀ a, a ∈ ag f → ∀ b, b ∈ ag f → r a = r b → a = b
theorem gp_rn {r : Int → Int} {f : Fm} (h : InjG r f) : gp (rn r f) = (gp f).map r := by
  unfold gp
  rw [ag_rn]
  exact insL_map (l := []) h
theorem rn_rn (r q : Int → Int) (f : Fm) : rn q (rn r f) = rn (fun k => q (r k)) f := by
  simp only [rn_sub, sub_sub, sub]
theorem rn_congr {r q : Int → Int} {f : Fm} (h : ∀ k, k ∈ ag f → r k = q k) : rn r f = rn q f := by
  rw [rn_sub, rn_sub]
  exact sub_congr f fun k hk => by rw [h k hk]
theorem pl_rn {r : Int → Int} {f : Fm} (h : InjG r f) : pl (rn r f) = pl f := by
  unfold pl
  rw [gp_rn h, rn_rn]
  refine rn_congr fun k hk => ?_
  exact ix_map (fun a ha b hb => h a (mem_gp.mp ha) b (mem_gp.mp hb)) (mem_gp.mpr hk)
theorem ix_get {l : List Int} {k : Int} (h : k ∈ l) : l.getD (ix l k).toNat 0 = k := by
  unfold ix
  have hlt := List.idxOf_lt_length_of_mem h
  rw [show ((l.idxOf k : Nat) : Int).toNat = l.idxOf k by omega]
  rw [List.getD_eq_getElem?_getD, List.getElem?_eq_getElem hlt]
  simp
theorem ix_inj {l : List Int} {a b : Int} (ha : a ∈ l) (hb : b ∈ l) (h : ix l a = ix l b) : a = b := by
  rw [← ix_get ha, h, ix_get hb]
theorem pl_inj (f : Fm) : InjG (ix (gp f)) f := fun a ha b hb e => ix_inj (mem_gp.mpr ha) (mem_gp.mpr hb) e
theorem pl_back (f : Fm) : rn (fun j => (gp f).getD j.toNat 0) (pl f) = f := by
  unfold pl
  rw [rn_rn]
  have : rn (fun k => (gp f).getD (ix (gp f) k).toNat 0) f = rn (fun k => k) f := rn_congr fun k hk => ix_get (mem_gp.mpr hk)
  rw [this, rn_sub]
  exact sub_gap f
theorem pl_pl (f : Fm) : pl (pl f) = pl f := pl_rn (pl_inj f)
/-- alike forms cover one another -/
theorem sub_of_pl {f g : Fm} (h : pl f = pl g) : ∃ s, sub s f = g := by
  refine ⟨fun k => .gap ((gp g).getD (ix (gp f) k).toNat 0), ?_⟩
  rw [← rn_sub]
  have e := rn_rn (ix (gp f)) (fun j => (gp g).getD j.toNat 0) f
  rw [← e]
  show rn (fun j => (gp g).getD j.toNat 0) (pl f) = g
  rw [h, pl_back]
/-- forms that cover one another are alike -/
theorem pl_of_subs {f g : Fm} {s t : Int → Fm} (h1 : sub s f = g) (h2 : sub t g = f) : pl f = pl g := by
  have e : sub (fun k => sub t (s k)) f = sub .gap f := by rw [← sub_sub, h1, h2, sub_gap]
  have hk := sub_inj f e
  let r : Int → Int := fun k => match s k with
    | .gap j => j
    | .tie _ _ => 0
  have hr : ∀ k, k ∈ ag f → s k = .gap (r k) := fun k hk' => by
    have := hk k hk'
    simp only [r]
    cases q : s k with
    | gap j => rfl
    | tie w ps => rw [q] at this; simp [sub] at this
  have hg : g = rn r f := by rw [← h1, rn_sub]; exact sub_congr f hr
  have inj : InjG r f := fun a ha b hb e => by
    have ea := hk a ha
    have eb := hk b hb
    rw [hr a ha] at ea
    rw [hr b hb] at eb
    simp only [sub] at ea eb
    rw [e, eb] at ea
    injection ea with ea
    exact ea.symm
  rw [hg, pl_rn inj]
theorem pl_iff {f g : Fm} : pl f = pl g ↔ (∃ s, sub s f = g) ∧ ∃ t, sub t g = f :=
  ⟨fun h => ⟨sub_of_pl h, sub_of_pl h.symm⟩, fun ⟨⟨_, h1⟩, ⟨_, h2⟩⟩ => pl_of_subs h1 h2⟩
/-! ### ranks -/
theorem gp_len_pl (f : Fm) : (gp (pl f)).length = (gp f).length := by
  unfold pl
  rw [gp_rn (pl_inj f), List.length_map]
theorem rk_pl {f g : Fm} (h : pl f = pl g) : rk f = rk g := by
  have e1 := gp_len_pl f
  have e2 := gp_len_pl g
  have e3 := pl_sg f
  have e4 := pl_sg g
  rw [h] at e1 e3
  unfold rk
  omega
theorem sum_ins {h : Int → Int} (h0 : ∀ k, 0 ≤ h k) : ∀ (ns l : List Int), ((insL l ns).map h).sum ≤ (l.map h).sum + (ns.map h).sum
  | [], l => by simp [insL_nil]
  | n :: ns, l => by
    have ih := sum_ins h0 ns (ins l n)
    have : ((ins l n).map h).sum ≤ (l.map h).sum + h n := by
      unfold ins
      split
      · have := h0 n; omega
      · simp
    rw [insL_cons]
    simp only [List.map_cons, List.sum_cons]
    omega
theorem sum_gp {h : Int → Int} (h0 : ∀ k, 0 ≤ h k) (f : Fm) : ((gp f).map h).sum ≤ ((ag f).map h).sum := by
  have := sum_ins h0 (ag f) []
  simpa [gp] using this
theorem sg_pos (f : Fm) : 1 ≤ f.sg := by cases f <;> simp [Fm.sg]
theorem gp_tie {w : Str} {ps : List Fm} : (gp (.tie w ps)).length + 1 ≤ (Fm.tie w ps).sg := by
  have h1 := insL_len (ns := ag (.tie w ps)) (l := [])
  have h2 := agL_len ps
  have h3 : (gp (.tie w ps)).length = (insL [] (ag (.tie w ps))).length := rfl
  rw [h3]
  simp only [ag, List.length_nil, Fm.sg] at h1 ⊢
  omega
theorem gp_sub_len (s : Int → Fm) (f : Fm) : ((gp (sub s f)).length : Int) ≤ ((gp f).map fun k => ((gp (s k)).length : Int)).sum := by
  have h1 : (gp (sub s f)).length ≤ ((gp f).flatMap fun k => gp (s k)).length := by
    refine nodup_le (gp_nodup _) fun x hx => ?_
    have := mem_gp.mp hx
    rw [ag_sub] at this
    obtain ⟨k, hk, hx⟩ := List.mem_flatMap.mp this
    exact List.mem_flatMap.mpr ⟨k, mem_gp.mpr hk, mem_gp.mpr hx⟩
  have h2 : ∀ l : List Int, ((l.flatMap fun k => gp (s k)).length : Int) = (l.map fun k => ((gp (s k)).length : Int)).sum := by
    intro l
    induction l with
    | nil => rfl
    | cons a l ih => simp only [List.flatMap_cons, List.length_append, List.map_cons, List.sum_cons, ← ih]; omega
  rw [← h2]
  omega
theorem sum_le {h q : Int → Int} : ∀ l : List Int, (∀ k, k ∈ l → h k ≤ q k) → (l.map h).sum ≤ (l.map q).sum
  | [], _ => Int.le_refl _
  | a :: l, hl => by
    have := sum_le l fun k hk => hl k (by simp [hk])
    have := hl a (by simp)
    simp only [List.map_cons, List.sum_cons]; omega
theorem sum_lt {h q : Int → Int} : ∀ l : List Int, (∀ k, k ∈ l → h k ≤ q k) → (∃ k, k ∈ l ∧ h k < q k) → (l.map h).sum < (l.map q).sum
  | [], _, ⟨k, hk, _⟩ => absurd hk (by simp)
  | a :: l, hl, ⟨k, hk, hlt⟩ => by
    have h1 := sum_le l fun k hk => hl k (by simp [hk])
    have h2 := hl a (by simp)
    simp only [List.map_cons, List.sum_cons]
    rcases List.mem_cons.mp hk with rfl | hk
    · omega
    · have := sum_lt l (fun k hk => hl k (by simp [hk])) ⟨k, hk, hlt⟩
      omega
theorem sum_sub1 (q : Int → Int) : ∀ l : List Int, (l.map fun k => q k - 1).sum = (l.map q).sum - l.length
  | [] => rfl
  | a :: l => by have := sum_sub1 q l; simp only [List.map_cons, List.sum_cons, List.length_cons]; omega
theorem insL_short : ∀ {ns l : List Int}, (insL l ns).length = l.length + ns.length → (∀ n, n ∈ ns → ¬ n ∈ l) ∧ ns.Nodup
  | [], l, _ => ⟨fun n h => absurd h (by simp), List.nodup_nil⟩
  | n :: ns, l, h => by
    rw [insL_cons] at h
    simp only [List.length_cons] at h
    by_cases hn : n ∈ l
    · rw [ins_in hn] at h
      have := insL_len (ns := ns) (l := l)
      omega
    · rw [ins_out hn] at h
      obtain ⟨h1, h2⟩ := insL_short (ns := ns) (l := l ++ [n]) (by simp at h ⊢; omega)
      refine ⟨fun x hx => ?_, List.nodup_cons.mpr ⟨fun z => h1 n z (by simp), h2⟩⟩
      rcases List.mem_cons.mp hx with rfl | hx
      · exact hn
      · exact fun z => h1 x hx (by simp [z])
theorem inj_of_nodup {r : Int → Int} : ∀ {l : List Int}, (l.map r).Nodup → ∀ a, a ∈ l → ∀ b, b ∈ l → r a = r b → a = b
  | x :: l, h, a, ha, b, hb, e => by
    have h' : (r x :: l.map r).Nodup := h
    obtain ⟨h1, h2⟩ := List.nodup_cons.mp h'
    rcases List.mem_cons.mp ha with ha | ha
    · rcases List.mem_cons.mp hb with hb | hb
      · rw [ha, hb]
      · exact absurd (List.mem_map.mpr ⟨b, hb, by rw [← ha, e]⟩) h1
    · rcases List.mem_cons.mp hb with hb | hb
      · exact absurd (List.mem_map.mpr ⟨a, ha, by rw [← hb, e]⟩) h1
      · exact inj_of_nodup h2 a ha b hb e
/-- who covers has no greater rank; the same rank just where it is alike -/
theorem rk_sub (s : Int → Fm) (f : Fm) : rk f ≤ rk (sub s f) ∧ (pl f ≠ pl (sub s f) → rk f < rk (sub s f)) := by
  have hs := sg_sub s f
  have hl := gp_sub_len s f
  have h1 := sum_gp (h := fun k => ((s k).sg : Int) - 1) (fun k => by have := sg_pos (s k); omega) f
  have h2 := sum_sub1 (fun k => ((s k).sg : Int)) (gp f)
  by_cases ht : ∃ k, k ∈ gp f ∧ ∃ w ps, s k = .tie w ps
  · obtain ⟨k, hk, w, ps, e⟩ := ht
    have h3 : ((gp f).map fun k => ((gp (s k)).length : Int)).sum < ((gp f).map fun k => ((s k).sg : Int)).sum :=
      sum_lt _ (fun k _ => by have := gp_len (s k); omega) ⟨k, hk, by have := gp_tie (w := w) (ps := ps); rw [e]; omega⟩
    unfold rk
    exact ⟨by omega, fun _ => by omega⟩
  · let r : Int → Int := fun k => match s k with
      | .gap j => j
      | .tie _ _ => 0
    have hr : ∀ k, k ∈ ag f → s k = .gap (r k) := fun k hk => by
      simp only [r]
      cases q : s k with
      | gap j => rfl
      | tie w ps => exact absurd ⟨k, mem_gp.mpr hk, w, ps, q⟩ ht
    have e : sub s f = rn r f := by rw [rn_sub]; exact sub_congr f hr
    rw [e]
    have hsg := rn_sg r f
    have hgl : (gp (rn r f)).length ≤ ((gp f).map r).length := nodup_le (gp_nodup _) fun x hx => by
      have := mem_gp.mp hx
      rw [ag_rn] at this
      obtain ⟨k, hk, rfl⟩ := List.mem_map.mp this
      exact List.mem_map.mpr ⟨k, mem_gp.mpr hk, rfl⟩
    rw [List.length_map] at hgl
    unfold rk
    refine ⟨by omega, fun hne => ?_⟩
    have : (gp (rn r f)).length ≠ (gp f).length := fun he => hne (by
      have hi : InjG r f := by
        have hle : (gp (rn r f)).length ≤ (insL [] ((gp f).map r)).length := nodup_le (gp_nodup _) fun x hx => by
          have := mem_gp.mp hx
          rw [ag_rn] at this
          obtain ⟨k, hk, rfl⟩ := List.mem_map.mp this
          exact mem_insL.mpr (.inr (List.mem_map.mpr ⟨k, mem_gp.mpr hk, rfl⟩))
        have hle2 := insL_len (ns := (gp f).map r) (l := [])
        rw [List.length_map] at hle2
        simp only [List.length_nil, Nat.zero_add] at hle2
        obtain ⟨_, nd⟩ := insL_short (ns := (gp f).map r) (l := []) (by rw [List.length_map]; simp; omega)
        exact fun a ha b hb e => inj_of_nodup nd a (mem_gp.mpr ha) b (mem_gp.mpr hb) e
      rw [pl_rn hi])
    omega
end Fx
/-! FxP: covers as data; forms drawn with a budget; lesser. -/
namespace Fx
open PySem L2 PySem.Spec PyProof.Rows
section
variable {σ : L2.St} {H : Hp} {n : Nat} {t : TA} {E : XK} {f g : Fm}
theorem en_cov (h : EvA t σ H [f.d, g.d]) (h1 : f.ok = true) (h2 : f.dep ≤ n) (h3 : f.sg ≤ 5000) (h4 : g.ok = true) (h5 : g.dep ≤ 90) (e : (mt f g []).1 = true) : EvN (tCall (spCov n) [] E t) σ H (imF (mt f g []).2) := fun H1 s Q q => h H1 s _ fun vs H2 s2 rs => by
  obtain ⟨v1, _, rfl, r1, v2, _, rfl, r2, rfl⟩ := rs
  exact ⟨v1, v2, f, g, rfl, r1, r2, h1, h2, h3, h4, h5, fun _ p ys H' s' hp hp' hr => q p ys H' (s2.trans s') (s2.free hp) hp' hr, fun z => by rw [e] at z; cases z⟩
theorem ev_cov0 (h : EvA t σ H [f.d, g.d]) (h1 : f.ok = true) (h2 : f.dep ≤ n) (h3 : f.sg ≤ 5000) (h4 : g.ok = true) (h5 : g.dep ≤ 90) (e : (mt f g []).1 = false) : EvD (tCall (spCov n) [] E t) σ H .none := fun H1 s Q q => h H1 s _ fun vs H2 s2 rs => by
  obtain ⟨v1, _, rfl, r1, v2, _, rfl, r2, rfl⟩ := rs
  exact ⟨v1, v2, f, g, rfl, r1, r2, h1, h2, h3, h4, h5, (fun z => by rw [e] at z; cases z), fun _ H' s' => q _ H' (s2.trans s') rfl⟩
/-- whether covers hands back a dict, as data -/
theorem ev_covN (h : EvA t σ H [f.d, g.d]) (h1 : f.ok = true) (h2 : f.dep ≤ n) (h3 : f.sg ≤ 5000) (h4 : g.ok = true) (h5 : g.dep ≤ 90) : EvD (tNotN (tCall (spCov n) [] E t)) σ H (.bool (mt f g []).1) := by
  cases e : (mt f g []).1 with
  | true => exact ev_notN (en_cov h h1 h2 h3 h4 h5 e).t.d
  | false => exact ev_notN (ev_cov0 h h1 h2 h3 h4 h5 e)
theorem ev_covI (h : EvA t σ H [f.d, g.d]) (h1 : f.ok = true) (h2 : f.dep ≤ n) (h3 : f.sg ≤ 5000) (h4 : g.ok = true) (h5 : g.dep ≤ 90) : EvD (tIsN (tCall (spCov n) [] E t)) σ H (.bool (!(mt f g []).1)) := by
  cases e : (mt f g []).1 with
  | true => exact ev_isN (en_cov h h1 h2 h3 h4 h5 e).t.d
  | false => exact ev_isN (ev_cov0 h h1 h2 h3 h4 h5 e)
/-- form = _law_form([c, b], many, deep) -/
theorem w_sbudget {i : Nat} {te : TE} {u : TS} {D : Ends} {c b many : Int} {deep : Nat} (h : EvD te σ H (.int c)) (c0 : 0 ≤ c) (c1 : c < 2147483647) (hm : 0 ≤ many) (hd : 1 ≤ deep) (hn : deep ≤ n)
    (q : ∀ (f : Fm) v H1, Same H H1 → Rp H1 f.d v → f.gd many = true → f.dep ≤ deep → (f.sg : Int) ≤ max 1 (b - 4) + 4 * (deep - 1) → u D (σ.set i (some v)) H1) :
    tSeq (tAsg (tCall (spForm n) [] E (tCons (tLst (tCons te (tCons (tC (.int b)) tNil))) (tCons (tC (.int many)) (tCons (tC (.int deep)) tNil)))) (gName i)) u D σ H := by
  refine h H (Same.refl _) _ fun v H1 s1 r1 => ?_
  cases (show v = V.int c from r1)
  refine ⟨by show 2 ≤ sizeLine; decide, fun p hp => ?_⟩
  refine ⟨p, c, b, many, deep, rfl, upd_same, c0, c1, hm, hd, hn, fun f v H' a' k e _ _ r gd dp _ sg => ?_⟩
  exact q f v H' (fun x o hb => k x o (ne_of_none (s1 _ _ hb) hp) (Fx.Same.new hp _ _ (s1 _ _ hb))) r gd dp sg
end
theorem gd_sg2 {many : Int} : ∀ {f : Fm}, f.gd many = true → f.dep ≤ 2 → f.sg ≤ 5
  | .gap _, _, _ => by simp [Fm.sg]
  | .tie w ps, hg, hd => by
    simp only [Fm.gd, Bool.and_eq_true, decide_eq_true_eq] at hg
    have h1 : ∀ p, p ∈ ps → p.sg = 1 := fun p hp => by
      have h2 := Fm.dep_part hp
      simp only [Fm.dep] at hd
      cases p with
      | gap _ => rfl
      | tie v qs =>
        cases qs with
        | nil => rfl
        | cons q qs => have := q.dep_pos; simp only [Fm.dep, Fm.depL] at h2; omega
    have h3 : ∀ l : List Fm, (∀ p, p ∈ l → p.sg = 1) → Fm.sgL l = l.length := by
      intro l
      induction l with
      | nil => intro _; rfl
      | cons a l ih => intro h; simp only [Fm.sgL, List.length_cons, ih fun p hp => h p (by simp [hp]), h a (by simp)]; omega
    simp only [Fm.sg, h3 ps h1]
    omega
/-- _law_lesser(one, other), asked where one covers other -/
def spLesser (n : Nat) : Sp := spP fun ds r => ∃ (f : Fm) (s : Int → Fm), ds = [f.d, (sub s f).d] ∧ r = .bool true ∧ f.ok = true ∧ f.dep ≤ n ∧ f.sg ≤ 5000 ∧ (sub s f).ok = true ∧ (sub s f).dep ≤ n ∧ (sub s f).sg ≤ 5000
theorem spLesser.len {n : Nat} : ∀ vs H Q E, spLesser n vs H Q E → vs.length = 2 := spP.len fun ds d ⟨f, g, e, _⟩ => by rw [e]; rfl
end Fx
/-! FxQ: max(xs, default=d) of a list of whole numbers. -/
namespace PySem
open Sem (wp)
section
variable {prog : Program} {w : World} {A : Around} {R : Result → Shared → Prop} {It : Addr} {f1 f2 : List Addr} {n : Nat} {P : Nat → Value → Prop} {St : Nat → Heap → Prop}
/-- what the loop has kept behind j items -/
def fxKept (P : Nat → Value → Prop) (bt : Nat → Nat → Bool) (j : Nat) (xs : Array Value) : Prop := (j = 0 ∧ xs = #[]) ∨ ∃ i u, j = i + 1 ∧ xs = #[u, u] ∧ P (argBest bt i) u
/-- its answer -/
def fxBest (P : Nat → Value → Prop) (bt : Nat → Nat → Bool) (n : Nat) (d v : Value) : Prop := (n = 0 ∧ v = d) ∨ (0 < n ∧ P (argBest bt (n - 1)) v)
theorem fx_maxD_loop {d : Value} (W : Walks prog w A.in1 It f1 f2 n P St) (bt : Nat → Nat → Bool) (cmp : CmpOf prog w A.in1 .Gt P bt) (B : Addr) (hB : B ∉ f1) : ∀ (k j : Nat) (s : Shared) (xs : Array Value) (c : Nat),
    n - j = k → j ≤ n → St j s.heap → fxKept P bt j xs → s.heap.get? B = some ⟨.type "list", none, .seq xs c, #[]⟩ →
    (∀ v g tk, fxBest P bt n d v → (∀ b o, b ∉ f2 → b ≠ B → s.heap.get? b = some o → g.get? b = some o) → R (.ok (.ret v)) { s with heap := g, toks := tk }) →
    codeAny (model prog w) A (.builtin "max.loop" ⟨[.ref It, .none, .ref B], [((Str.ofString "default"), d)]⟩) R s := by
  have hB2 : B ∉ f2 := fun h => hB (W.sub _ h)
  have nm : (toString "max" ++ toString ".loop" : String) = "max.loop" := by decide
  intro k
  induction k with
  | zero =>
    intro j s xs c ek hj st kp ob out
    have e : j = n := by omega
    subst e
    refine codeAny_builtin F.entry_max_loop ?_
    rw [Around.under_plainId F.plain_max_loop _]
    refine wpAny_bind (wpAny_seqItems ob rfl ?_)
    refine wpAny_bind (wpAny_tryCatch (W.done s _ _ st fun g tk kg => ?_))
    have ob2 := kg B _ hB2 ob
    rcases kp with ⟨rfl, rfl⟩ | ⟨i, u, rfl, rfl, hu⟩
    · refine wpAny_bind (wpAny_rule ?_)
      exact wpAny_pure (out d g tk (.inl ⟨rfl, rfl⟩) fun b o h _ q => kg b o h q)
    · refine wpAny_bind (wpAny_updateSeq ob2 rfl (wpAny_bind (wpAny_letGo (wpAny_pure ?_))))
      exact out u _ tk (.inr ⟨Nat.succ_pos _, hu⟩) fun b o h z q => (Heap.get?_update_other _ _ (Ne.symm z)).trans (kg b o h q)
  | succ k ih =>
    intro j s xs c ek hj st kp ob out
    have lt : j < n := by omega
    refine codeAny_builtin F.entry_max_loop ?_
    rw [Around.under_plainId F.plain_max_loop _]
    refine wpAny_bind (wpAny_seqItems ob rfl ?_)
    refine wpAny_bind (wpAny_tryCatch (W.item j s _ _ lt st fun v g tk hv st2 kg => ?_))
    have ob2 := kg B _ hB2 ob
    have keepF : ∀ (q : Obj → Obj) b, b ∈ f1 → ∀ o, g.get? b = some o → (g.update B q).get? b = some o := fun q b hb o z => (Heap.get?_update_other _ _ (fun h => hB (by rw [h]; exact hb))).trans z
    rcases kp with ⟨rfl, rfl⟩ | ⟨i, u, rfl, rfl, hu⟩
    · refine wpAny_bind (wpAny_pure ?_)
      refine wpAny_bind (show wpAny _ _ (updateSeq B (fun _ => #[v, v])) _ _ _ from ?_)
      refine wpAny_updateSeq ob2 rfl ?_
      rw [nm]
      refine wpAny_pure ⟨plainId_quiet F.plain_max_loop _, ih 1 _ #[v, v] _ (by omega) lt (W.frame _ _ _ st2 (keepF _)) (.inr ⟨0, v, rfl, rfl, hv⟩) (Heap.get?_update_self _ ob2 rfl) fun v' g' tk' b1 b2 => ?_⟩
      exact out v' g' tk' b1 fun b o h z q => b2 b o h z ((Heap.get?_update_other _ _ (Ne.symm z)).trans (kg b o h q))
    · refine wpAny_bind (wpAny_pure ?_)
      refine wpAny_bind (show wpAny _ _ (tryCatch (holding [v, v] (richCompare .Gt v u >>= _)) _) _ _ _ from ?_)
      refine wpAny_tryCatch (wpAny_holding (wpAny_bind (cmp (i + 1) (argBest bt i) v u _ _ _ hv hu ?_)))
      refine wpAny_bind (wpAny_holding (wpAny_truthy_bool ?_))
      refine wpAny_bind (wpAny_letGo (wpAny_pure ?_))
      cases hb : bt (i + 1) (argBest bt i) with
      | true =>
        simp only [if_true]
        refine wpAny_bind (wpAny_updateSeq ob2 rfl (wpAny_bind (wpAny_letGo ?_)))
        rw [nm]
        refine wpAny_pure ⟨plainId_quiet F.plain_max_loop _, ih (i + 2) _ #[v, v] _ (by omega) lt (W.frame _ _ _ st2 (keepF _)) (.inr ⟨i + 1, v, rfl, rfl, by simp only [argBest, hb, if_true]; exact hv⟩) (Heap.get?_update_self _ ob2 rfl) fun v' g' tk' b1 b2 => ?_⟩
        exact out v' g' tk' b1 fun b o h z q => b2 b o h z ((Heap.get?_update_other _ _ (Ne.symm z)).trans (kg b o h q))
      | false =>
        simp only [Bool.false_eq_true, if_false]
        refine wpAny_bind (wpAny_letGo ?_)
        rw [nm]
        refine wpAny_pure ⟨plainId_quiet F.plain_max_loop _, ih (i + 2) _ #[u, u] c (by omega) lt st2 (.inr ⟨i + 1, u, rfl, rfl, by simp only [argBest, hb, Bool.false_eq_true, if_false]; exact hu⟩) ob2 fun v' g' tk' b1 b2 => ?_⟩
        exact out v' g' tk' b1 fun b o h z q => b2 b o h z (kg b o h q)
end
theorem F.fx_args_maxD (a d : Value) : argsOk "max" ⟨[a], [((Str.ofString "default"), d)]⟩ := by unfold argsOk; kernel_rfl
section
variable {prog : Program} {w : World} {A : Around} {E : Value → Shared → Prop} {s : Shared} {l : Addr} {xs : Array (Int × Tok)}
theorem fx_call_kwTree {id : String} {b : Builtin} {args : List Value} {kw : List (Str × Value)} {Q : Value → Shared → Prop} (hk : builtinKind id = none) (hp : plainId id = true) (hb : entryFor table id = some b) (ha : argsOk id ⟨args, kw⟩)
    (hc : wpAny (model prog w) A.in1 (b ⟨args, kw⟩) (fun fin t => match fin with
      | .done f => (match (Except.ok f : Result) with | .ok (.ret v) => Q v t | .ok _ => False | .error e => E e t)
      | .again c => c.quiet = true ∧ codeAny (model prog w) A c (fun r t => match r with | .ok (.ret v) => Q v t | .ok _ => False | .error e => E e t) t) E s) : wpAny (model prog w) A (call (.builtin id) args kw) Q E s := by
  refine wpAny_call (codeAny_call_builtin hp hb ?_)
  simp only [checkBuiltinCall, hk]
  cases sg : Manifest.signature? id with
  | none => exact wpAny_pure hc
  | some sig =>
    have z : Bind.checkArgs id sig ⟨args, kw⟩ = pure () := by simpa only [argsOk, sg] using ha
    show wpAny _ A.in1 (Bind.checkArgs id sig ⟨args, kw⟩) _ _ s
    rw [z]
    exact wpAny_pure hc
theorem fx_maxD {d : Value} {Q : Value → Shared → Prop} (hh : A.handled = none) (hl : s.heap.IsList l (intItems xs))
    (h : ∀ v g tk, fxBest (fun i v => (intItems xs)[i]? = some v) (fun i j => decide (numAt xs i > numAt xs j)) xs.size d v → (∀ b o, s.heap.get? b = some o → g.get? b = some o) → Q v { s with heap := g, toks := tk }) :
    wpAny (model prog w) A (call (.builtin "max") [.ref l] [((Str.ofString "default"), d)]) Q E s := by
  have nm : (toString "max" ++ toString ".loop" : String) = "max.loop" := by decide
  refine fx_call_kwTree F.kind_max F.plain_max F.entry_max (F.fx_args_maxD _ _) ?_
  show wpAny _ A.in1 (Builtin.Builtins.bindParams "max" ["key", "default"] 0 ⟨[], [((Str.ofString "default"), d)]⟩ >>= _) _ _ s
  refine wpAny_bind (wpAny_of_eq (a := [none, some d]) (by first | rfl | kernel_rfl) ?_)
  refine wpAny_bind (wpAny_pure ?_)
  refine wpAny_bind (iter_intList hl fun s2 e st hfp hne => ?_)
  subst e
  refine wpAny_bind (wpAny_newObj_type ?_)
  rw [nm]
  have hB : (s.heap.push { cls := .type "list_iterator", data := .fields #[.ref l, .int 0 0] }).objs.size ∉ [s.heap.objs.size, l] := fun hm => Nat.lt_irrefl _ (hfp _ hm)
  have W := Walks.list (prog := prog) (w := w) (A := A.in1) hh s.heap.objs.size l hne (intItems xs)
  refine wpAny_pure ⟨plainId_quiet F.plain_max_loop _, fx_maxD_loop W _ (CmpOf.ints_gt (numAt xs) (fun _ _ => intItems_at)) _ hB _ 0 _ #[] _ rfl (Nat.zero_le _) (W.frame _ _ _ st fun b _ o q => Heap.get?_push_of_some _ q) (.inl ⟨rfl, rfl⟩) (Heap.get?_push_size _ rfl) fun v g tk hv kg => ?_⟩
  refine h v g tk (by simpa [intItems] using hv) (old_kept fun b o hb q => kg b o hb (Nat.ne_of_lt (Heap.lt_size q)) (Heap.get?_push_of_some _ q))
end
end PySem
/-! FxR: more expressions; own exceptions: raised, caught, asked. -/
namespace Fx
open PySem L2 PySem.Spec PyProof.Rows
/-! ### max(xs, default=d) -/
def rMaxD (K : PySem.W.Frag) : List V → List V → Hp → VK → Prop := fun vs zs H Q => ∃ (a : Addr) (ns : List Int) (d : Int), vs = [.ref a] ∧ zs = [.int d] ∧ SqL K H a (ns.map V.int) ∧
  ∀ m, (ns = [] → m = d) → (ns ≠ [] → m ∈ ns ∧ ∀ y, y ∈ ns → y ≤ m) → Q (.int m) H
theorem cr_maxD {X : Cx} (hc : X.calm = true) : CallRK X (.builtin "max") ["default"] (rMaxD X.K) := by
  intro pins s σ H vs zs us ws Q I r rz h
  obtain ⟨a, ns, d, rfl, rfl, hs, q⟩ := h
  obtain ⟨its, rv, hl, _⟩ := I.list hs
  rw [Vals.ref1 r]
  cases rz with
  | cons ru rn =>
    rename_i u us'
    cases rn
    obtain ⟨t, rfl⟩ := ru
    obtain ⟨xs, e⟩ := rv.ints.allInts.items
    have hn : numsOf (intItems xs).toList = ns := by rw [← e]; exact rv.ints.numsOf
    rw [nums_intItems] at hn
    have hl' := hl.isList
    rw [e] at hl'
    refine fx_maxD (I.ok.hd hc) hl' fun v g tk hv kg => ?_
    have len : ns.length = xs.size := by rw [← hn]; simp
    rcases hv with ⟨h0, rfl⟩ | ⟨h0, hv⟩
    · have e0 : ns = [] := List.length_eq_zero_iff.mp (by rw [len, h0])
      exact ⟨.int d, H, I.kept kg, ⟨_, rfl⟩, q d (fun _ => rfl) fun z => absurd e0 z⟩
    · obtain ⟨t, rfl⟩ := intItems_at hv
      obtain ⟨h1, h2⟩ := argBest_gt (numAt xs) (xs.size - 1)
      refine ⟨.int _, H, I.kept kg, ⟨_, rfl⟩, q _ (fun z => by rw [z] at len; simp at len; omega) fun _ => ⟨?_, fun y hy => ?_⟩⟩
      · rw [← hn, numAt_eq]; exact PySem.getD_mem (by rw [List.length_map, Array.length_toList]; omega)
      · rw [← hn] at hy
        obtain ⟨j, hj, rfl⟩ := mem_getD hy
        rw [List.length_map, Array.length_toList] at hj
        rw [← numAt_eq]; exact h2 j (by omega)
def rMin2 : List V → Hp → VK → Prop := fun xs H Q => ∃ i j, xs = [.int i, .int j] ∧ Q (.int (if j < i then j else i)) H
theorem cr_min2 {X : Cx} (hc : X.calm = true) : CallR X (.builtin "min") rMin2 := call_min2 hc
section
variable {K : PySem.W.Frag} {σ : L2.St} {H : Hp} {ta tb tc te : TE} {ds es : List PyData} {d e f : PyData} {i j k : Int}
theorem ev_maxD {ns : List Int} {m : Int} (h : EvD te σ H (.list (ns.map PyData.int))) (hd : EvD tb σ H (.int d0)) (h0 : ns = [] → m = d0) (h1 : ns ≠ [] → m ∈ ns ∧ ∀ y, y ∈ ns → y ≤ m) : EvD (tCKw (rMaxD K) (tCons te tNil) (tCons tb tNil)) σ H (.int m) := fun H1 s Q q =>
  h H1 s _ fun v H2 s2 r2 => hd H2 (s.trans s2) _ fun u H3 s3 r3 => by
    obtain ⟨a, xs, rfl, ha, hr⟩ := r2.mono s3
    cases (show u = V.int d0 from r3)
    refine ⟨a, ns, d0, rfl, rfl, by rw [← RpL.ints_inv hr]; exact .of ha, fun m' z0 z1 => ?_⟩
    have e : m' = m := by
      by_cases hn : ns = []
      · rw [z0 hn, h0 hn]
      · obtain ⟨a1, a2⟩ := z1 hn
        obtain ⟨b1, b2⟩ := h1 hn
        have := a2 _ b1
        have := b2 _ a1
        omega
    subst e
    exact q _ H3 (s2.trans s3) rfl
/-! ### chains -/
theorem ev_chain {r r' : R2} {b1 b2 : Bool} (ha : EvD ta σ H d) (hb : EvD tb σ H e) (hc : EvD tc σ H f) (h1 : OpD r d e (.bool b1)) (h2 : b1 = true → OpD r' e f (.bool b2)) : EvD (tChain r r' ta tb tc) σ H (.bool (b1 && b2)) := fun H1 s Q q =>
  ha H1 s _ fun x H2 s2 r2 => hb H2 (s.trans s2) _ fun y H3 s3 r3 => h1 H3 x y (r2.mono s3) r3 _ fun z H4 s4 r4 => by
    refine ⟨b1, r4, ?_⟩
    cases b1 with
    | true => exact iteT (hc H4 (((s.trans s2).trans s3).trans s4) _ fun w H5 s5 r5 => h2 rfl H5 y w ((r3.mono s4).mono s5) r5 Q fun v H6 s6 r6 => q v H6 ((((s2.trans s3).trans s4).trans s5).trans s6) r6)
    | false => exact iteF (q _ H4 ((s2.trans s3).trans s4) rfl)
theorem od_le : OpD (rI0 fun i j => .bl (decide (i ≤ j))) (.int i) (.int j) (.bool (decide (i ≤ j))) := od_I0 fun _ => rfl
theorem od_lt : OpD (rI0 fun i j => .bl (decide (i < j))) (.int i) (.int j) (.bool (decide (i < j))) := od_I0 fun _ => rfl
/-! ### texts -/
def rInS : R2 := fun x y H Q => ∃ (c : Nat) (z : Str), x = .str ⟨#[c]⟩ ∧ y = .str z ∧ Q (.bl (decide (c ∈ z.cps.toList))) H
def rNinS : R2 := fun x y H Q => ∃ (c : Nat) (z : Str), x = .str ⟨#[c]⟩ ∧ y = .str z ∧ Q (.bl (!decide (c ∈ z.cps.toList))) H
theorem op_inS {X : Cx} : OpR X (compareOp .In) rInS := op_in_sign
theorem op_ninS {X : Cx} : OpR X (compareOp .NotIn) rNinS := op_notIn_sign
theorem ev_inS {c : Nat} {z : Str} (ha : EvD ta σ H (.str ⟨#[c]⟩)) (hb : EvD tb σ H (.str z)) : EvD (tOp rInS ta tb) σ H (.bool (decide (c ∈ z.cps.toList))) := ev_op ha hb fun H x y hx hy Q q => by
  cases (show x = V.str _ from hx)
  cases (show y = V.str _ from hy)
  exact ⟨c, z, rfl, rfl, q _ H (Same.refl _) rfl⟩
theorem ev_ninS {c : Nat} {z : Str} (ha : EvD ta σ H (.str ⟨#[c]⟩)) (hb : EvD tb σ H (.str z)) : EvD (tOp rNinS ta tb) σ H (.bool (!decide (c ∈ z.cps.toList))) := ev_op ha hb fun H x y hx hy Q q => by
  cases (show x = V.str _ from hx)
  cases (show y = V.str _ from hy)
  exact ⟨c, z, rfl, rfl, q _ H (Same.refl _) rfl⟩
theorem ev_ixS {c : Nat} {z : Str} (ha : EvD ta σ H (.str z)) (hb : EvD tb σ H (.int i)) (hz : z.length ≤ sizeLine) (e : atI z.cps.toList i = some c) : EvD (tOp rIxS ta tb) σ H (.str ⟨#[c]⟩) := ev_op ha hb (od_ixS hz e)
def rJoin (K : PySem.W.Frag) : V → List V → Hp → VK → Prop := fun x xs H Q => ∃ a p, ∃ ys : List Str, x = .str a ∧ xs = [.ref p] ∧ (SqL K H p (ys.map V.str) ∨ SqT K H p (ys.map V.str)) ∧ (ys.map (·.length)).sum + ys.length * a.length ≤ 16777216 ∧ Q (.str (Txt.join a ys)) H
theorem pe_joinR {X : Cx} {o e : Expr} {to te : TE} {apos pos : Pos} (ho : PE X o to) (he : PE X e te) (hs : starEach [e] X.env = [(false, eval e X.env)] := by rfl) (hbase : attributeBase o "join" X.env (eval o X.env) = eval o X.env := by rfl) (hline : (apos.endLine == pos.line) = true := by rfl) :
    PE X (.Call (.Attribute o "join" apos) [e] [] pos) (tM1 (rJoin X.K) to te) := pe_join ho he hs hbase hline
theorem ev_join {a : Str} {ys : List Str} (ha : EvD ta σ H (.str a)) (hb : EvD tb σ H (.list (ys.map PyData.str))) (hz : (ys.map (·.length)).sum + ys.length * a.length ≤ 16777216) : EvD (tM1 (rJoin K) ta tb) σ H (.str (Txt.join a ys)) := fun H1 s Q q =>
  ha H1 s _ fun x H2 s2 r2 => by
    cases (show x = V.str _ from r2)
    refine ⟨⟨a, rfl⟩, hb H2 (s.trans s2) _ fun y H3 s3 r3 => ?_⟩
    obtain ⟨p, xs, rfl, hp, hr⟩ := r3
    exact ⟨a, p, ys, rfl, rfl, .inl (by rw [← RpL.strs_inv hr]; exact .of hp), hz, q _ H3 (s2.trans s3) rfl⟩
/-- '..'.join(..) -/
theorem ev_min2 (ha : EvD ta σ H (.int i)) (hb : EvD tb σ H (.int j)) : EvD (tCB rMin2 (tCons ta (tCons tb tNil))) σ H (.int (min i j)) := ev_cb (ea_cons ha (ea_cons hb ea_nil)) fun H xs hx Q q => by
  obtain ⟨v, _, rfl, hv, u, _, rfl, hu, rfl⟩ := hx
  cases (show v = V.int i from hv)
  cases (show u = V.int j from hu)
  refine ⟨i, j, rfl, q _ H (Same.refl _) ?_⟩
  show V.int _ = V.int _
  by_cases h : j < i
  · rw [if_pos h, Int.min_eq_right (by omega)]
  · rw [if_neg h, Int.min_eq_left (by omega)]
/-! ### lists -/
theorem ev_catL (ha : EvD ta σ H (.list ds)) (hb : EvD tb σ H (.list es)) (hl : ds.length + es.length ≤ 1000) : EvD (tOp rCat ta tb) σ H (.list (ds ++ es)) := ev_op ha hb fun H x y hx hy Q q => by
  obtain ⟨a, xs, rfl, ha, hr⟩ := hx
  obtain ⟨b, ys, rfl, hb, hs⟩ := hy
  refine ⟨a, b, xs, ys, rfl, rfl, ha, hb, by rw [hr.length, hs.length]; exact le1000 hl, fun p hp => q _ _ (Same.new hp) ⟨p, _, rfl, upd_same, ?_⟩⟩
  exact (hr.append hs).mono (Same.new hp)
theorem ev_indexD (ha : EvD ta σ H (.list ds)) (hb : EvD tb σ H d) {j : Nat} {z : PyData} (h1 : SeqAt.shaped (.list ds) = true) (h2 : SeqAt.shaped d = true) (h3 : ds[j]? = some z) (h4 : PyData.eqv z d = true) (h5 : ∀ (m : Nat) (z' : PyData), m < j → ds[m]? = some z' → PyData.eqv z' d = false) :
    EvD (tBM K "list" (rIndexD K) ta (tCons tb tNil)) σ H (.int j) := fun H1 s Q q =>
  ha H1 s _ fun x H2 s2 r2 => by
    have r2' := r2
    obtain ⟨a, xs, rfl, ea, hr⟩ := r2
    refine ⟨.inl ⟨rfl, xs, .of ea⟩, hb H2 (s.trans s2) _ fun y H3 s3 r3 => ?_⟩
    exact ⟨a, y, d, ds, j, z, rfl, rfl, Rp.dp _ _ (SeqAt.canLay_of_shaped h1) (r2'.mono s3), Rp.dp _ _ (SeqAt.canLay_of_shaped h2) r3, h1, h2, h3, h4, h5, q _ H3 (s2.trans s3) rfl⟩
theorem ev_pow (ha : EvD ta σ H (.int i)) (hb : EvD tb σ H (.int j)) (h : CPow i j) : EvD (tOp (rI CPow fun i j => .int (i ^ j.toNat)) ta tb) σ H (.int (i ^ j.toNat)) := ev_op ha hb (od_I h fun _ => rfl)
theorem ev_neg (ha : EvD ta σ H (.int i)) : EvD (tUn (rU fun i => .int (-i)) ta) σ H (.int (-i)) := fun H1 s Q q => ha H1 s _ fun x H2 s2 r2 => ⟨i, r2, q _ H2 s2 rfl⟩
end
/-! ### own exceptions -/
/-- the class x of the text, at C: an error over ValueError without own __init__ -/
structure ExC (K : PySem.W.Frag) (mg : Str → Option Value) (x : Str) (C : Addr) : Prop where
  g : mg x = some (.ref C)
  q : PySem.W.excIn K C [.type "ValueError", .type "Exception", .type "BaseException", .type "object"] "ValueError.__new__" = true
  k : PySem.W.keepIn K (.ref C) = true
  b : PySem.W.subIn K (.ref C) (.type "BaseException") = some true
  t : PySem.W.typeIn K (.ref C) = some (.type "type")
  hg : PySem.W.findIn K (.ref C) "__getattribute__" = some (some (.builtin "BaseException.__getattribute__"))
  hk : PySem.W.findIn K (.ref C) "__getattr__" = some none
  hd : PySem.W.hasDictIn K C = true
  ha : PySem.W.findIn K (.ref C) "__class__" = some (some (.builtin "object.__class__"))
  hn : PySem.W.specialIn K (.builtin "object.__class__") "__get__" = some (some (.builtin "getset_descriptor.__get__"))
  ht : PySem.W.takesIn K (.builtin "object.__class__") = some true
  hm : PySem.W.mroIn K C (.type "object") = some true
  v : PySem.W.kitOne K (.ref C) (.type "ValueError") = some true
theorem ExC.cls {K : PySem.W.Frag} {mg : Str → Option Value} {x : Str} {C : Addr} (X : ExC K mg x C) : L2.ExcC K C := ⟨X.hg, X.hk, X.b, X.hd, X.ha, X.hn, X.ht, X.hm⟩
/-- how the class x stands to the class y -/
def SubC (K : PySem.W.Frag) (mg : Str → Option Value) (x y : Str) (b : Bool) : Prop := ∀ C D, mg x = some (.ref C) → mg y = some (.ref D) → PySem.W.kitOne K (.ref C) (.ref D) = some b ∧ PySem.W.subIn K (.ref C) (.ref D) = some b
theorem SubC.exm {K : PySem.W.Frag} {mg : Str → Option Value} {x y : Str} {b : Bool} {C D : Addr} (S : SubC K mg x y b) (X : ExC K mg x C) (Y : ExC K mg y D) : PySem.W.exmOne K (.ref C) (.ref D) = some b := PySem.W.exm_ref Y.b Y.hd Y.t (S C D X.g Y.g).2
/-- isinstance(e, c), e the exception that the suite holds, of a class told by cls -/
def rIsC (K : PySem.W.Frag) (cls : Value) (d : Option Addr) (a : Addr) : List V → Hp → VK → Prop := fun xs H Q => d = none ∧ ∃ D : Addr, cls = .ref D ∧ L2.ExcC K D ∧ rIsE K D a xs H Q
theorem call_isC {X : Cx} {a : Addr} {cls : Value} {d : Option Addr} {oe : Obj} {pn : List (Addr × Obj)} (hz : Zc cls d oe) (hf : ∃ vs, oe.data = .fields vs) : CallR (X.suite a ((a, oe) :: pn)) (.builtin "isinstance") (rIsC X.K cls d a) := by
  intro pins s σ H xs us Q I r h
  obtain ⟨rfl, D, rfl, C, h⟩ := h
  exact call_isE C hz hf pins s σ H xs us Q I r h
section
variable {K : PySem.W.Frag} {σ : L2.St} {H : Hp} {a D : Addr} {i : Nat} {b : Bool}
theorem ev_isC {C : Addr} (h : σ[i]? = some (some (.ref a))) (X : L2.ExcC K D) (e : PySem.W.kitOne K (.ref D) (.ref C) = some b) : EvD (tCB (rIsC K (.ref D) none a) (tCons (tVar i) (tCons (tC (.ref C)) tNil))) σ H (.bool b) := fun H1 s Q q =>
  ⟨.ref a, h, rfl, D, rfl, X, .ref C, .ref C, b, rfl, fun u hu => hu, e, q _ H1 (Same.refl _) rfl⟩
theorem ev_isCT {C : String} (h : σ[i]? = some (some (.ref a))) (X : L2.ExcC K D) (e : PySem.W.kitOne K (.ref D) (.type C) = some b) : EvD (tCB (rIsC K (.ref D) none a) (tCons (tVar i) (tCons (tC (.ty C)) tNil))) σ H (.bool b) := fun H1 s Q q =>
  ⟨.ref a, h, rfl, D, rfl, X, .ty C, .type C, b, rfl, fun u hu => hu, e, q _ H1 (Same.refl _) rfl⟩
end
theorem takesN {X : Cx} : Takes X (fun _ _ _ _ => False) := fun _ _ ⟨_, _, _, _, _, _, _, _, _, _, _, _, _, _, _, _, z⟩ => z.elim
/-- a def that may raise, called where it doesn't -/
theorem passN {X : Cx} : Passes (L2.CX X.prog X.w) X (fun _ _ _ => False) := fun _ _ _ _ _ _ _ ⟨_, _, _, _, _, _, _, _, _, _, _, _, z⟩ => z.elim
section
variable {X : Cx} {CX : CXT} {lv : Nat} {x : Str} {ps : List Str} {sp : Sp} {E : L2.St → XK} {e : Expr} {es : List Expr} {t : TA} {p pos : Pos}
theorem pe_dfS (D : Df X.prog X.w X.K X.mg X.base CX lv x ps sp) (hr : Room lv X.A) (hg : Gl X x) (hx : ∀ σ, PassesAt CX X σ (E σ))
    (ha : PA X (e :: es) t) (hdb : (x == ("__debug__" : Str)) = false := by decide) (he : starEach (e :: es) X.env = (false, eval e X.env) :: starEach es X.env := by rfl) (hpl : (backTo pos (starEach es X.env)).any (·.1) = false := by rfl) :
    PE X (.Call (.Name x p) (e :: es) [] pos) (tCallS sp E t) := by
  obtain ⟨f, fd, F, hb, hk, hm⟩ := D
  exact pe_callS F hr hg hm hk (Binds.all hb) hx ha hdb he hpl
end
/-- what a def does that reckons, or raises -/
inductive Out where
  | ok (d : PyData)
  | err (x : Str)
def spE (mg : Str → Option Value) (R : List PyData → Out → Prop) : Sp := fun vs H Q E => ∃ ds o, RpL H ds vs ∧ R ds o ∧ match o with
  | .ok d => ∀ v H', Same H H' → Rp H' d v → Q v H'
  | .err x => ∀ C H', mg x = some (.ref C) → Same H H' → E (.ref C) none H'
theorem spE.len {mg : Str → Option Value} {R : List PyData → Out → Prop} {n : Nat} (h : ∀ ds d, R ds d → ds.length = n) : ∀ vs H Q E, spE mg R vs H Q E → vs.length = n := fun vs H Q E ⟨ds, d, hR, hr, _⟩ => by rw [hR.length, h ds d hr]
theorem spE.d {mg : Str → Option Value} {R : List PyData → Out → Prop} {ds : List PyData} {d : PyData} (h : R ds (.ok d)) : SpD (spE mg R) ds d := fun H xs hx Q E q => ⟨ds, .ok d, hx, h, q⟩
end Fx
/-! GxA: what gaps are known to hold; unifiers (no program in sight). -/
namespace Fx
open PySem L2 PySem.Spec PyProof.Rows
/-- a form, or what its gap is known to hold -/
def met : FI → Fm → Fm
  | [], f => f
  | p :: m, f => if f = .gap p.1 then met m p.2 else met m f
/-- how many steps that takes -/
def hops : FI → Fm → Nat
  | [], _ => 0
  | p :: m, f => if f = .gap p.1 then hops m p.2 + 1 else hops m f
/-- numbers stand once; gaps hold later gaps only -/
def Tri : FI → Prop
  | [] => True
  | p :: m => p.2 ≠ .gap p.1 ∧ (∀ q, q ∈ m → q.1 ≠ p.1 ∧ q.2 ≠ .gap p.1) ∧ Tri m
theorem met_tie {w : Str} {ps : List Fm} : ∀ m : FI, met m (.tie w ps) = .tie w ps
  | [] => rfl
  | p :: m => by rw [met, if_neg (fun z => by cases z)]; exact met_tie m
theorem met_not {x : Int} : ∀ {m : FI} {f : Fm}, f ≠ .gap x → (∀ q, q ∈ m → q.2 ≠ .gap x) → met m f ≠ .gap x
  | [], f, h, _ => h
  | p :: m, f, h, hm => by
    rw [met]; split
    · exact met_not (hm p (by simp)) fun q hq => hm q (by simp [hq])
    · exact met_not h fun q hq => hm q (by simp [hq])
theorem met_free : ∀ {m : FI} {f : Fm}, Tri m → ∀ p, p ∈ m → met m f ≠ .gap p.1
  | q :: m, f, ⟨h1, h2, h3⟩, p, hp => by
    rcases List.mem_cons.mp hp with rfl | hp
    · rw [met]; split
      · exact met_not h1 fun r hr => (h2 r hr).2
      · rename_i h; exact met_not h fun r hr => (h2 r hr).2
    · rw [met]; split
      · exact met_free h3 p hp
      · exact met_free h3 p hp
theorem lk_cons {p : Int × Fm} {m : FI} {k : Int} : lk (p :: m) k = if p.1 = k then some p.2 else lk m k := by
  by_cases e : p.1 = k <;> simp [lk, e]
theorem met_lk : ∀ {m : FI} {k : Int} {t : Fm}, Tri m → lk m k = some t → met m (.gap k) = met m t ∧ hops m (.gap k) = hops m t + 1
  | p :: m, k, t, ⟨h1, h2, h3⟩, e => by
    rw [lk_cons] at e
    by_cases c : p.1 = k
    · rw [if_pos c] at e
      cases e
      subst c
      simp only [met, hops, if_true, if_neg h1, and_self]
    · rw [if_neg c] at e
      obtain ⟨i1, i2⟩ := met_lk h3 e
      have n1 : ¬ (Fm.gap k = Fm.gap p.1) := fun z => c (Fm.gap.inj z).symm
      have n2 : t ≠ .gap p.1 := (h2 _ (lk_mem e)).2
      simp only [met, hops, if_neg n1, if_neg n2]
      exact ⟨i1, i2⟩
theorem met_none : ∀ {m : FI} {k : Int}, lk m k = none → met m (.gap k) = .gap k ∧ hops m (.gap k) = 0
  | [], k, _ => ⟨rfl, rfl⟩
  | p :: m, k, e => by
    rw [lk_cons] at e
    by_cases c : p.1 = k
    · rw [if_pos c] at e; cases e
    · rw [if_neg c] at e
      have n1 : ¬ (Fm.gap k = Fm.gap p.1) := fun z => c (Fm.gap.inj z).symm
      simp only [met, hops, if_neg n1]
      exact met_none e
theorem met_unb {m : FI} {f : Fm} {k : Int} (h : Tri m) (e : met m f = .gap k) : lk m k = none := by
  cases q : lk m k with
  | none => rfl
  | some t => exact absurd e (met_free h _ (lk_mem q))
theorem met_src : ∀ (m : FI) (f : Fm), met m f = f ∨ ∃ p, p ∈ m ∧ met m f = p.2
  | [], f => .inl rfl
  | p :: m, f => by
    rw [met]; split
    · rcases met_src m p.2 with h | ⟨q, hq, h⟩
      · exact .inr ⟨p, by simp, h⟩
      · exact .inr ⟨q, by simp [hq], h⟩
    · rcases met_src m f with h | ⟨q, hq, h⟩
      · exact .inl h
      · exact .inr ⟨q, by simp [hq], h⟩
theorem tri_snoc {x : Int} {t : Fm} : ∀ {m : FI}, Tri m → lk m x = none → t ≠ .gap x → (∀ p, p ∈ m → t ≠ .gap p.1) → Tri (m ++ [(x, t)])
  | [], _, _, h, _ => ⟨h, (fun _ hq => by cases hq), trivial⟩
  | p :: m, ⟨h1, h2, h3⟩, hx, ht, hm => by
    rw [lk_cons] at hx
    by_cases c : p.1 = x
    · rw [if_pos c] at hx; cases hx
    · rw [if_neg c] at hx
      refine ⟨h1, fun q hq => ?_, tri_snoc h3 hx ht fun q hq => hm q (by simp [hq])⟩
      rcases List.mem_append.mp hq with hq | hq
      · exact h2 q hq
      · have : q = (x, t) := List.mem_singleton.mp hq
        subst this
        exact ⟨fun z => c z.symm, hm p (by simp)⟩
theorem tri_nodup : ∀ {m : FI}, Tri m → (m.map (·.1)).Nodup
  | [], _ => List.nodup_nil
  | p :: m, ⟨_, h2, h3⟩ => List.nodup_cons.mpr ⟨fun z => by
      obtain ⟨q, hq, e⟩ := List.mem_map.mp z
      exact (h2 q hq).1 e, tri_nodup h3⟩
theorem lk_snoc {m : FI} {x k : Int} {t : Fm} (h : lk m x = none) : lk (m ++ [(x, t)]) k = if k = x then some t else lk m k := by
  have hn : ¬ x ∈ m.map (·.1) := fun z => by obtain ⟨f, e⟩ := lk_isSome z; rw [h] at e; cases e
  rw [← pt_new hn, lk_pt]
/-- a substitution that has what the gaps are known to hold -/
def Keeps (τ : Int → Fm) (m : FI) : Prop := ∀ p, p ∈ m → τ p.1 = sub τ p.2
theorem met_sub {S : Int → Fm} : ∀ {m : FI} {f : Fm}, Keeps S m → sub S (met m f) = sub S f
  | [], _, _ => rfl
  | p :: m, f, h => by
    have h' : Keeps S m := fun q hq => h q (by simp [hq])
    rw [met]; split
    · rename_i e
      rw [met_sub h', e, sub]
      exact (h p (by simp)).symm
    · exact met_sub h'
/-- one gap put -/
def put1 (x : Int) (u : Fm) : Int → Fm := fun k => if k = x then u else .gap k
mutual
theorem sub_put1_out {x : Int} {u : Fm} : ∀ f : Fm, ¬ x ∈ ag f → sub (put1 x u) f = f
  | .gap k, h => by
    have : ¬ k = x := fun z => h (by simp [ag, z])
    simp only [sub, put1, if_neg this]
  | .tie w ps, h => by simp only [sub]; rw [subL_put1_out ps h]
theorem subL_put1_out {x : Int} {u : Fm} : ∀ fs : List Fm, ¬ x ∈ agL fs → subL (put1 x u) fs = fs
  | [], _ => rfl
  | f :: fs, h => by
    simp only [agL, List.mem_append, not_or] at h
    simp only [subL]
    rw [sub_put1_out f h.1, subL_put1_out fs h.2]
end
/-- m tells S: its gaps fully filled; S is the most general that keeps m -/
structure Uf (m : FI) (S : Int → Fm) : Prop where
  tri : Tri m
  sol : Keeps S m
  free : ∀ k, lk m k = none → S k = .gap k
  gen : ∀ τ : Int → Fm, Keeps τ m → ∀ k, sub τ (S k) = τ k
theorem Uf.nil : Uf [] .gap := ⟨trivial, (fun _ h => by cases h), fun _ _ => rfl, fun _ _ _ => rfl⟩
theorem Uf.genS {m : FI} {S : Int → Fm} (h : Uf m S) {τ : Int → Fm} (k : Keeps τ m) (f : Fm) : sub τ (sub S f) = sub τ f := by
  rw [sub_sub]; exact sub_congr f fun j _ => h.gen τ k j
theorem Uf.idem {m : FI} {S : Int → Fm} (h : Uf m S) (f : Fm) : sub S (sub S f) = sub S f := h.genS h.sol f
/-- what is left in a filled form is not known -/
theorem Uf.img {m : FI} {S : Int → Fm} (h : Uf m S) {f : Fm} {k : Int} (hk : k ∈ ag (sub S f)) : lk m k = none := by
  have e : sub S (sub S f) = sub .gap (sub S f) := by rw [h.idem, sub_gap]
  have ek : S k = .gap k := sub_inj _ e k hk
  have e2 : sub S (met m (.gap k)) = .gap k := by rw [met_sub h.sol]; exact ek
  cases q : met m (.gap k) with
  | tie w ps => rw [q] at e2; simp only [sub] at e2; cases e2
  | gap z =>
    have hz := met_unb h.tri q
    rw [q] at e2
    simp only [sub] at e2
    rw [h.free z hz] at e2
    cases e2
    exact hz
theorem Uf.snoc {m : FI} {S : Int → Fm} (h : Uf m S) {x : Int} {t : Fm} (hx : lk m x = none) (ht : ∀ p, p ∈ m → t ≠ .gap p.1) (ho : ¬ x ∈ ag (sub S t)) :
    Uf (m ++ [(x, t)]) (fun k => sub (put1 x (sub S t)) (S k)) := by
  have hne : t ≠ .gap x := fun z => ho (by rw [z, sub, h.free x hx]; simp [ag])
  have e1 : ∀ f, sub (fun k => sub (put1 x (sub S t)) (S k)) f = sub (put1 x (sub S t)) (sub S f) := fun f => by rw [sub_sub]
  refine ⟨tri_snoc h.tri hx hne ht, fun p hp => ?_, fun k hk => ?_, fun τ hτ k => ?_⟩
  · show sub (put1 x (sub S t)) (S p.1) = _
    rw [e1]
    rcases List.mem_append.mp hp with hp | hp
    · rw [h.sol p hp]
    · have : p = (x, t) := List.mem_singleton.mp hp
      subst this
      show sub (put1 x (sub S t)) (S x) = sub (put1 x (sub S t)) (sub S t)
      rw [h.free x hx, sub_put1_out _ ho]
      simp [sub, put1]
  · rw [lk_snoc hx] at hk
    by_cases c : k = x
    · rw [if_pos c] at hk; cases hk
    · rw [if_neg c] at hk
      show sub (put1 x (sub S t)) (S k) = _
      rw [h.free k hk]
      simp [sub, put1, c]
  · have hm : Keeps τ m := fun p hp => hτ p (by simp [hp])
    have ht' : τ x = sub τ t := hτ (x, t) (by simp)
    show sub τ (sub (put1 x (sub S t)) (S k)) = τ k
    rw [sub_sub, ← h.gen τ hm k]
    refine sub_congr _ fun j _ => ?_
    by_cases c : j = x
    · subst c
      simp only [put1, if_true]
      rw [h.genS hm, ht']
    · simp only [put1, if_neg c, sub]
/-! no form holds itself -/
mutual
theorem sg_in {τ : Int → Fm} {x : Int} : ∀ f : Fm, x ∈ ag f → (τ x).sg ≤ (sub τ f).sg
  | .gap k, h => by simp [ag] at h; subst h; exact Nat.le_refl _
  | .tie w ps, h => by
    have := sg_inL (τ := τ) ps h
    simp only [sub, Fm.sg]; omega
theorem sg_inL {τ : Int → Fm} {x : Int} : ∀ fs : List Fm, x ∈ agL fs → (τ x).sg ≤ Fm.sgL (subL τ fs)
  | [], h => by simp [agL] at h
  | f :: fs, h => by
    simp only [subL, Fm.sgL]
    rcases List.mem_append.mp h with h | h
    · have := sg_in (τ := τ) f h; omega
    · have := sg_inL (τ := τ) fs h; omega
end
theorem occurs {m : FI} {S : Int → Fm} (h : Uf m S) {x : Int} {w : Str} {ps : List Fm} (ho : x ∈ ag (sub S (.tie w ps))) {τ : Int → Fm} (k : Keeps τ m) : τ x ≠ sub τ (.tie w ps) := fun e => by
  rw [← h.genS k (.tie w ps)] at e
  simp only [sub] at e ho
  have := sg_inL (τ := τ) (subL S ps) ho
  have e2 := congrArg Fm.sg e
  simp only [Fm.sg] at e2
  omega
/-! ### depths -/
mutual
theorem dep_in {S : Int → Fm} {x : Int} : ∀ f : Fm, x ∈ ag f → (S x).dep ≤ (sub S f).dep
  | .gap k, h => by simp [ag] at h; subst h; exact Nat.le_refl _
  | .tie w ps, h => by
    have := dep_inL (S := S) ps h
    simp only [sub, Fm.dep]; omega
theorem dep_inL {S : Int → Fm} {x : Int} : ∀ fs : List Fm, x ∈ agL fs → (S x).dep ≤ Fm.depL (subL S fs)
  | [], h => by simp [agL] at h
  | f :: fs, h => by
    simp only [subL, Fm.depL]
    rcases List.mem_append.mp h with h | h
    · have := dep_in (S := S) f h; omega
    · have := dep_inL (S := S) fs h; omega
end
mutual
theorem dep_sub {S : Int → Fm} {e : Nat} : ∀ f : Fm, (∀ k, k ∈ ag f → (S k).dep ≤ e) → (sub S f).dep ≤ f.dep + e
  | .gap k, h => by have := h k (by simp [ag]); simp only [sub, Fm.dep]; omega
  | .tie w ps, h => by
    have := depL_sub (S := S) ps h
    simp only [sub, Fm.dep]; omega
theorem depL_sub {S : Int → Fm} {e : Nat} : ∀ fs : List Fm, (∀ k, k ∈ agL fs → (S k).dep ≤ e) → Fm.depL (subL S fs) ≤ Fm.depL fs + e
  | [], _ => by simp [subL, Fm.depL]
  | f :: fs, h => by
    have := dep_sub (S := S) f fun k hk => h k (by simp [agL, hk])
    have := depL_sub (S := S) fs fun k hk => h k (by simp [agL, hk])
    simp only [subL, Fm.depL]; omega
end
/-- how many known gaps are filled to at most that depth -/
def cnt (m : FI) (S : Int → Fm) (n : Nat) : Nat := (m.filter fun p => decide ((S p.1).dep ≤ n)).length
theorem cnt_le {m : FI} {S : Int → Fm} {n : Nat} : cnt m S n ≤ m.length := List.length_filter_le _ _
theorem cnt_lt {S : Int → Fm} {a b : Nat} (hab : a < b) : ∀ {m : FI} {p : Int × Fm}, p ∈ m → (S p.1).dep = b → cnt m S a < cnt m S b
  | q :: m, p, hp, e => by
    have mono : ∀ l : FI, cnt l S a ≤ cnt l S b := fun l => by
      induction l with
      | nil => exact Nat.le_refl _
      | cons r l ih =>
        unfold cnt at ih ⊢
        simp only [List.filter_cons]
        by_cases c : (S r.1).dep ≤ a
        · rw [if_pos (decide_eq_true c), if_pos (decide_eq_true (by omega))]; simp only [List.length_cons]; omega
        · rw [if_neg (by simpa using c)]
          split
          · simp only [List.length_cons]; omega
          · exact ih
    rcases List.mem_cons.mp hp with rfl | hp
    · have := mono m
      unfold cnt at this ⊢
      simp only [List.filter_cons]
      rw [if_neg (by simp; omega), if_pos (by simp; omega)]
      simp only [List.length_cons]; omega
    · have ih := cnt_lt hab hp e
      unfold cnt at ih ⊢
      simp only [List.filter_cons]
      by_cases c : (S q.1).dep ≤ a
      · rw [if_pos (decide_eq_true c), if_pos (decide_eq_true (by omega))]; simp only [List.length_cons]; omega
      · rw [if_neg (by simpa using c)]
        split
        · simp only [List.length_cons]; omega
        · exact ih
/-- what a known gap is filled with comes of a tie that some known gap holds -/
theorem Uf.src {m : FI} {S : Int → Fm} (h : Uf m S) (k : Int) : (∃ z, S k = .gap z) ∨ ∃ p w ps, p ∈ m ∧ p.2 = .tie w ps ∧ S p.1 = S k ∧ S k = sub S p.2 := by
  have e2 : sub S (met m (.gap k)) = S k := met_sub h.sol
  cases q : met m (.gap k) with
  | gap z =>
    have hz := met_unb h.tri q
    rw [q, sub, h.free z hz] at e2
    exact .inl ⟨z, e2.symm⟩
  | tie w ps =>
    rcases met_src m (.gap k) with e | ⟨p, hp, e⟩
    · rw [q] at e; cases e
    · rw [q] at e
      rw [q, e] at e2
      exact .inr ⟨p, w, ps, hp, e.symm, by rw [h.sol p hp]; exact e2, e2.symm⟩
theorem Uf.dep_bound {m : FI} {S : Int → Fm} (h : Uf m S) {d : Nat} (hd : ∀ p, p ∈ m → p.2.dep ≤ d) : ∀ (n : Nat) (k : Int), (S k).dep = n → n ≤ 1 + d * cnt m S n := by
  intro n
  induction n using Nat.strongRecOn with
  | ind n ih =>
    intro k e
    rcases h.src k with ⟨z, ez⟩ | ⟨p, w, ps, hp, ep, e1, e2⟩
    · rw [ez] at e; simp only [Fm.dep] at e; omega
    · have hz : ∀ z, z ∈ ag p.2 → (S z).dep ≤ 1 + d * (cnt m S n - 1) := fun z hz => by
        have hlt : (S z).dep < n := by
          rw [← e, e2, ep]
          rw [ep] at hz
          have := dep_inL (S := S) ps hz
          simp only [sub, Fm.dep]; omega
        have h1 := ih _ hlt z rfl
        have h2 := cnt_lt (S := S) hlt hp (by rw [e1, e])
        have h3 : d * cnt m S (S z).dep ≤ d * (cnt m S n - 1) := Nat.mul_le_mul_left _ (by omega)
        omega
      have h2 := cnt_lt (a := 0) (b := n) (S := S) (by rw [← e]; exact Fm.dep_pos _) hp (by rw [e1, e])
      have h4 : n ≤ p.2.dep + (1 + d * (cnt m S n - 1)) := by
        have := dep_sub p.2 hz
        rw [← e2, e] at this
        exact this
      have h5 := hd p hp
      have h6 : d * (cnt m S n - 1) + d = d * cnt m S n := by
        rw [← Nat.mul_succ]
        congr 1
        omega
      omega
theorem Uf.dep_le {m : FI} {S : Int → Fm} (h : Uf m S) {d : Nat} (hd : ∀ p, p ∈ m → p.2.dep ≤ d) (f : Fm) : (sub S f).dep ≤ f.dep + (1 + d * m.length) :=
  dep_sub f fun k _ => Nat.le_trans (h.dep_bound hd _ k rfl) (by
    have := Nat.mul_le_mul_left d (cnt_le (m := m) (S := S) (n := (S k).dep))
    omega)
/-! ### how many gaps -/
theorem flat_len {α : Type} {s : Int → List α} {c : Nat} : ∀ l : List Int, (∀ k, k ∈ l → (s k).length ≤ c) → (l.flatMap s).length ≤ l.length * c
  | [], _ => by simp
  | a :: l, h => by
    have h1 := flat_len l fun k hk => h k (by simp [hk])
    have h2 := h a (by simp)
    simp only [List.flatMap_cons, List.length_append, List.length_cons]
    rw [Nat.add_mul]
    omega
theorem Uf.ag_bound {m : FI} {S : Int → Fm} (h : Uf m S) {c : Nat} (hc : 1 ≤ c) (hd : ∀ p, p ∈ m → (ag p.2).length ≤ c) : ∀ (n : Nat) (k : Int), (S k).dep = n → (ag (S k)).length ≤ c ^ cnt m S n := by
  intro n
  induction n using Nat.strongRecOn with
  | ind n ih =>
    intro k e
    rcases h.src k with ⟨z, ez⟩ | ⟨p, w, ps, hp, ep, e1, e2⟩
    · rw [ez]; simp only [ag, List.length_singleton]; exact Nat.pow_pos hc
    · have hz : ∀ z, z ∈ ag p.2 → (ag (S z)).length ≤ c ^ (cnt m S n - 1) := fun z hz => by
        have hlt : (S z).dep < n := by
          rw [← e, e2, ep]
          rw [ep] at hz
          have := dep_inL (S := S) ps hz
          simp only [sub, Fm.dep]; omega
        have h2 := cnt_lt (S := S) hlt hp (by rw [e1, e])
        exact Nat.le_trans (ih _ hlt z rfl) (Nat.pow_le_pow_right hc (by omega))
      have h2 := cnt_lt (a := 0) (b := n) (S := S) (by rw [← e]; exact Fm.dep_pos _) hp (by rw [e1, e])
      rw [e2, ag_sub]
      refine Nat.le_trans (flat_len _ hz) ?_
      have h5 := hd p hp
      have h6 : c ^ cnt m S n = c * c ^ (cnt m S n - 1) := by
        rw [Nat.mul_comm, ← Nat.pow_succ]
        congr 1
        omega
      rw [h6]
      exact Nat.mul_le_mul_right _ h5
/-- at most so many gaps as that, names among U -/
theorem Uf.ag_le {m : FI} {S : Int → Fm} (h : Uf m S) {c : Nat} (hc : 1 ≤ c) (hd : ∀ p, p ∈ m → (ag p.2).length ≤ c) {U : List Int} (hm : ∀ p, p ∈ m → p.1 ∈ U) (hS : ∀ k, k ∈ U → ∀ j, j ∈ ag (S k) → j ∈ U) {f : Fm} (hf : (ag f).length ≤ c) (hfU : ∀ k, k ∈ ag f → k ∈ U) : (ag (sub S f)).length ≤ c ^ U.length := by
  cases q : ag (sub S f) with
  | nil => exact Nat.zero_le _
  | cons z l =>
    have hz : z ∈ ag (sub S f) := by rw [q]; simp
    have h1 := h.img hz
    have hzU : z ∈ U := by
      rw [ag_sub] at hz
      obtain ⟨k, hk, hz⟩ := List.mem_flatMap.mp hz
      exact hS k (hfU k hk) z hz
    have hl : m.length + 1 ≤ U.length := by
      have := nodup_le (l := z :: m.map (·.1)) (k := U) (List.nodup_cons.mpr ⟨(fun hz => by obtain ⟨f, e⟩ := lk_isSome hz; rw [h1] at e; cases e), tri_nodup h.tri⟩) fun x hx => by
        rcases List.mem_cons.mp hx with rfl | hx
        · exact hzU
        · obtain ⟨p, hp, rfl⟩ := List.mem_map.mp hx; exact hm p hp
      simpa using this
    rw [← q, ag_sub]
    refine Nat.le_trans (flat_len (c := c ^ m.length) _ fun k _ => Nat.le_trans (h.ag_bound hc hd _ k rfl) (Nat.pow_le_pow_right hc cnt_le)) ?_
    refine Nat.le_trans (Nat.mul_le_mul_right _ hf) ?_
    rw [Nat.mul_comm, ← Nat.pow_succ]
    exact Nat.pow_le_pow_right hc hl
end Fx
/-! GxB: the nearest form below; promises of below.py. -/
namespace Fx
open PySem L2 PySem.Spec PyProof.Rows
/-- h is the nearest form below f and g -/
structure Nr (f g h : Fm) : Prop where
  left : ∃ s, sub s f = h
  right : ∃ s, sub s g = h
  least : ∀ s t, sub s f = sub t g → ∃ r, sub r h = sub s f
def No (f g : Fm) : Prop := ∀ s t, sub s f ≠ sub t g
theorem Nr.symm {f g h : Fm} (n : Nr f g h) : Nr g f h := ⟨n.right, n.left, fun s t e => by rw [e]; exact n.least t s e.symm⟩
theorem No.symm {f g : Fm} (n : No f g) : No g f := fun s t e => n t s e.symm
theorem Nr.not {f g h : Fm} (n : Nr f g h) (q : No f g) : False := by
  obtain ⟨s, a⟩ := n.left
  obtain ⟨t, b⟩ := n.right
  exact q s t (a.trans b.symm)
theorem Nr.uniq {f g h h' : Fm} (n : Nr f g h) (n' : Nr f g h') : pl h = pl h' := by
  obtain ⟨s, a⟩ := n.left
  obtain ⟨t, b⟩ := n.right
  obtain ⟨s', a'⟩ := n'.left
  obtain ⟨t', b'⟩ := n'.right
  obtain ⟨r, e⟩ := n.least s' t' (a'.trans b'.symm)
  obtain ⟨r', e'⟩ := n'.least s t (a.trans b.symm)
  exact pl_of_subs (e.trans a') (e'.trans a)
theorem Nr.same {f g h h' : Fm} (n : Nr f g h) (n' : Nr f g h') (p : pl h = h) (p' : pl h' = h') : h = h' := by rw [← p, ← p', n.uniq n']
theorem Nr.toPl {f g h : Fm} (n : Nr f g h) : Nr f g (pl h) := by
  obtain ⟨r, e⟩ := sub_of_pl (f := h) (g := pl h) (pl_pl h).symm
  obtain ⟨q, e'⟩ := sub_of_pl (f := pl h) (g := h) (pl_pl h)
  obtain ⟨s, a⟩ := n.left
  obtain ⟨t, b⟩ := n.right
  refine ⟨⟨_, by rw [← sub_sub, a, e]⟩, ⟨_, by rw [← sub_sub, b, e]⟩, fun u v h => ?_⟩
  obtain ⟨x, hx⟩ := n.least u v h
  exact ⟨_, by rw [← sub_sub, e', hx]⟩
/-- numbers put up by c -/
def up (c : Int) (f : Fm) : Fm := rn (fun k => k + c) f
theorem up_sub {c : Int} {τ : Int → Fm} (g : Fm) : sub τ (up c g) = sub (fun k => τ (k + c)) g := by
  unfold up; rw [rn_sub, sub_sub]; rfl
theorem up_both {c : Int} {f g : Fm} (h : ∀ k, k ∈ ag g → ¬ k + c ∈ ag f) (s t : Int → Fm) : ∃ τ, sub τ f = sub s f ∧ sub τ (up c g) = sub t g := by
  refine ⟨fun j => if j ∈ ag f then s j else t (j - c), sub_congr f fun k hk => by simp [hk], ?_⟩
  rw [up_sub]
  refine sub_congr g fun k hk => ?_
  simp only [if_neg (h k hk)]
  congr 1
  omega
theorem Nr.of {c : Int} {f g : Fm} {m : FI} {S : Int → Fm} (h : ∀ k, k ∈ ag g → ¬ k + c ∈ ag f) (u : Uf m S) (e : sub S f = sub S (up c g)) (k : ∀ τ, sub τ f = sub τ (up c g) → Keeps τ m) : Nr f g (sub S f) := by
  refine ⟨⟨S, rfl⟩, ⟨_, by rw [e, up_sub]⟩, fun s t e' => ?_⟩
  obtain ⟨τ, h1, h2⟩ := up_both h s t
  exact ⟨τ, by rw [u.genS (k τ (by rw [h1, h2, e'])), h1]⟩
theorem No.of {c : Int} {f g : Fm} (h : ∀ k, k ∈ ag g → ¬ k + c ∈ ag f) (n : ∀ τ, sub τ f ≠ sub τ (up c g)) : No f g := fun s t e => by
  obtain ⟨τ, h1, h2⟩ := up_both h s t
  exact n τ (by rw [h1, h2, e])
mutual
theorem dep_sub_ge (s : Int → Fm) : ∀ f : Fm, f.dep ≤ (sub s f).dep
  | .gap k => by simp only [sub, Fm.dep]; exact Fm.dep_pos _
  | .tie w ps => by have := depL_sub_ge s ps; simp only [sub, Fm.dep]; omega
theorem depL_sub_ge (s : Int → Fm) : ∀ fs : List Fm, Fm.depL fs ≤ Fm.depL (subL s fs)
  | [] => Nat.le_refl _
  | f :: fs => by
    have := dep_sub_ge s f
    have := depL_sub_ge s fs
    simp only [subL, Fm.depL]; omega
end
mutual
theorem sg_sub_ge (s : Int → Fm) : ∀ f : Fm, f.sg ≤ (sub s f).sg
  | .gap k => by simp only [sub, Fm.sg]; exact sg_pos _
  | .tie w ps => by have := sgL_sub_ge s ps; simp only [sub, Fm.sg]; omega
theorem sgL_sub_ge (s : Int → Fm) : ∀ fs : List Fm, Fm.sgL fs ≤ Fm.sgL (subL s fs)
  | [] => Nat.le_refl _
  | f :: fs => by
    have := sg_sub_ge s f
    have := sgL_sub_ge s fs
    simp only [subL, Fm.sgL]; omega
end
mutual
theorem sub_ok {s : Int → Fm} : ∀ f : Fm, f.ok = true → (∀ k, k ∈ ag f → (s k).ok = true) → (sub s f).ok = true
  | .gap k, _, h => h k (by simp [ag])
  | .tie w ps, hf, h => by
    simp only [Fm.ok, Bool.and_eq_true, decide_eq_true_eq] at hf
    simp only [sub, Fm.ok, Bool.and_eq_true, decide_eq_true_eq, subL_len]
    exact ⟨hf.1, subL_ok ps hf.2 h⟩
theorem subL_ok {s : Int → Fm} : ∀ fs : List Fm, Fm.okL fs = true → (∀ k, k ∈ agL fs → (s k).ok = true) → Fm.okL (subL s fs) = true
  | [], _, _ => rfl
  | f :: fs, hf, h => by
    simp only [Fm.okL, Bool.and_eq_true] at hf
    simp only [subL, Fm.okL, Bool.and_eq_true]
    exact ⟨sub_ok f hf.1 fun k hk => h k (by simp [agL, hk]), subL_ok fs hf.2 fun k hk => h k (by simp [agL, hk])⟩
end
/-! ### what is handled -/
/-- a form that is handled: its gaps among U, not too deep, not too many gaps -/
structure FIn (U : List Int) (d c : Nat) (f : Fm) : Prop where
  gaps : ∀ k, k ∈ ag f → k ∈ U
  dep : f.dep ≤ d
  ok : f.ok = true
  many : (ag f).length ≤ c
def MIn (U : List Int) (d c : Nat) (m : FI) : Prop := ∀ p, p ∈ m → p.1 ∈ U ∧ FIn U d c p.2
theorem agL_mem : ∀ {fs : List Fm} {f : Fm}, f ∈ fs → (∀ k, k ∈ ag f → k ∈ agL fs) ∧ (ag f).length ≤ (agL fs).length
  | g :: fs, f, h => by
    simp only [agL, List.mem_append, List.length_append]
    rcases List.mem_cons.mp h with rfl | h
    · exact ⟨fun k hk => .inl hk, by omega⟩
    · obtain ⟨a, b⟩ := agL_mem h
      exact ⟨fun k hk => .inr (a k hk), by omega⟩
theorem FIn.part {U : List Int} {d c : Nat} {w : Str} {ps : List Fm} {f : Fm} (h : FIn U d c (.tie w ps)) (hf : f ∈ ps) : FIn U d c f := by
  obtain ⟨a, b⟩ := agL_mem hf
  have h1 := h.dep
  have h2 := h.ok
  have h3 := h.many
  have h4 := Fm.dep_part hf
  simp only [Fm.dep] at h1
  simp only [Fm.ok, Bool.and_eq_true] at h2
  simp only [ag] at h3
  exact ⟨fun k hk => h.gaps k (by simp only [ag]; exact a k hk), by omega, Fm.ok_part h2.2 hf, by omega⟩
theorem FIn.met {U : List Int} {d c : Nat} {m : FI} {f : Fm} (h : FIn U d c f) (hm : MIn U d c m) : FIn U d c (met m f) := by
  rcases met_src m f with e | ⟨p, hp, e⟩
  · rw [e]; exact h
  · rw [e]; exact (hm p hp).2
theorem MIn.len {U : List Int} {d c : Nat} {m : FI} (h : MIn U d c m) (t : Tri m) : m.length ≤ U.length := by
  have := nodup_le (tri_nodup t) (k := U) fun x hx => by
    obtain ⟨p, hp, rfl⟩ := List.mem_map.mp hx
    exact (h p hp).1
  simpa using this
theorem MIn.snoc {U : List Int} {d c : Nat} {m : FI} (h : MIn U d c m) {x : Int} {t : Fm} (hx : x ∈ U) (ht : FIn U d c t) : MIn U d c (m ++ [(x, t)]) := fun p hp => by
  rcases List.mem_append.mp hp with hp | hp
  · exact h p hp
  · have : p = (x, t) := List.mem_singleton.mp hp
    subst this
    exact ⟨hx, ht⟩
/-- how deep anything may get -/
def bnd (U : List Int) (d : Nat) : Nat := d + 1 + d * U.length
theorem Uf.bnd {U : List Int} {d c : Nat} {m : FI} {S : Int → Fm} (u : Uf m S) (h : MIn U d c m) {f : Fm} (hf : f.dep ≤ d) : (sub S f).dep ≤ bnd U d := by
  have h1 := u.dep_le (fun p hp => (h p hp).2.dep) f
  have h2 := Nat.mul_le_mul_left d (h.len u.tri)
  unfold Fx.bnd; omega
theorem Uf.ok {U : List Int} {d c : Nat} {m : FI} {S : Int → Fm} (u : Uf m S) (h : MIn U d c m) : ∀ (n : Nat) (k : Int), (S k).dep = n → (S k).ok = true := by
  intro n
  induction n using Nat.strongRecOn with
  | ind n ih =>
    intro k e
    rcases u.src k with ⟨z, ez⟩ | ⟨p, w, ps, hp, ep, e1, e2⟩
    · rw [ez]; rfl
    · rw [e2]
      refine sub_ok _ (h p hp).2.ok fun z hz => ih _ ?_ z rfl
      rw [← e, e2, ep]
      rw [ep] at hz
      have := dep_inL (S := S) ps hz
      simp only [sub, Fm.dep]; omega
theorem Uf.inU {U : List Int} {d c : Nat} {m : FI} {S : Int → Fm} (u : Uf m S) (h : MIn U d c m) : ∀ (n : Nat) (k : Int), (S k).dep = n → k ∈ U → ∀ j, j ∈ ag (S k) → j ∈ U := by
  intro n
  induction n using Nat.strongRecOn with
  | ind n ih =>
    intro k e hk j hj
    rcases u.src k with ⟨z, ez⟩ | ⟨p, w, ps, hp, ep, e1, e2⟩
    · rw [ez] at hj
      simp [ag] at hj
      subst hj
      have e2 : sub S (met m (.gap k)) = S k := met_sub u.sol
      cases q : met m (.gap k) with
      | tie w ps => rw [q, ez] at e2; simp only [sub] at e2; cases e2
      | gap z' =>
        have hz := met_unb u.tri q
        rw [q, sub, u.free z' hz, ez] at e2
        cases e2
        rcases met_src m (.gap k) with e | ⟨p, hp, e⟩
        · rw [q] at e; cases e; exact hk
        · rw [q] at e
          exact (h p hp).2.gaps j (by rw [← e]; simp [ag])
    · rw [e2, ag_sub] at hj
      obtain ⟨z, hz, hj⟩ := List.mem_flatMap.mp hj
      refine ih _ ?_ z rfl ((h p hp).2.gaps z hz) j hj
      rw [← e, e2, ep]
      rw [ep] at hz
      have := dep_inL (S := S) ps hz
      simp only [sub, Fm.dep]; omega
theorem Uf.many {U : List Int} {d c : Nat} {m : FI} {S : Int → Fm} (u : Uf m S) (h : MIn U d c m) (hc : 1 ≤ c) {f : Fm} (hf : FIn U d c f) : (ag (sub S f)).length ≤ c ^ U.length :=
  u.ag_le hc (fun p hp => (h p hp).2.many) (fun p hp => (h p hp).1) (fun k hk => u.inU h _ k rfl hk) hf.many hf.gaps
/-! ### promises -/
def spMet : Sp := spP fun ds r => ∃ (f : Fm) (m : FI), ds = [f.d, dF m] ∧ r = (met m f).d ∧ Tri m
theorem spMet.len : ∀ vs H Q E, spMet vs H Q E → vs.length = 2 := spP.len fun ds d ⟨f, m, e, _⟩ => by rw [e]; rfl
def spStands (n : Nat) : Sp := spP fun ds r => ∃ (x : Int) (f : Fm) (m : FI) (S : Int → Fm), ds = [.int x, f.d, dF m] ∧ r = .bool (decide (x ∈ ag (sub S f))) ∧ Uf m S ∧ (sub S f).dep ≤ n
theorem spStands.no : ∀ vs H Q E, ¬ spStands 0 vs H Q E := fun vs H Q E ⟨ds, r, _, ⟨x, f, m, S, _, _, _, hd⟩, _⟩ => by have := (sub S f).dep_pos; omega
theorem spStands.len {n : Nat} : ∀ vs H Q E, spStands n vs H Q E → vs.length = 3 := spP.len fun ds d ⟨x, f, m, S, e, _⟩ => by rw [e]; rfl
def spWh (n : Nat) : Sp := spP fun ds r => ∃ (f : Fm) (m : FI) (S : Int → Fm), ds = [f.d, dF m] ∧ r = (sub S f).d ∧ Uf m S ∧ (sub S f).dep ≤ n ∧ f.ok = true ∧ ∀ p, p ∈ m → p.2.ok = true
theorem spWh.no : ∀ vs H Q E, ¬ spWh 0 vs H Q E := fun vs H Q E ⟨ds, r, _, ⟨f, m, S, _, _, _, hd, _⟩, _⟩ => by have := (sub S f).dep_pos; omega
theorem spWh.len {n : Nat} : ∀ vs H Q E, spWh n vs H Q E → vs.length = 2 := spP.len fun ds d ⟨f, m, S, e, _⟩ => by rw [e]; rfl
/-- f can be made g, beside m: m' is what is known then -/
structure JT (U : List Int) (d c : Nat) (f g : Fm) (m m' : FI) (S' : Int → Fm) : Prop where
  uf : Uf m' S'
  ext : ∃ e, m' = m ++ e
  inn : MIn U d c m'
  eq : sub S' f = sub S' g
  gen : ∀ τ, Keeps τ m → sub τ f = sub τ g → Keeps τ m'
theorem Keeps.pre {τ : Int → Fm} {m m' : FI} (h : Keeps τ m') (e : ∃ x, m' = m ++ x) : Keeps τ m := fun p hp => by
  obtain ⟨x, rfl⟩ := e
  exact h p (by simp [hp])
/-- what is left to the calls below -/
def Deep (U : List Int) (d c : Nat) (m : FI) (c0 : Nat) (f : Fm) : Prop := ∀ m' S', Uf m' S' → (∃ e, m' = m ++ e) → MIn U d c m' → c0 + (sub S' f).dep ≤ bnd U d
theorem Deep.start {U : List Int} {d c : Nat} {m : FI} {f : Fm} (h : f.dep ≤ d) : Deep U d c m 0 f := fun m' S' u _ i => by have := u.bnd i h; omega
theorem Deep.part {U : List Int} {d c c0 : Nat} {m m1 : FI} {f g : Fm} {w : Str} {ps : List Fm} (h : Deep U d c m c0 f) (e : met m f = .tie w ps) (hg : g ∈ ps) (x : ∃ e, m1 = m ++ e) : Deep U d c m1 (c0 + 1) g := fun m' S' u y i => by
  obtain ⟨x, rfl⟩ := x
  obtain ⟨y, rfl⟩ := y
  have h1 := h _ S' u ⟨x ++ y, by simp⟩ i
  have h2 : sub S' (met m f) = sub S' f := met_sub (u.sol.pre ⟨x ++ y, by simp⟩)
  rw [← h2, e] at h1
  have h3 : (sub S' g).dep ≤ Fm.depL (subL S' ps) := Fm.dep_part (by rw [subL_map]; exact List.mem_map.mpr ⟨g, hg, rfl⟩)
  simp only [sub, Fm.dep] at h1
  omega
/-- joined(one, other, known) -/
def spJoin (N n : Nat) : Sp := fun vs H Q _ => ∃ (v1 v2 : V) (a : Addr) (xs : List (Key × V)) (f g : Fm) (m : FI) (S : Int → Fm) (U : List Int) (d c : Nat), vs = [v1, v2, .ref a] ∧ Rp H f.d v1 ∧ Rp H g.d v2 ∧ H a = some (.dK xs) ∧ RpI H (imF m) xs ∧ Uf m S ∧ MIn U d c m ∧ FIn U d c f ∧ FIn U d c g ∧ d ≤ 90 ∧ bnd U d ≤ N ∧ U.length ≤ 1000 ∧
  1 ≤ n ∧ ((∃ k, met m f = .gap k) ∨ ∃ c0, bnd U d + 2 ≤ c0 + n ∧ Deep U d c m c0 f) ∧
  ∀ b m' S' ys H', KB a H H' → H' a = some (.dK ys) → RpI H' (imF m') ys → (b = true → JT U d c f g m m' S') → (b = false → ∀ τ, Keeps τ m → sub τ f ≠ sub τ g) → Q (.bl b) H'
theorem spJoin.no {N : Nat} : ∀ vs H Q E, ¬ spJoin N 0 vs H Q E := fun vs H Q E ⟨_, _, _, _, _, _, _, _, _, _, _, _, _, _, _, _, _, _, _, _, _, _, _, h, _⟩ => by omega
theorem spJoin.len {N n : Nat} : ∀ vs H Q E, spJoin N n vs H Q E → vs.length = 3 := fun vs H Q E ⟨_, _, _, _, _, _, _, _, _, _, _, e, _⟩ => by rw [e]; rfl
/-- a list of numbers, each with the number put up by c -/
def numS (c : Int) (l : List Int) : IM := l.map fun k => (k, .int (k + c))
theorem look_numS {c : Int} {k : Int} : ∀ {l : List Int}, k ∈ l → look (numS c l) k = some (.int (k + c))
  | a :: l, h => by
    by_cases e : a = k
    · subst e; simp [numS, look]
    · have hk : k ∈ l := by rcases List.mem_cons.mp h with rfl | h; exact absurd rfl e; exact h
      have := look_numS (c := c) hk
      simpa [numS, look, e] using this
theorem putI_numS {c : Int} {l : List Int} {k : Int} (h : ¬ k ∈ l) : putI (numS c l) k (.int (k + c)) = numS c (l ++ [k]) := by
  unfold putI
  have hk : ((numS c l).any fun p => decide (p.1 = k)) = false := by
    refine Bool.eq_false_iff.mpr fun z => ?_
    obtain ⟨p, hp, e⟩ := List.any_eq_true.mp z
    obtain ⟨q, hq, rfl⟩ := List.mem_map.mp hp
    simp only [decide_eq_true_eq] at e
    rw [← e] at h
    exact h hq
  rw [if_neg (by rw [hk]; exact Bool.false_ne_true)]
  simp [numS]
/-! large forms -/
def big : Nat := 16000000
def spAllGapsB (n : Nat) : Sp := spFL fun ds es => ∃ f : Fm, ds = [f.d] ∧ es = (ag f).map .int ∧ f.dep ≤ n ∧ f.ok = true ∧ (ag f).length ≤ big
def spGapsB (n : Nat) : Sp := spFL fun ds es => ∃ f : Fm, ds = [f.d] ∧ es = (gp f).map .int ∧ f.dep ≤ n ∧ f.ok = true ∧ (ag f).length ≤ big ∧ (gp f).length ≤ 5000
theorem spAllGapsB.no : ∀ vs H Q E, ¬ spAllGapsB 0 vs H Q E := fun vs H Q E ⟨ds, es, _, ⟨f, _, _, hd, _⟩, _⟩ => by have := f.dep_pos; omega
theorem spAllGapsB.len {n : Nat} : ∀ vs H Q E, spAllGapsB n vs H Q E → vs.length = 1 := spFL.len fun ds d ⟨f, e, _⟩ => by rw [e]; rfl
theorem spGapsB.len {n : Nat} : ∀ vs H Q E, spGapsB n vs H Q E → vs.length = 1 := spFL.len fun ds d ⟨f, e, _⟩ => by rw [e]; rfl
theorem spGapsB.no : ∀ vs H Q E, ¬ spGapsB 0 vs H Q E := fun vs H Q E ⟨ds, es, _, ⟨f, _, _, hd, _⟩, _⟩ => by have := f.dep_pos; omega
def spPlainB (n : Nat) : Sp := spP fun ds r => ∃ f : Fm, ds = [f.d] ∧ r = (pl f).d ∧ f.dep ≤ n ∧ f.ok = true ∧ (ag f).length ≤ big ∧ (gp f).length ≤ 5000
theorem spPlainB.len {n : Nat} : ∀ vs H Q E, spPlainB n vs H Q E → vs.length = 1 := spP.len fun ds d ⟨f, e, _⟩ => by rw [e]; rfl
theorem spGapsB.of {n : Nat} : ∀ vs H Q E, spGaps n vs H Q E → spGapsB n vs H Q E := fun vs H Q E ⟨ds, es, h1, ⟨f, e1, e2, hd, hp, hs⟩, q⟩ => ⟨ds, es, h1, ⟨f, e1, e2, hd, hp, by have := ag_len f; unfold big; omega, by have := gp_len f; omega⟩, q⟩
theorem spPlainB.of {n : Nat} : ∀ vs H Q E, spPlain n vs H Q E → spPlainB n vs H Q E := fun vs H Q E ⟨ds, es, h1, ⟨f, e1, e2, hd, hp, hs⟩, q⟩ => ⟨ds, es, h1, ⟨f, e1, e2, hd, hp, by have := ag_len f; unfold big; omega, by have := gp_len f; omega⟩, q⟩
theorem w_extendB {K : PySem.W.Frag} {σ : L2.St} {H : Hp} {i : Nat} {a : Addr} {xs : List V} {ds : List PyData} {te : TE} {D : Ends} (h : σ[i]? = some (some (.ref a))) (ha : H a = some (.lst xs)) (he : EvD te σ H (.list ds)) (hl : xs.length + ds.length ≤ big)
    (q : ∀ vs H1, Same H H1 → RpL H1 ds vs → D.nx σ (upd H1 a (.lst (xs ++ vs)))) : tDrop (tBM K "list" rExtend (tVar i) (tCons te tNil)) D σ H := by
  refine ⟨.ref a, h, .inl ⟨rfl, xs, .of ha⟩, he H (Same.refl _) _ fun v H1 s r => ?_⟩
  obtain ⟨b, ys, rfl, hb, hr⟩ := r
  exact ⟨a, b, xs, ys, rfl, rfl, s _ _ ha, hb, by rw [hr.length]; exact Nat.le_trans hl (by decide), q ys H1 s hr⟩
/-- nearest(one, other) -/
structure NIn (N : Nat) (f g : Fm) : Prop where
  okf : f.ok = true
  okg : g.ok = true
  lf : ∀ k, k ∈ ag f → k < 1000
  lg : ∀ k, k ∈ ag g → 0 ≤ k
  mf : (ag f).length ≤ 1000
  mg : (ag g).length ≤ 1000
  dp : ∃ d c, f.dep ≤ d ∧ g.dep ≤ d ∧ d ≤ 60 ∧ d + 1 + d * ((gp f).length + (gp g).length) ≤ N ∧ (gp f).length + (gp g).length ≤ 1000 ∧ (ag f).length ≤ c ∧ (ag g).length ≤ c ∧
    ∀ (c0 : Int) m S, 1000 ≤ c0 → Uf m S → MIn (gp f ++ (gp g).map fun k => k + c0) d c m → sub S f = sub S (up c0 g) → (∀ τ, sub τ f = sub τ (up c0 g) → Keeps τ m) → (ag (sub S f)).length ≤ big
def spNear (N : Nat) : Sp := fun vs H Q _ => ∃ (v1 v2 : V) (f g : Fm), vs = [v1, v2] ∧ Rp H f.d v1 ∧ Rp H g.d v2 ∧ NIn N f g ∧
  (∀ h v H', Same H H' → Rp H' h.d v → Nr f g h → pl h = h → h.ok = true → h.dep ≤ N → (ag h).length ≤ big → (gp h).length ≤ 5000 → Q v H') ∧ (No f g → ∀ H', Same H H' → Q .non H')
theorem spNear.len {N : Nat} : ∀ vs H Q E, spNear N vs H Q E → vs.length = 2 := fun vs H Q E ⟨_, _, _, _, e, _⟩ => by rw [e]; rfl
end Fx
/-! GxC: looser forms cover; forms numbered on. -/
namespace Fx
open PySem L2 PySem.Spec PyProof.Rows
theorem opn_cov {n : Int} : ∀ (r : List Int) (f : Fm), Vld f r → ¬ n ∈ ag f → ∃ t, sub (put1 n t) (opn f r n) = f
  | [], f, _, _ => ⟨f, by rw [opn_nil]; simp [sub, put1]⟩
  | k :: r, .gap _, hv, _ => by simp [Vld] at hv
  | k :: r, .tie w ps, hv, hn => by
    simp only [Vld] at hv
    obtain ⟨hk, g, eg, hv⟩ := hv
    have hg := List.mem_of_getElem? eg
    simp only [ag] at hn
    obtain ⟨t, ht⟩ := opn_cov r g hv fun z => hn ((agL_mem hg).1 n z)
    refine ⟨t, ?_⟩
    rw [opn_tie eg]
    simp only [sub]
    congr 1
    rw [subL_map, List.map_set, ht, ← subL_map, subL_put1_out ps hn]
    obtain ⟨hlt, e⟩ := List.getElem?_eq_some_iff.mp eg
    rw [← e]
    exact List.set_getElem_self hlt
theorem agL_set : ∀ {ps : List Fm} {i : Nat} {f : Fm} {x : Int}, x ∈ agL (ps.set i f) → x ∈ agL ps ∨ x ∈ ag f
  | [], i, f, x, h => by simp [agL] at h
  | p :: ps, 0, f, x, h => by
    simp only [List.set_cons_zero, agL, List.mem_append] at h ⊢
    rcases h with h | h
    · exact .inr h
    · exact .inl (.inr h)
  | p :: ps, i + 1, f, x, h => by
    simp only [List.set_cons_succ, agL, List.mem_append] at h ⊢
    rcases h with h | h
    · exact .inl (.inl h)
    · rcases agL_set h with h | h
      · exact .inl (.inr h)
      · exact .inr h
theorem ag_opn {n x : Int} : ∀ (r : List Int) (f : Fm), Vld f r → x ∈ ag (opn f r n) → x ∈ ag f ∨ x = n
  | [], f, _, h => by rw [opn_nil] at h; simp [ag] at h; exact .inr h
  | k :: r, .gap _, hv, _ => by simp [Vld] at hv
  | k :: r, .tie w ps, hv, h => by
    simp only [Vld] at hv
    obtain ⟨hk, g, eg, hv⟩ := hv
    have hg := List.mem_of_getElem? eg
    rw [opn_tie eg] at h
    simp only [ag] at h ⊢
    rcases agL_set h with h | h
    · exact .inl h
    · rcases ag_opn r g hv h with h | h
      · exact .inl ((agL_mem hg).1 x h)
      · exact .inr h
theorem Loose.gaps {f g : Fm} {b : Int} {k : Nat} (h : Loose f b k g) : ∀ x, x ∈ ag g → x ∈ ag f ∨ (b ≤ x ∧ x < b + k) := by
  induction h with
  | none => exact fun x hx => .inl hx
  | one l o ih =>
    rename_i g h b k
    intro x hx
    obtain ⟨r, hv, rfl⟩ := o
    rcases ag_opn (n := b + (k : Int)) r _ hv hx with h | h
    · rcases ih x h with h | h
      · exact .inl h
      · exact .inr ⟨h.1, by omega⟩
    · exact .inr ⟨by omega, by omega⟩
theorem Loose.cov {f g : Fm} {b : Int} {k : Nat} (h : Loose f b k g) (hb : ∀ x, x ∈ ag f → x < b) : ∃ s, sub s g = f := by
  induction h with
  | none => exact ⟨_, sub_gap _⟩
  | one l o ih =>
    rename_i g h b k
    obtain ⟨s, e⟩ := ih hb
    obtain ⟨r, hv, rfl⟩ := o
    obtain ⟨t, ht⟩ := opn_cov (n := b + (k : Int)) r _ hv fun z => by
      rcases l.gaps _ z with h | h
      · have := hb _ h; omega
      · omega
    exact ⟨_, by rw [← sub_sub, ht, e]⟩
/-- numbers put on by c, round at 1000 -/
def spr (c : Int) : Int → Int := fun k => (k + c) % 1000
theorem spr_cov {c : Int} {g f : Fm} (hg : ∀ k, k ∈ ag g → 0 ≤ k ∧ k < 1000) (h : ∃ s, sub s g = f) : ∃ s, sub s (rn (spr c) g) = f := by
  obtain ⟨s, e⟩ := h
  refine ⟨fun j => s ((j - c) % 1000), ?_⟩
  rw [rn_sub, sub_sub, ← e]
  refine sub_congr g fun k hk => ?_
  obtain ⟨h1, h2⟩ := hg k hk
  simp only [sub]
  congr 1
  unfold spr
  omega
mutual
theorem gd_gaps {many : Int} : ∀ {f : Fm}, f.gd many = true → ∀ k, k ∈ ag f → 0 ≤ k ∧ k < many
  | .gap n, h, k, hk => by
    simp only [Fm.gd, Bool.and_eq_true, decide_eq_true_eq] at h
    simp [ag] at hk
    subst hk
    exact h
  | .tie w ps, h, k, hk => by
    simp only [Fm.gd, Bool.and_eq_true] at h
    exact gdL_gaps h.2 k hk
theorem gdL_gaps {many : Int} : ∀ {fs : List Fm}, Fm.gdL many fs = true → ∀ k, k ∈ agL fs → 0 ≤ k ∧ k < many
  | [], _, k, hk => by simp [agL] at hk
  | f :: fs, h, k, hk => by
    simp only [Fm.gdL, Bool.and_eq_true] at h
    rcases List.mem_append.mp hk with hk | hk
    · exact gd_gaps h.1 k hk
    · exact gdL_gaps h.2 k hk
end
mutual
theorem rn_gd {many : Int} {r : Int → Int} (hr : ∀ k, 0 ≤ r k ∧ r k < many) : ∀ {a : Int} {f : Fm}, f.gd a = true → (rn r f).gd many = true
  | a, .gap n, h => by
    simp only [rn, Fm.gd, Bool.and_eq_true, decide_eq_true_eq]
    exact hr n
  | a, .tie w ps, h => by
    simp only [Fm.gd, Bool.and_eq_true, decide_eq_true_eq] at h
    simp only [rn, Fm.gd, Bool.and_eq_true, decide_eq_true_eq, rnL_map, List.length_map]
    rw [← rnL_map]
    exact ⟨h.1, rnL_gd hr h.2⟩
theorem rnL_gd {many : Int} {r : Int → Int} (hr : ∀ k, 0 ≤ r k ∧ r k < many) : ∀ {a : Int} {fs : List Fm}, Fm.gdL a fs = true → Fm.gdL many (rnL r fs) = true
  | a, [], _ => rfl
  | a, f :: fs, h => by
    simp only [Fm.gdL, Bool.and_eq_true] at h
    simp only [rnL, Fm.gdL, Bool.and_eq_true]
    exact ⟨rn_gd hr h.1, rnL_gd hr h.2⟩
end
theorem spr_in (c k : Int) : 0 ≤ spr c k ∧ spr c k < 1000 := by unfold spr; omega
theorem Gd.spr {f : Fm} {d s : Nat} (h : Gd f d s) (c : Int) : Gd (rn (spr c) f) d s := ⟨rn_gd (spr_in c) h.gd, by rw [rn_dep]; exact h.dep, by rw [rn_sg]; exact h.sg⟩
theorem gp_rn_len (r : Int → Int) (f : Fm) : (gp (rn r f)).length ≤ (gp f).length := by
  have := nodup_le (gp_nodup (rn r f)) (k := (gp f).map r) fun x hx => by
    have := mem_gp.mp hx
    rw [ag_rn] at this
    obtain ⟨k, hk, rfl⟩ := List.mem_map.mp this
    exact List.mem_map.mpr ⟨k, mem_gp.mpr hk, rfl⟩
  simpa using this
/-- so many gaps has a form that was drawn of `many` and loosened k times -/
theorem Loose.few {f g : Fm} {b : Int} {k : Nat} (h : Loose f b k g) {many : Nat} (hf : f.gd many = true) : (gp g).length ≤ many + k := by
  have := nodup_le (gp_nodup g) (k := ((List.range many).map fun (i : Nat) => (i : Int)) ++ (List.range k).map fun (i : Nat) => b + (i : Int)) fun x hx => by
    rcases h.gaps x (mem_gp.mp hx) with h | h
    · obtain ⟨h1, h2⟩ := gd_gaps hf x h
      refine List.mem_append.mpr (.inl (List.mem_map.mpr ⟨x.toNat, List.mem_range.mpr (by omega), by omega⟩))
    · refine List.mem_append.mpr (.inr (List.mem_map.mpr ⟨(x - b).toNat, List.mem_range.mpr (by omega), by omega⟩))
  simpa using this
/-! ### promises -/
def spSpread (n : Nat) : Sp := spP fun ds r => ∃ (f : Fm) (c : Int), ds = [f.d, .int c] ∧ r = (rn (spr c) f).d ∧ f.dep ≤ n ∧ f.ok = true ∧ f.sg ≤ 5000
theorem spSpread.len {n : Nat} : ∀ vs H Q E, spSpread n vs H Q E → vs.length = 2 := spP.len fun ds d ⟨f, m, e, _⟩ => by rw [e]; rfl
def spAbove (n : Nat) : Sp := spP fun ds r => ∃ f g : Fm, ds = [f.d, g.d] ∧ r = .bool (mt f g []).1 ∧ f.ok = true ∧ f.dep ≤ n ∧ f.sg ≤ 5000 ∧ g.ok = true ∧ g.dep ≤ 90
theorem spAbove.len {n : Nat} : ∀ vs H Q E, spAbove n vs H Q E → vs.length = 2 := spP.len fun ds d ⟨f, m, e, _⟩ => by rw [e]; rfl
theorem spNear.d {N : Nat} {f g h : Fm} (i : NIn N f g) (n : Nr f g h) (p : pl h = h) : SpD (spNear N) [f.d, g.d] h.d := fun H xs hx Q E q => by
  obtain ⟨v1, _, rfl, r1, v2, _, rfl, r2, rfl⟩ := hx
  refine ⟨v1, v2, f, g, rfl, r1, r2, i, fun h' v H' s' r' n' p' _ _ _ _ => ?_, fun no => (n.not no).elim⟩
  rw [Nr.same n' n p' p] at r'
  exact q v H' s' r'
theorem numG_spr {c : Int} {l : List Int} {k : Int} (h : ¬ k ∈ l) : pt (l.map fun k => (k, Fm.gap (spr c k))) k (.gap (spr c k)) = (l ++ [k]).map fun k => (k, Fm.gap (spr c k)) := by
  rw [pt_new (by rw [List.map_map]; intro z; obtain ⟨j, hj, e⟩ := List.mem_map.mp z; exact h (e ▸ hj))]
  simp
theorem fill_spr {c : Int} {f : Fm} : fill ((gp f).map fun k => (k, Fm.gap (spr c k))) f = rn (spr c) f := by
  rw [fill_sub, rn_sub]
  refine sub_congr f fun k hk => ?_
  have : lk (tab (fun k => Fm.gap (spr c k)) (gp f)) k = some (.gap (spr c k)) := lk_tab (mem_gp.mpr hk)
  unfold lkd
  rw [show (gp f).map (fun k => (k, Fm.gap (spr c k))) = tab (fun k => Fm.gap (spr c k)) (gp f) from rfl, this]
  rfl
/-- form = _law_spread(_law_looser(f, c, b), e) -/
theorem w_sspread {σ : L2.St} {H : Hp} {u : TS} {D : Ends} {i n n' : Nat} {tf tc te : TE} {E E2 : XK} {f : Fm} {c b e : Int} {d s : Nat} (hf : EvD tf σ H f.d) (hc : EvD tc σ H (.int c)) (he : EvD te σ H (.int e)) (gf : Gd f d s) (h1 : d ≤ n) (h2 : d ≤ 50) (h3 : s ≤ 5000) (h4 : d ≤ n') (h5 : 0 ≤ b) (h6 : b ≤ 900)
    (q : ∀ g v H1, Same H H1 → Rp H1 (rn (spr e) g).d v → Loose f b (c % 4).toNat g → Gd g d s → u D (σ.set i (some v)) H1) :
    tSeq (tAsg (tCall (spSpread n') [] E (tCons (tCall (spLooser n) [] E2 (tCons tf (tCons tc (tCons (tC (.int b)) tNil)))) (tCons te tNil))) (gName i)) u D σ H := by
  have g1 := gf.dep
  have g2 := gf.sg
  refine hf H (Same.refl _) _ fun v H1 s1 r1 => hc H1 s1 _ fun v2 H2 s2 r2 => ?_
  cases (show v2 = V.int c from r2)
  refine ⟨v, f, c, b, rfl, r1.mono s2, gf.gd, by omega, by omega, by omega, h5, h6, fun g vg H3 s3 r3 lg => ?_⟩
  refine he H3 ((s1.trans s2).trans s3) _ fun v4 H4 s4 r4 => ?_
  cases (show v4 = V.int e from r4)
  have hm : c % 4 < 4 := Int.emod_lt_of_pos _ (by decide)
  have gg := gf.loose lg h5 (by omega)
  have g3 := gg.dep
  have g4 := gg.sg
  refine ⟨[g.d, .int e], (rn (spr e) g).d, .cons (r3.mono s4) (.cons rfl .nil), ⟨g, e, rfl, rfl, by omega, gg.ok, by omega⟩, fun v5 H5 s5 r5 => ?_⟩
  exact q g v5 H5 (((s1.trans s2).trans s3).trans (s4.trans s5)) r5 lg gg
end Fx
/-! HxA: a dict whose keys are pairs of forms, the n-th key's value n: looking up, storing (below the walk). -/
namespace Fx
open PySem L2 PySem.Spec PyProof.Rows
mutual
def nkF : Fm → NestedKey
  | .gap n => .tup [.text "gap", .num n]
  | .tie w ps => .tup [.text "tie", .text w, .tup (nkL ps)]
def nkL : List Fm → List NestedKey
  | [] => []
  | f :: fs => nkF f :: nkL fs
end
def nkP (f g : Fm) : NestedKey := .tup [nkF f, nkF g]
mutual
theorem nkF_inj : ∀ f g : Fm, nkF f = nkF g → f = g
  | .gap i, .gap j, h => by
    simp only [nkF, NestedKey.tup.injEq, List.cons.injEq, NestedKey.num.injEq, true_and, and_true] at h
    rw [h]
  | .gap i, .tie w ps, h => by simp [nkF] at h
  | .tie w ps, .gap j, h => by simp [nkF] at h
  | .tie w ps, .tie v qs, h => by
    simp only [nkF, NestedKey.tup.injEq, List.cons.injEq, NestedKey.text.injEq, true_and, and_true] at h
    rw [h.1, nkL_inj ps qs h.2]
theorem nkL_inj : ∀ fs gs : List Fm, nkL fs = nkL gs → fs = gs
  | [], [], _ => rfl
  | [], g :: gs, h => by simp [nkL] at h
  | f :: fs, [], h => by simp [nkL] at h
  | f :: fs, g :: gs, h => by
    simp only [nkL, List.cons.injEq] at h
    rw [nkF_inj f g h.1, nkL_inj fs gs h.2]
end
theorem nkP_inj {f g f' g' : Fm} (h : nkP f g = nkP f' g') : f = f' ∧ g = g' := by
  simp only [nkP, NestedKey.tup.injEq, List.cons.injEq, and_true] at h
  exact ⟨nkF_inj _ _ h.1, nkF_inj _ _ h.2⟩
mutual
theorem nkF_dep : ∀ f : Fm, (nkF f).depth ≤ 2 * f.dep
  | .gap _ => by simp [nkF, NestedKey.depth, NestedKey.depthAll, Fm.dep]
  | .tie w ps => by
    have := nkL_dep ps
    simp only [nkF, NestedKey.depth, NestedKey.depthAll, Fm.dep]
    omega
theorem nkL_dep : ∀ fs : List Fm, NestedKey.depthAll (nkL fs) ≤ 2 * Fm.depL fs
  | [] => by simp [nkL, NestedKey.depthAll]
  | f :: fs => by
    have := nkF_dep f
    have := nkL_dep fs
    simp only [nkL, NestedKey.depthAll, Fm.depL]
    omega
end
theorem nkP_dep {f g : Fm} {n : Nat} (hf : f.dep ≤ n) (hg : g.dep ≤ n) : (nkP f g).depth ≤ 2 * n + 1 := by
  have := nkF_dep f
  have := nkF_dep g
  simp only [nkP, NestedKey.depth, NestedKey.depthAll]
  omega
section
variable {P : Program} {w : World} {H : Hp} {h : Heap}
theorem vals_inv {x : V} {xs : List V} {its : List Value} (r : Vals (x :: xs) its) : ∃ u us, its = u :: us ∧ RelV x u ∧ Vals xs us := by
  cases r with
  | cons a b => exact ⟨_, _, rfl, a, b⟩
theorem vals_nil {its : List Value} (r : Vals [] its) : its = [] := by cases r; rfl
mutual
theorem is_nk (ok : HOk P w H h) : ∀ (f : Fm) (v : V) (u : Value), Rp H f.d v → RelV v u → NestedIs h (nkF f) u
  | .gap n, v, u, hr, ru => by
    obtain ⟨a, xs, rfl, ha, v1, _, rfl, r1, v2, _, rfl, r2, rfl⟩ := hr
    cases (show v1 = V.str "gap" from r1)
    cases (show v2 = V.int n from r2)
    obtain rfl : u = Value.ref a := ru
    obtain ⟨_, its, rv, o, ho, hc, m, hd⟩ := ok a _ ha
    obtain ⟨u1, us, rfl, q1, rv⟩ := vals_inv rv
    obtain ⟨u2, us, rfl, q2, rv⟩ := vals_inv rv
    rw [vals_nil rv] at hd
    obtain ⟨t1, rfl⟩ := q1
    obtain ⟨t2, rfl⟩ := q2
    exact .tup ho hc hd (.cons (.text _ _) (.cons (.int _ _) .nil))
  | .tie wd ps, v, u, hr, ru => by
    obtain ⟨a, xs, rfl, ha, v1, _, rfl, r1, v2, _, rfl, r2, v3, _, rfl, r3, rfl⟩ := hr
    cases (show v1 = V.str "tie" from r1)
    cases (show v2 = V.str wd from r2)
    obtain rfl : u = Value.ref a := ru
    obtain ⟨_, its, rv, o, ho, hc, m, hd⟩ := ok a _ ha
    obtain ⟨u1, us, rfl, q1, rv⟩ := vals_inv rv
    obtain ⟨u2, us, rfl, q2, rv⟩ := vals_inv rv
    obtain ⟨u3, us, rfl, q3, rv⟩ := vals_inv rv
    rw [vals_nil rv] at hd
    obtain ⟨t1, rfl⟩ := q1
    obtain ⟨t2, rfl⟩ := q2
    obtain ⟨b, ys, rfl, hb, hr'⟩ := r3
    obtain rfl : u3 = Value.ref b := q3
    obtain ⟨_, its', rv', o', ho', hc', m', hd'⟩ := ok b _ hb
    exact .tup ho hc hd (.cons (.text _ _) (.cons (.text _ _) (.cons (.tup ho' hc' hd' (by simpa using is_nkL ok ps ys its' hr' rv')) .nil)))
theorem is_nkL (ok : HOk P w H h) : ∀ (fs : List Fm) (vs : List V) (us : List Value), RpL H (Fm.dL fs) vs → Vals vs us → NestedAll h (nkL fs) us
  | [], vs, us, hr, ru => by
    rw [show vs = [] from hr] at ru
    rw [vals_nil ru]; exact .nil
  | f :: fs, vs, us, hr, ru => by
    obtain ⟨v, r, rfl, h1, h2⟩ := hr
    obtain ⟨u, us', rfl, q1, q2⟩ := vals_inv ru
    exact .cons (is_nk ok f v u h1 q1) (is_nkL ok fs r us' h2 q2)
end
theorem is_nkP (ok : HOk P w H h) {f g : Fm} {a : Addr} (hr : Rp H (.tuple [f.d, g.d]) (.ref a)) : NestedIs h (nkP f g) (.ref a) := by
  obtain ⟨b, xs, e, ha, v1, _, rfl, r1, v2, _, rfl, r2, rfl⟩ := hr
  cases e
  obtain ⟨_, its, rv, o, ho, hc, m, hd⟩ := ok a _ ha
  obtain ⟨u1, us, rfl, q1, rv⟩ := vals_inv rv
  obtain ⟨u2, us, rfl, q2, rv⟩ := vals_inv rv
  rw [vals_nil rv] at hd
  exact .tup ho hc hd (.cons (is_nk ok f v1 u1 r1 q1) (.cons (is_nk ok g v2 u2 r2 q2) .nil))
end
/-! ### the entries -/
abbrev PL := List (Fm × Fm × Addr)
inductive Corr : Nat → PL → List (NestedKey × Addr × Value) → Prop
  | nil {i : Nat} : Corr i [] []
  | cons {i : Nat} {f g : Fm} {a : Addr} {t : Tok} {L : PL} {xs : List (NestedKey × Addr × Value)} : Corr (i + 1) L xs → Corr i ((f, g, a) :: L) ((nkP f g, a, .int (i : Int) t) :: xs)
theorem Corr.length {i : Nat} {L : PL} {xs : List (NestedKey × Addr × Value)} (c : Corr i L xs) : xs.length = L.length := by
  induction c with
  | nil => rfl
  | cons _ ih => simp [ih]
theorem Corr.get {i : Nat} {L : PL} {xs : List (NestedKey × Addr × Value)} (c : Corr i L xs) : ∀ {j : Nat} {x : NestedKey × Addr × Value}, xs[j]? = some x → ∃ f g a t, L[j]? = some (f, g, a) ∧ x = (nkP f g, a, .int ((i + j : Nat) : Int) t) := by
  induction c with
  | nil => intro j x e; simp at e
  | @cons i f g a t L xs c ih =>
    intro j x e
    cases j with
    | zero => simp only [List.getElem?_cons_zero, Option.some.injEq] at e; subst e; exact ⟨f, g, a, t, rfl, rfl⟩
    | succ j =>
      obtain ⟨f', g', a', t', e1, e2⟩ := ih (by simpa using e)
      exact ⟨f', g', a', t', by simpa using e1, by rw [e2]; congr 3; omega⟩
theorem Corr.get' {i : Nat} {L : PL} {xs : List (NestedKey × Addr × Value)} (c : Corr i L xs) : ∀ {j : Nat} {f g : Fm} {a : Addr}, L[j]? = some (f, g, a) → ∃ t, xs[j]? = some (nkP f g, a, .int ((i + j : Nat) : Int) t) := by
  induction c with
  | nil => intro j f g a e; simp at e
  | @cons i f g a t L xs c ih =>
    intro j f' g' a' e
    cases j with
    | zero =>
      simp only [List.getElem?_cons_zero, Option.some.injEq] at e
      cases e
      exact ⟨t, rfl⟩
    | succ j =>
      obtain ⟨t', e1⟩ := ih (by simpa using e)
      exact ⟨t', by simp only [List.getElem?_cons_succ]; rw [e1]; congr 4; omega⟩
theorem Corr.snoc {i : Nat} {L : PL} {xs : List (NestedKey × Addr × Value)} (c : Corr i L xs) (f g : Fm) (a : Addr) (t : Tok) : Corr i (L ++ [(f, g, a)]) (xs ++ [(nkP f g, a, .int ((i + L.length : Nat) : Int) t)]) := by
  induction c with
  | nil => exact .cons .nil
  | @cons i f' g' a' t' L xs c ih =>
    simp only [List.cons_append, List.length_cons]
    rw [show i + (L.length + 1) = i + 1 + L.length by omega]
    exact .cons ih
theorem Corr.keys {i : Nat} {L : PL} {xs : List (NestedKey × Addr × Value)} (c : Corr i L xs) : xs.map (·.1) = L.map fun x => nkP x.1 x.2.1 := by
  induction c with
  | nil => rfl
  | cons _ ih => simp [ih]
/-- where the pair stands -/
def posP : PL → Fm → Fm → Option Nat
  | [], _, _ => none
  | x :: L, f, g => if x.1 = f ∧ x.2.1 = g then some 0 else (posP L f g).map (· + 1)
theorem posP_some : ∀ {L : PL} {f g : Fm} {j : Nat}, posP L f g = some j → ∃ a, L[j]? = some (f, g, a)
  | x :: L, f, g, j, h => by
    simp only [posP] at h
    split at h
    · rename_i e; cases h; obtain ⟨x1, x2, x3⟩ := x; obtain ⟨rfl, rfl⟩ := e; exact ⟨x3, rfl⟩
    · cases q : posP L f g with
      | none => rw [q] at h; cases h
      | some k =>
        rw [q] at h; cases h
        obtain ⟨a, e⟩ := posP_some q
        exact ⟨a, by simpa using e⟩
theorem posP_none : ∀ {L : PL} {f g : Fm}, posP L f g = none → ∀ (j : Nat) (a : Addr), L[j]? ≠ some (f, g, a)
  | [], f, g, _, j, a, e => by simp at e
  | x :: L, f, g, h, j, a, e => by
    simp only [posP] at h
    split at h
    · cases h
    · rename_i hne
      cases q : posP L f g with
      | some k => rw [q] at h; cases h
      | none =>
        cases j with
        | zero => simp only [List.getElem?_cons_zero, Option.some.injEq] at e; subst e; exact hne ⟨rfl, rfl⟩
        | succ j => exact posP_none q j a (by simpa using e)
def prs (L : PL) : List (Fm × Fm) := L.map fun x => (x.1, x.2.1)
theorem posP_get {L : PL} (nd : (prs L).Nodup) {f g : Fm} {j : Nat} {a : Addr} (e : L[j]? = some (f, g, a)) : posP L f g = some j := by
  cases q : posP L f g with
  | none => exact absurd e (posP_none q j a)
  | some k =>
    obtain ⟨b, e'⟩ := posP_some q
    have h1 : (prs L)[j]? = some (f, g) := by unfold prs; rw [List.getElem?_map, e]; rfl
    have h2 : (prs L)[k]? = some (f, g) := by unfold prs; rw [List.getElem?_map, e']; rfl
    congr 1
    exact (List.getElem?_inj (List.getElem?_eq_some_iff.mp h2).1 nd).mp (h2.trans h1.symm)
/-- keys that a look-up may meet: none deep, or at most the one that is looked up -/
def Look (L : PL) (f g : Fm) : Prop := ((nkP f g).depth ≤ 8 ∧ ∀ x, x ∈ L → (nkP x.1 x.2.1).depth ≤ 8) ∨ ((nkP f g).depth ≤ 40 ∧ (L = [] ∨ ∃ a, L = [(f, g, a)]))
theorem Look.dep {L : PL} {f g : Fm} (h : Look L f g) : (nkP f g).depth ≤ 40 := by
  rcases h with ⟨h, _⟩ | ⟨h, _⟩ <;> omega
def enOf (w : World) (x : NestedKey × Addr × Value) : DictEntry := ⟨x.1.hash w, .ref x.2.1, x.2.2⟩
/-- the tuples of the keys stand, no pair twice -/
structure KeysAt (h : Heap) (L : PL) : Prop where
  is : ∀ x, x ∈ L → NestedIs h (nkP x.1 x.2.1) (.ref x.2.2)
  nd : (prs L).Nodup
section
variable {P : Program} {w : World} {A : Around} {E : Value → Shared → Prop} {s : Shared}
/-- whether == may tell can always be asked -/
theorem quiet_go : (∀ (k : NestedKey) (v : Value), NestedIs s.heap k v → ∀ (n : Nat) (A : Around) (E : Value → Shared → Prop) (Q : Bool → Shared → Prop), (∀ b, Q b s) → wpAny (model P w) A (eqIsQuiet n v) Q E s) := by
  intro k v hk n
  induction n generalizing k v with
  | zero =>
    intro A E Q hq
    cases hk with
    | none => rw [eqIsQuiet_byValue 0 rfl]; exact wpAny_pure (hq _)
    | bool _ => rw [eqIsQuiet_byValue 0 rfl]; exact wpAny_pure (hq _)
    | int _ _ => rw [eqIsQuiet_byValue 0 rfl]; exact wpAny_pure (hq _)
    | text _ _ => rw [eqIsQuiet_byValue 0 rfl]; exact wpAny_pure (hq _)
    | @tup a o vs m ks hg hc hd hall =>
      have hT : s.TypeIs (.ref a) "tuple" := ⟨o, hg, hc⟩
      unfold eqIsQuiet
      refine wpAny_bind (wpAny_specialOf hT F.slot_tuple_eq.lookup ?_)
      show wpAny _ _ (isInstance (.ref a) (.type "tuple") >>= _) _ _ s
      refine wpAny_bind (wpAny_isInstance hT isSubtype_tuple_tuple ?_)
      simp only [Bool.not_true, Bool.false_eq_true, if_false]
      exact wpAny_pure (hq _)
  | succ n ih =>
    intro A E Q hq
    cases hk with
    | none => rw [eqIsQuiet_byValue (n + 1) rfl]; exact wpAny_pure (hq _)
    | bool _ => rw [eqIsQuiet_byValue (n + 1) rfl]; exact wpAny_pure (hq _)
    | int _ _ => rw [eqIsQuiet_byValue (n + 1) rfl]; exact wpAny_pure (hq _)
    | text _ _ => rw [eqIsQuiet_byValue (n + 1) rfl]; exact wpAny_pure (hq _)
    | @tup a o vs m ks hg hc hd hall =>
      have hT : s.TypeIs (.ref a) "tuple" := ⟨o, hg, hc⟩
      have each : ∀ v, v ∈ vs.toList → ∃ k, NestedIs s.heap k v := by
        generalize vs.toList = l at hall
        intro v hv
        induction l generalizing ks with
        | nil => cases hv
        | cons u us ih2 =>
          cases hall with
          | @cons k _ ks' _ h1 h2 =>
            rcases List.mem_cons.mp hv with rfl | hv
            · exact ⟨k, h1⟩
            · exact ih2 h2 hv
      unfold eqIsQuiet
      refine wpAny_bind (wpAny_specialOf hT F.slot_tuple_eq.lookup ?_)
      show wpAny _ _ (isInstance (.ref a) (.type "tuple") >>= _) _ _ s
      refine wpAny_bind (wpAny_isInstance hT isSubtype_tuple_tuple ?_)
      simp only [Bool.not_true, Bool.false_eq_true, if_false]
      refine wpAny_bind (wpAny_seqItems hg hd ?_)
      refine wpAny_bind ?_
      show wpAny _ _ (forIn vs _ _) _ _ s
      rw [← Array.forIn_toList]
      refine wpAny_forIn_list _ (fun rest r s' => s' = s ∧ r.1 = none ∧ ∀ v, v ∈ rest → ∃ k, NestedIs s.heap k v) _ ?_ ?_ _ _ ⟨rfl, rfl, each⟩
      · rintro v rest r s' ⟨rfl, hr, hall'⟩
        obtain ⟨k', hk'⟩ := hall' v List.mem_cons_self
        refine wpAny_bind (ih k' v hk' _ _ _ fun b => ?_)
        cases b with
        | true =>
          simp only [Bool.not_true, Bool.false_eq_true, if_false]
          exact wpAny_pure ⟨rfl, rfl, fun u hu => hall' u (List.mem_cons_of_mem _ hu)⟩
        | false =>
          simp only [Bool.not_false, if_true]
          exact wpAny_pure (wpAny_pure (hq _))
      · rintro ⟨r1, r2⟩ s' ⟨rfl, hr, _⟩
        simp only at hr
        subst hr
        exact wpAny_pure (hq _)
end
end Fx
/-! HxB: the look-up in a dict keyed by pairs of forms. -/
namespace Fx
open PySem L2 PySem.Spec PyProof.Rows
section
variable {P : Program} {w : World} {A : Around} {E : Value → Shared → Prop} {s : Shared}
theorem tell_go {k : NestedKey} {a : Addr} {st : List Value} {Q : Bool → Shared → Prop} (hk : NestedIs s.heap k (.ref a)) (hs : ∀ v, v ∈ st → ∃ k, NestedIs s.heap k v) (he : st = [] → Q false s) (hq : ∀ b, Q b s) : wpAny (model P w) A (tableMayTell (.ref a) st) Q E s := by
  unfold tableMayTell
  split
  · rename_i e
    exact wpAny_pure (hq _)
  · refine wpAny_bind (quiet_go k _ hk 8 _ _ _ fun b => ?_)
    cases b with
    | false =>
      simp only [Bool.not_false, if_true]
      exact wpAny_pure (hq _)
    | true =>
      simp only [Bool.not_true, Bool.false_eq_true, if_false]
      refine wpAny_bind ?_
      refine wpAny_forIn_list _ (fun rest r s' => s' = s ∧ r = (none, ()) ∧ ∀ v, v ∈ rest → ∃ k, NestedIs s.heap k v) _ ?_ ?_ _ _ ⟨rfl, rfl, hs⟩
      · rintro v rest r s' ⟨rfl, rfl, hall⟩
        obtain ⟨k', hk'⟩ := hall v List.mem_cons_self
        refine wpAny_bind (quiet_go k' v hk' 8 _ _ _ fun b => ?_)
        cases b with
        | true =>
          simp only [Bool.not_true, Bool.false_eq_true, if_false]
          exact wpAny_pure ⟨rfl, rfl, fun u hu => hall u (List.mem_cons_of_mem _ hu)⟩
        | false =>
          simp only [Bool.not_false, if_true]
          exact wpAny_pure (wpAny_pure (hq _))
      · rintro r s' ⟨rfl, rfl, _⟩
        exact wpAny_pure (hq _)
theorem find_empty {d a : Addr} {o : Obj} {es : Array DictEntry} {ep : Nat} {k : NestedKey} {hh : Int} {Q : Option Nat → Shared → Prop} (hk : NestedIs s.heap k (.ref a)) (ho : s.heap.get? d = some o) (hd : o.data = .dict es ep)
    (hpl : placesWithHash es.size (fun i => es[i]?.map (·.hash)) hh = []) (hany : ¬ (es.any fun e => e.key == Value.ref a && e.hash != hh) = true) (hQ : Q none s) : wpAny (model P w) A (dictFind d (.ref a) hh) Q E s := by
  unfold dictFind
  try with_reducible refine wpAny_holding ?_
  refine wpAny_bind (wpAny_dictEntries ho hd ?_)
  dsimp only
  have c1 : ¬ ((Value.ref a :: (placesWithHash es.size (fun i => es[i]?.map (·.hash)) hh).filterMap (fun i => es[i]?.map (·.key))).all carriedByValue) = true := by simp [carriedByValue]
  rw [if_neg c1, if_neg hany, hpl]
  have c2 : ¬ ((([] : List Nat).filterMap (fun i => es[i]?.map (·.key))) == [Value.ref a]) = true := by simp
  rw [if_neg c2]
  refine wpAny_bind ?_
  unfold tableMayTell
  have c3 : (([] : List Nat).filterMap (fun i => es[i]?.map (·.key))).isEmpty = true := rfl
  rw [if_pos c3]
  refine wpAny_pure ?_
  rw [if_neg (by simp)]
  refine wpAny_bind ?_
  rw [List.forIn_nil]
  exact wpAny_pure (wpAny_pure hQ)
theorem find_same {d a b : Addr} {o : Obj} {es : Array DictEntry} {ep : Nat} {k : NestedKey} {en : DictEntry} {hh : Int} {Q : Option Nat → Shared → Prop} (hu : A.units + k.depth < cLine) (hk : NestedIs s.heap k (.ref a)) (hb : NestedIs s.heap k (.ref b)) (ho : s.heap.get? d = some o) (hd : o.data = .dict es ep)
    (hen : es[0]? = some en) (hkey : en.key = .ref b) (hhash : en.hash = hh) (hpl : placesWithHash es.size (fun i => es[i]?.map (·.hash)) hh = [0]) (hany : ¬ (es.any fun e => e.key == Value.ref a && e.hash != hh) = true) (hQ : Q (some 0) s) : wpAny (model P w) A (dictFind d (.ref a) hh) Q E s := by
  have heq : SeqAt.EqAt A s (.ref b) (.ref a) true := (eqAt_key k k A s _ _ hb hk (by rw [Nat.min_self]; exact hu)).cast (NestedKey.beq_self k)
  unfold dictFind
  try with_reducible refine wpAny_holding ?_
  refine wpAny_bind (wpAny_dictEntries ho hd ?_)
  dsimp only
  have c1 : ¬ ((Value.ref a :: (placesWithHash es.size (fun i => es[i]?.map (·.hash)) hh).filterMap (fun i => es[i]?.map (·.key))).all carriedByValue) = true := by simp [carriedByValue]
  rw [if_neg c1, if_neg hany, hpl]
  have fm : ([0] : List Nat).filterMap (fun i => es[i]?.map (·.key)) = [Value.ref b] := by simp [hen, hkey]
  rw [fm]
  by_cases hone : ([Value.ref b] == [Value.ref a]) = true <;> (first | rw [if_pos hone] | rw [if_neg hone]) <;>
    (first | refine wpAny_bind (wpAny_pure ?_) | refine wpAny_bind (tell_go hk (fun v hv => by simp at hv; subst hv; exact ⟨k, hb⟩) (fun z => by cases z) fun tl => ?_)) <;> (
    rw [if_neg (by simp)]
    refine wpAny_bind ?_
    rw [List.forIn_cons]
    refine wpAny_bind ?_
    rw [hen]
    dsimp only
    rw [if_pos (by rw [hhash]; simp)]
    refine wpAny_bind (wpAny_dictEpoch ho hd (wpAny_bind ?_))
    rw [hkey]
    refine heq _ _ _ _ (wpAny_bind (wpAny_dictEpoch ho hd ?_))
    rw [if_neg (by simp)]
    rw [if_pos rfl]
    rw [if_neg (by simp)]
    refine wpAny_bind (wpAny_rule ?_)
    rw [if_pos (by simp)]
    exact wpAny_pure (wpAny_pure (wpAny_pure hQ)))
/-- at d stands the dict of the pairs L -/
def DP (w : World) (h : Heap) (d : Addr) (L : PL) (o : Obj) (es : Array DictEntry) (ep : Nat) (xs : List (NestedKey × Addr × Value)) : Prop := h.get? d = some o ∧ o.ExactDict ∧ o.data = .dict es ep ∧ es.toList = xs.map (enOf w) ∧ Corr 0 L xs
theorem pd_find {d a : Addr} {L : PL} {o : Obj} {es : Array DictEntry} {ep : Nat} {xs : List (NestedKey × Addr × Value)} {f g : Fm} {Q : Option Nat → Shared → Prop} (hu : A.units + 50 < cLine) (D : DP w s.heap d L o es ep xs) (K : KeysAt s.heap L)
    (hk : NestedIs s.heap (nkP f g) (.ref a)) (lk : Look L f g) (hQ : Q (posP L f g) s) : wpAny (model P w) A (dictFind d (.ref a) ((nkP f g).hash w)) Q E s := by
  obtain ⟨ho, hx, hd, he, C⟩ := D
  rcases lk with ⟨l1, l2⟩ | ⟨l1, l2⟩
  · have room : (nestedKind P w).room A := by show A.units + 8 < cLine; omega
    refine wpAny_dictFind_heap (knd := nestedKind P w) (k := nkP f g) room ⟨hk, l1⟩ ho hd he (fun x hx => ?_) ?_ (fun hn => ?_) (fun j p e => ?_)
    · obtain ⟨j, hj⟩ := List.mem_iff_getElem?.mp hx
      obtain ⟨f', g', a', t, e1, rfl⟩ := C.get hj
      have hm := List.mem_of_getElem? e1
      exact ⟨K.is _ hm, l2 _ hm⟩
    · rw [C.keys]
      have := K.nd
      unfold prs at this
      have e : (L.map fun x => nkP x.1 x.2.1) = (L.map fun x => (x.1, x.2.1)).map fun p => nkP p.1 p.2 := by rw [List.map_map]; rfl
      rw [e]
      exact List.Pairwise.map _ (fun p q hne z => hne (by obtain ⟨a, b⟩ := nkP_inj z; exact Prod.ext a b)) this
    · cases q : posP L f g with
      | none => rw [q] at hQ; exact hQ
      | some j =>
        obtain ⟨b, e⟩ := posP_some q
        obtain ⟨t, e'⟩ := C.get' e
        exact absurd e' (hn j _)
    · obtain ⟨f', g', a', t, e1, e2⟩ := C.get e
      injection e2 with e2 _
      obtain ⟨rfl, rfl⟩ := nkP_inj e2
      rw [posP_get K.nd e1] at hQ
      exact hQ
  · -- none, or the one key itself
    have small : es = #[] ∧ posP L f g = none ∨ ∃ b t, es = #[enOf w (nkP f g, b, .int ((0 : Nat) : Int) t)] ∧ posP L f g = some 0 ∧ NestedIs s.heap (nkP f g) (.ref b) := by
      rcases l2 with rfl | ⟨b, rfl⟩
      · cases C
        refine .inl ⟨?_, rfl⟩
        have : es.toList = [] := he
        exact Array.toList_inj.mp this
      · cases C with
        | @cons _ _ _ _ t _ xs' c =>
          cases c
          refine .inr ⟨b, t, ?_, by simp [posP], K.is (f, g, b) (by simp)⟩
          apply Array.toList_inj.mp
          rw [he]; simp
    rcases small with ⟨rfl, ep0⟩ | ⟨b, t, rfl, ep0, hb⟩
    · rw [ep0] at hQ
      exact find_empty hk ho hd rfl (by simp) hQ
    · rw [ep0] at hQ
      exact find_same (b := b) (en := enOf w (nkP f g, b, .int ((0 : Nat) : Int) t)) (by omega) hk hb ho hd (by simp) rfl rfl (by simp [placesWithHash, enOf, List.range_succ]) (by simp [enOf]) hQ
end
end Fx
/-! HxC: reading, asking and storing in a dict keyed by pairs of forms; the rules of the walk. -/
namespace Fx
open PySem L2 PySem.Spec PyProof.Rows
section
variable {P : Program} {w : World} {A : Around} {E : Value → Shared → Prop} {s : Shared} {d a : Addr} {L : PL} {o : Obj} {es : Array DictEntry} {ep : Nat} {xs : List (NestedKey × Addr × Value)} {f g : Fm}
abbrev tk (f g : Fm) (s : Shared) : Shared := { s with toks := s.toks + (nkP f g).draws }
theorem pd_get {Q : Option Value → Shared → Prop} (hu : A.units + 50 < cLine) (D : DP w s.heap d L o es ep xs) (K : KeysAt s.heap L) (hk : NestedIs s.heap (nkP f g) (.ref a)) (lk : Look L f g)
    (h1 : ∀ (j : Nat) t, posP L f g = some j → Q (some (.int (j : Int) t)) (tk f g s)) (h2 : posP L f g = none → Q none (tk f g s)) : wpAny (model P w) A (dictGet d (.ref a)) Q E s := by
  have hdep := lk.dep
  have D' := D
  obtain ⟨ho, hx, hd, he, C⟩ := D
  unfold dictGet
  try with_reducible refine wpAny_holding ?_
  refine wpAny_bind (pyHash_key (nkP f g) (.ref a) A s _ hk (by omega) (wpAny_bind (pd_find (s := tk f g s) hu D' K hk lk ?_)))
  cases q : posP L f g with
  | none => exact wpAny_pure (h2 q)
  | some j =>
    obtain ⟨b, e⟩ := posP_some q
    obtain ⟨t, e'⟩ := C.get' e
    refine wpAny_bind (wpAny_dictEntries (s := tk f g s) ho hd ?_)
    have : es[j]? = some (enOf w (nkP f g, b, .int ((0 + j : Nat) : Int) t)) := by rw [← Array.getElem?_toList, he, List.getElem?_map, e']; rfl
    rw [this]
    have hz : ((0 + j : Nat) : Int) = j := by omega
    refine wpAny_pure ?_
    show Q (some (.int ((0 + j : Nat) : Int) t)) _
    rw [hz]
    exact h1 j t q
theorem pd_set {t : Tok} {Q : Unit → Shared → Prop} (hu : A.units + 50 < cLine) (D : DP w s.heap d L o es ep xs) (K : KeysAt s.heap L) (hk : NestedIs s.heap (nkP f g) (.ref a)) (lk : Look L f g) (hn : posP L f g = none) (hl : L.length ≤ 100000)
    (hQ : ∀ h' o' es' xs', DP w h' d (L ++ [(f, g, a)]) o' es' (ep + 1) xs' → Heap.SameBut d s.heap h' → Q () { s with heap := h', toks := s.toks + (nkP f g).draws }) : wpAny (model P w) A (dictSet d (.ref a) (.int (L.length : Int) t)) Q E s := by
  have hdep := lk.dep
  have D' := D
  obtain ⟨ho, hx, hd, he, C⟩ := D
  have hz : es.size = L.length := by rw [← Array.length_toList, he, List.length_map, C.length]
  unfold dictSet
  try with_reducible refine wpAny_holding ?_
  refine wpAny_bind (pyHash_key (nkP f g) (.ref a) A s _ hk (by omega) ?_)
  unfold dictSetHashed
  try with_reducible refine wpAny_holding ?_
  refine wpAny_bind (pd_find (s := tk f g s) hu D' K hk lk ?_)
  rw [hn]
  refine wpAny_bind (wpAny_rule (wpAny_updateDictKeys (hz := by rw [hz, sizeLine_eq]; omega) (s := tk f g s) ho hd (hQ _ _ _ (xs ++ [(nkP f g, a, .int ((0 + L.length : Nat) : Int) t)]) ⟨Heap.get?_update_self _ ho (Obj.isFreed_of_dict (Obj.data_mapDictKeys hd _)), hx.mapDictKeys _, Obj.data_mapDictKeys hd _, ?_, C.snoc f g a t⟩ (Heap.SameBut.update ..))))
  rw [List.map_append, ← he]
  simp [enOf]
theorem DP.typeIs (D : DP w s.heap d L o es ep xs) : s.TypeIs (.ref d) "dict" := ⟨o, D.1, D.2.1.1⟩
theorem pd_has {Q : Bool → Shared → Prop} (hu : A.units + 51 < cLine) (D : DP w s.heap d L o es ep xs) (hs : (d == sysModules) = false) (K : KeysAt s.heap L) (hk : NestedIs s.heap (nkP f g) (.ref a)) (lk : Look L f g) (h : Q (posP L f g).isSome (tk f g s)) :
    wpAny (model P w) A (contains (.ref d) (.ref a)) Q E s := by
  refine wpAny_contains_slot D.typeIs F.slot_dict_contains ?_
  refine call_meetsIn F.slot_dict_contains D.typeIs F.entry_dict_contains (F.args_dict_contains_2 _ _) (S := fun A' R s' => A' = A ∧ s' = s ∧ R (.ok (.ret (.bool (posP L f g).isSome))) (tk f g s)) (fun A' R s' hS => ?_) ⟨rfl, rfl, wpAny_truthy_bool h⟩
  obtain ⟨rfl, rfl, hq⟩ := hS
  show wpAny _ _ (dictGet d (.ref a) >>= _) _ _ _
  refine wpAny_bind (pd_get (by show A'.units + 1 + 50 < cLine; omega) D K hk lk (fun j t e => ?_) fun e => ?_)
  · rw [e] at hq
    show wpAny _ _ (ret (.bool true)) _ _ _
    exact wpAny_pure hq
  · rw [e] at hq
    show wpAny _ _ (Builtin.Dict.pendingKey? d (.ref a) >>= _) _ _ _
    exact wpAny_bind (wpAny_pendingKey_other hs (wpAny_pure hq))
theorem pd_notIn {Q : Value → Shared → Prop} (hu : A.units + 51 < cLine) (D : DP w s.heap d L o es ep xs) (hs : (d == sysModules) = false) (K : KeysAt s.heap L) (hk : NestedIs s.heap (nkP f g) (.ref a)) (lk : Look L f g) (h : Q (.bool (!(posP L f g).isSome)) (tk f g s)) :
    wpAny (model P w) A (compareOp .NotIn (.ref a) (.ref d)) Q E s := by
  show wpAny _ _ (do return .bool (!(← contains (.ref d) (.ref a)))) Q E s
  exact wpAny_bind (pd_has hu D hs K hk lk (wpAny_pure h))
theorem pd_getItem {j : Nat} {Q : Value → Shared → Prop} (hu : A.units + 51 < cLine) (D : DP w s.heap d L o es ep xs) (K : KeysAt s.heap L) (hk : NestedIs s.heap (nkP f g) (.ref a)) (lk : Look L f g) (hj : posP L f g = some j) (h : ∀ t, Q (.int (j : Int) t) (tk f g s)) :
    wpAny (model P w) A (getItem (.ref d) (.ref a)) Q E s := by
  unfold getItem
  try with_reducible refine wpAny_holding ?_
  refine wpAny_bind (wpAny_sequenceKey D.typeIs (by decide) ?_)
  refine wpAny_bind (wpAny_callSpecial?_slot (name := Str.ofString "__getitem__") D.typeIs F.slot_dict_getitem (wpAny_call_entry F.slot_dict_getitem D.typeIs F.entry_dict_getitem ?_ (F.args_dict_getitem_2 _ _)))
  show wpAny _ _ (dictGet d (.ref a) >>= _) _ _ s
  refine wpAny_bind (pd_get (by show A.units + 1 + 50 < cLine; omega) D K hk lk (fun i t e => ?_) fun e => by rw [hj] at e; cases e)
  rw [hj] at e
  cases e
  exact wpAny_pure ⟨_, rfl, wpAny_pure (h t)⟩
theorem pd_setItem {t : Tok} {Q : Unit → Shared → Prop} (hu : A.units + 51 < cLine) (D : DP w s.heap d L o es ep xs) (K : KeysAt s.heap L) (hk : NestedIs s.heap (nkP f g) (.ref a)) (lk : Look L f g) (hn : posP L f g = none) (hl : L.length ≤ 100000)
    (hQ : ∀ h' o' es' xs', DP w h' d (L ++ [(f, g, a)]) o' es' (ep + 1) xs' → Heap.SameBut d s.heap h' → Q () { s with heap := h', toks := s.toks + (nkP f g).draws }) :
    wpAny (model P w) A (setItem (.ref d) (.ref a) (.int (L.length : Int) t)) Q E s := by
  unfold setItem
  try with_reducible refine wpAny_holding ?_
  refine wpAny_bind (wpAny_sequenceKey D.typeIs (by decide) ?_)
  refine wpAny_bind (wpAny_callSpecial?_slot (name := Str.ofString "__setitem__") D.typeIs F.slot_dict_setitem (wpAny_call_entry F.slot_dict_setitem D.typeIs F.entry_dict_setitem ?_ (F.args_dict_setitem_3 _ _ _)))
  show wpAny _ _ (Builtin.Dict.notOrdered "__setitem__" ⟨[.ref d, .ref a, .int (L.length : Int) t], []⟩ >>= _) _ _ s
  refine wpAny_bind (wpAny_notOrdered_dict D.typeIs ?_)
  show wpAny _ _ (dictSet d (.ref a) (.int (L.length : Int) t) >>= _) _ _ s
  exact wpAny_bind (pd_set (by show A.units + 1 + 50 < cLine; omega) D K hk lk hn hl fun h' o' es' xs' D' hs => wpAny_pure ⟨.none, rfl, wpAny_pure (hQ h' o' es' xs' D' hs)⟩)
end
end Fx
/-! HxD: the rules of the walk for a dict keyed by pairs of forms. -/
namespace Fx
open PySem L2 PySem.Spec PyProof.Rows
/-- the thing at d: such a dict -/
def PD (w : World) (d : Addr) (L : PL) : HO := .ext fun h => (d == sysModules) = false ∧ ∃ o es ep xs, DP w h d L o es ep xs
structure KeysOk (H : Hp) (L : PL) : Prop where
  is : ∀ x, x ∈ L → Rp H (.tuple [x.1.d, x.2.1.d]) (.ref x.2.2)
  nd : (prs L).Nodup
theorem KeysOk.mono {H H' : Hp} {L : PL} (k : KeysOk H L) (s : Same H H') : KeysOk H' L := ⟨fun x hx => (k.is x hx).mono s, k.nd⟩
theorem imm_pair (f g : Fm) : imm (.tuple [f.d, g.d]) = true := by
  simp only [imm, immL, Bool.and_eq_true]
  exact ⟨Fm.imm_d _, Fm.imm_d _, trivial⟩
theorem KeysOk.kt {H H' : Hp} {L : PL} (k : KeysOk H L) (s : KT H H') : KeysOk H' L := ⟨fun x hx => Rp.kt s _ _ (imm_pair _ _) (k.is x hx), k.nd⟩
theorem KeysOk.nil {H : Hp} : KeysOk H [] := ⟨(fun x hx => by cases hx), List.nodup_nil⟩
theorem KeysOk.snoc {H : Hp} {L : PL} {f g : Fm} {a : Addr} (k : KeysOk H L) (h : Rp H (.tuple [f.d, g.d]) (.ref a)) (n : posP L f g = none) : KeysOk H (L ++ [(f, g, a)]) := by
  refine ⟨fun x hx => ?_, ?_⟩
  · rcases List.mem_append.mp hx with hx | hx
    · exact k.is x hx
    · have : x = (f, g, a) := List.mem_singleton.mp hx
      subst this
      exact h
  · unfold prs
    rw [List.map_append]
    refine List.nodup_append.mpr ⟨k.nd, by simp, fun p hp q hq => ?_⟩
    have : q = (f, g) := List.mem_singleton.mp hq
    subst this
    obtain ⟨x, hx, rfl⟩ := List.mem_map.mp hp
    obtain ⟨j, hj⟩ := List.mem_iff_getElem?.mp hx
    intro e
    injection e with e1 e2
    obtain ⟨x1, x2, x3⟩ := x
    subst e1 e2
    exact posP_none n j x3 hj
section
variable {P : Program} {w : World} {H : Hp} {h : Heap} {d : Addr} {L : PL}
theorem KeysOk.at (ok : HOk P w H h) (k : KeysOk H L) : KeysAt h L := ⟨fun x hx => is_nkP ok (k.is x hx), k.nd⟩
theorem pd_rd (ok : HOk P w H h) (e : Rd H d (PD w d L)) : (d == sysModules) = false ∧ ∃ o es ep xs, DP w h d L o es ep xs := (e.ok ok).1
theorem pd_obj {h' : Heap} {H' : Hp} {o : Obj} {es : Array DictEntry} {ep : Nat} {xs : List (NestedKey × Addr × Value)} (hs : (d == sysModules) = false) (D : DP w h' d L o es ep xs) : ObjOk P w H' h' d (PD w d L) :=
  ⟨⟨hs, o, es, ep, xs, D⟩, ⟨o, D.1⟩, fun h1 h2 ⟨a, o, es, ep, xs, D⟩ k => ⟨a, o, es, ep, xs, k _ D.1, D.2⟩⟩
end
def tDNewP (w : World) : TE := fun _ H Q => ∀ p, H p = none → Q (.ref p) (upd H p (PD w p []))
def tPNotIn (w : World) (ty td : TE) : TE := fun σ H Q => ty σ H fun y H1 => td σ H1 fun x H2 => ∃ d L f g, x = .ref d ∧ Rd H2 d (PD w d L) ∧ KeysOk H2 L ∧ Rp H2 (.tuple [f.d, g.d]) y ∧ Look L f g ∧ Q (.bl (!(posP L f g).isSome)) H2
def tPGet (w : World) (td ty : TE) : TE := fun σ H Q => td σ H fun x H1 => ty σ H1 fun y H2 => ∃ d L f g j, x = .ref d ∧ Rd H2 d (PD w d L) ∧ KeysOk H2 L ∧ Rp H2 (.tuple [f.d, g.d]) y ∧ Look L f g ∧ posP L f g = some j ∧ Q (.int (j : Int)) H2
def sPPut (w : World) (td ty tv : TE) : TS := fun D σ H => tv σ H fun v H1 => td σ H1 fun x H2 => ty σ H2 fun y H3 => ∃ d L f g, x = .ref d ∧ v = .int (L.length : Int) ∧ H3 d = some (PD w d L) ∧ KeysOk H3 L ∧ Rp H3 (.tuple [f.d, g.d]) y ∧ Look L f g ∧ posP L f g = none ∧ L.length ≤ 10000 ∧
  ∀ a, y = .ref a → D.nx σ (upd H3 d (PD w d (L ++ [(f, g, a)])))
def rLenP (w : World) : List V → Hp → VK → Prop := fun xs H Q => ∃ d L, xs = [V.ref d] ∧ Rd H d (PD w d L) ∧ L.length ≤ 10000 ∧ Q (.int (L.length : Int)) H
section
variable {X : Cx} {pos pos' : Pos} {i o value : Expr} {td ty tv : TE}
theorem pe_dnewP : PE X (.Dict [] [] pos) (tDNewP X.w) := ⟨fun pins s σ H Q I h => by
  refine wpAny_Dict_empty ⟨.ref s.heap.objs.size, _, I.laid (a := s.heap.objs.size) (o := PD X.w s.heap.objs.size []) (t' := s.toks) (fun _ _ q => Heap.get?_push_of_some _ q) (Nat.le_refl _) ?_, rfl, h _ (I.hok.fresh (Nat.le_refl _))⟩
  exact pd_obj (beq_eq_false_iff_ne.mpr (Ne.symm (Nat.ne_of_lt I.big))) ⟨Heap.get?_push_size _ rfl, ⟨rfl, rfl, rfl⟩, rfl, rfl, .nil⟩⟩
theorem ref_of {H : Hp} {ds : List PyData} {y : V} (h : Rp H (.tuple ds) y) : ∃ a, y = .ref a := by obtain ⟨a, _, e, _⟩ := h; exact ⟨a, e⟩
theorem pc_pnotin (hu : X.A.units + 199 < cLine) (hi : PE X i ty) (ho : PE X o td) : PC X .NotIn i o (tPNotIn X.w ty td) := by
  refine ⟨fun pins s σ H Q I h => ?_⟩
  refine thn (hi.run pins s σ H _ I h) fun iv s1 ⟨y, H1, I1, ry, q1⟩ => thn (ho.run pins s1 σ H1 _ I1 q1) fun u s2 ⟨x, H2, I2, rx, d, L, f, g, ex, e, K, ky, lk, q2⟩ => ?_
  subst ex
  obtain rfl : u = Value.ref d := rx
  obtain ⟨a, rfl⟩ := ref_of ky
  obtain rfl : iv = Value.ref a := ry
  obtain ⟨hs, ob, es, ep, xs, D⟩ := pd_rd I2.hok e
  exact pd_notIn (by omega) D hs (K.at I2.hok) (is_nkP I2.hok ky) lk ⟨.bl (!(posP L f g).isSome), H2, I2.tok _, rfl, q2⟩
theorem pe_pget (hu : X.A.units + 199 < cLine) (ho : PE X o td) (hi : PE X i ty) (hs : NoSl i) : PE X (.Subscript o i pos) (tPGet X.w td ty) := by
  refine ⟨fun pins s σ H Q I h => ?_⟩
  refine subD_of PySem.F.slot_dict_getitem.lookup hs (thn (ho.run pins s σ H _ I h) fun u s1 ⟨x, H1, I1, rx, q1⟩ => thn (hi.run pins s1 σ H1 _ I1 q1) fun iv s2 ⟨y, H2, I2, ry, d, L, f, g, j, ex, e, K, ky, lk, hj, q2⟩ => ?_)
  subst ex
  obtain rfl : u = Value.ref d := rx
  obtain ⟨a, rfl⟩ := ref_of ky
  obtain rfl : iv = Value.ref a := ry
  obtain ⟨hs', ob, es, ep, xs, D⟩ := pd_rd I2.hok e
  exact ⟨D.typeIs, pd_getItem (by omega) D (K.at I2.hok) (is_nkP I2.hok ky) lk hj fun t => ⟨.int (j : Int), H2, I2.tok _, ⟨t, rfl⟩, q2⟩⟩
theorem ps_pput (hu : X.A.units + 199 < cLine) (ho : PE X o td) (hi : PE X i ty) (hv : PE X value tv) (hs : swapsWith value (some (.Subscript o i pos')) pos.line X.env = pure false) :
    PS X (.Assign [.Subscript o i pos'] value pos) (sPPut X.w td ty tv) := by
  refine ⟨fun pins s σ H D I h => ?_⟩
  refine wpAny_Assign_Subscript (thn (hv.run pins s σ H _ I h) fun r s1 ⟨v, H1, I1, rv, q1⟩ => thn (ho.run pins s1 σ H1 _ I1 q1) fun u s2 ⟨x, H2, I2, rx, q2⟩ => thn (hi.run pins s2 σ H2 _ I2 q2) fun iv s3 ⟨y, H3, I3, ry, d, L, f, g, ex, ev, e, K, ky, lk, hn, hl, q3⟩ => ?_) hs
  subst ex ev
  obtain rfl : u = Value.ref d := rx
  obtain ⟨a, rfl⟩ := ref_of ky
  obtain rfl : iv = Value.ref a := ry
  obtain ⟨t, rfl⟩ := rv
  obtain ⟨hs', ob, es, ep, xs, DD⟩ := pd_rd I3.hok (.inl e)
  refine pd_setItem (by omega) DD (K.at I3.hok) (is_nkP I3.hok ky) lk hn (by omega) fun h' o' es' xs' D' sb => ?_
  exact ⟨σ, _, d_write I3 (by rw [e]; exact True.intro) sb ⟨o', D'.1⟩ (pd_obj hs' D'), q3 a rfl⟩
theorem cr_lenP : CallR X (.builtin "len") (rLenP X.w) := by
  intro pins s σ H xs us Q I r h
  obtain ⟨d, L, rfl, e, hl, q⟩ := h
  obtain ⟨u, rfl, ru⟩ := vals1 r
  obtain rfl : u = Value.ref d := ru
  obtain ⟨hs, ob, es, ep, ys, D⟩ := pd_rd I.hok e
  have hz : es.size = L.length := by rw [← Array.length_toList, D.2.2.2.1, List.length_map, D.2.2.2.2.length]
  refine PyProof.Rows.call_len_slot (n := (L.length : Int)) D.typeIs F.slot_dict_len (fun Q' hq => call_len_raw hs ⟨ob, D.1, D.2.1, D.2.2.1⟩ ?_) (by omega) (by omega) ⟨.int (L.length : Int), H, (I.tok _).tok _, ⟨_, rfl⟩, q⟩
  rw [hz]
  exact hq
end
/-! ### the keys, walked -/
def ItP (w : World) (d : Addr) (o : Obj) (L : PL) : It :=
  ⟨fun i H => H d = some (.frz o (PD w d L)) ∧ i < L.length, fun i H x H' => H' = H ∧ ∃ f g a, L[i]? = some (f, g, a) ∧ x = .ref a, fun i H => H d = some (.frz o (PD w d L)) ∧ L.length ≤ i⟩
section
variable {X : Cx} {pins : List (Addr × Obj)} {σ : L2.St} {H : Hp} {s : Shared} {d : Addr} {o : Obj} {L : PL}
theorem frzP (I : L2.Inv X pins σ H s) (h : H d = some (.frz o (PD X.w d L))) : (d == sysModules) = false ∧ ∃ es ep xs, DP X.w s.heap d L o es ep xs := by
  obtain ⟨hd, q⟩ := I.hok d _ h
  obtain ⟨hs, o', es, ep, xs, D⟩ := q.1
  have : o' = o := by have := D.1; rw [hd] at this; exact (Option.some.inj this).symm
  subst this
  exact ⟨hs, es, ep, xs, D⟩
theorem DP.size {w : World} {h : Heap} {es : Array DictEntry} {ep : Nat} {xs : List (NestedKey × Addr × Value)} (D : DP w h d L o es ep xs) : es.size = L.length := by
  rw [← Array.length_toList, D.2.2.2.1, List.length_map, D.2.2.2.2.length]
theorem turnP {P : Program} {w : World} {K : PySem.W.Frag} {tg : Expr} {es : Array DictEntry} {ep : Nat} (it : Addr) (hod : o.data = .dict es ep) : Turn P w K tg (ItP w d o L) [it] it (fun i h => h.IsKeyIter it d i L.length ep) where
  mem := by simp
  obj := fun i h st b hb => by
    obtain rfl : b = it := by simpa using hb
    obtain ⟨oi, e, c, dd⟩ := st
    exact ⟨oi, e, fun v z => by rw [dd] at z; cases z⟩
  keep := fun i h h' st k => st.at fun oi e => k it (by simp) oi e
  item := by
    intro X hP hw hK hc i pins s σ H E I hf st hg
    subst hP hw hK
    obtain ⟨hd, hi⟩ := hg
    obtain ⟨f0, f1, f2, f3, f4, f5⟩ := hf it (by simp)
    obtain ⟨hs, es', ep', xs, D⟩ := frzP I hd
    obtain ⟨rfl, rfl⟩ := dict_ep hod D.2.2.1
    obtain ⟨⟨f, g, a⟩, ha⟩ : ∃ p, L[i]? = some p := ⟨L[i], List.getElem?_eq_getElem hi⟩
    obtain ⟨t, ht⟩ := D.2.2.2.2.get' ha
    have hen : es'[i]? = some (enOf X.w (nkP f g, a, .int ((0 + i : Nat) : Int) t)) := by rw [← Array.getElem?_toList, D.2.2.2.1, List.getElem?_map, ht]; rfl
    refine next_key_item st D.1 D.2.2.1 D.size hen fun h' st' sb => ?_
    have I1 : L2.Inv X pins σ H { s with heap := h' } := I.turned (t' := s.toks) (fun b ob hb e => (sb.2 b hb).trans e) f0 f1 f3 f4 f5
    obtain ⟨oi, e, c, dd⟩ := id st'
    exact ⟨_, rfl, go_of (s := { s with heap := h' }) e c dd (by decide) ⟨.ref a, H, I1, rfl, ⟨rfl, f, g, a, ha, rfl⟩, st', fun b hb => (hf b hb).1⟩⟩
  done := by
    intro X hP hw hK hc i pins s σ H E I hf st hg
    subst hP hw hK
    obtain ⟨hd, hi⟩ := hg
    obtain ⟨f0, f1, f2, f3, f4, f5⟩ := hf it (by simp)
    obtain ⟨hs, es', ep', xs, D⟩ := frzP I hd
    obtain ⟨rfl, rfl⟩ := dict_ep hod D.2.2.1
    exact next_key_end (I.ok.hd hc) st D.1 D.2.2.1 D.size hi fun h' eb => ⟨rfl, I.turned (t' := s.toks) (fun b ob hb e => eb b ob hb e) f0 f1 f3 f4 f5⟩
  self := fun A i s Q E st h => by
    refine wpAny_pyIter_slot st.typeIs F.slot_dict_keyiterator_iter (wpAny_call_entry F.slot_dict_keyiterator_iter st.typeIs F.entry_dict_keyiterator_iter ?_ (F.args_dict_keyiterator_iter_1 _))
    show wpAny _ _ (ret (.ref it)) _ _ s
    exact wpAny_pure ⟨_, rfl, "dict_keyiterator", _, st.typeIs, F.slot_dict_keyiterator_next.lookup, h⟩
end
/-- the dict is locked -/
def iKeysP (w : World) (td : TE) : TI := fun σ H R => td σ H fun x H1 => ∃ d o L, x = .ref d ∧ H1 d = some (.frz o (PD w d L)) ∧ R (ItP w d o L) H1
theorem pi_keysP {X : Cx} {tg e : Expr} {td : TE} (he : PE X e td) : PI X tg e (iKeysP X.w td) := by
  refine ⟨fun pins s σ H R I h => ?_⟩
  refine thn (he.run pins s σ H _ I h) fun u s1 ⟨x, H1, I1, rx, d, o, L, ex, hd, q⟩ => ?_
  subst ex
  obtain rfl : u = Value.ref d := rx
  obtain ⟨hs, es, ep, xs, D⟩ := frzP I1 hd
  refine iter_keys hs D.1 D.2.1 D.2.2.1 (pi_one (tk := s1.toks) I1 _ (turnP _ D.2.2.1) ⟨_, Heap.get?_push_size _ rfl, rfl, ?_⟩ q)
  rw [D.size] <;> rfl
end Fx
/-! HxE: the least common form (no program in sight). -/
namespace Fx
open PySem L2 PySem.Spec PyProof.Rows
abbrev FQ := List (Fm × Fm)
def posQ : FQ → Fm × Fm → Option Nat
  | [], _ => none
  | x :: L, p => if x = p then some 0 else (posQ L p).map (· + 1)
theorem posP_eq : ∀ (L : PL) (f g : Fm), posP L f g = posQ (prs L) (f, g)
  | [], _, _ => rfl
  | x :: L, f, g => by
    have ih := posP_eq L f g
    simp only [posP, prs, List.map_cons, posQ] at ih ⊢
    rw [ih]
    by_cases e : x.1 = f ∧ x.2.1 = g
    · rw [if_pos e, if_pos (Prod.ext e.1 e.2)]
    · rw [if_neg e, if_neg fun z => e ⟨congrArg Prod.fst z, congrArg Prod.snd z⟩]
theorem posQ_some : ∀ {L : FQ} {p : Fm × Fm} {j : Nat}, posQ L p = some j → L[j]? = some p
  | x :: L, p, j, h => by
    simp only [posQ] at h
    split at h
    · rename_i e; cases h; simp [e]
    · cases q : posQ L p with
      | none => rw [q] at h; cases h
      | some k => rw [q] at h; cases h; simpa using posQ_some q
theorem posQ_none : ∀ {L : FQ} {p : Fm × Fm}, posQ L p = none → ¬ p ∈ L
  | [], p, _, h => by cases h
  | x :: L, p, h, hm => by
    simp only [posQ] at h
    split at h
    · cases h
    · rename_i e
      cases q : posQ L p with
      | some k => rw [q] at h; cases h
      | none =>
        rcases List.mem_cons.mp hm with rfl | hm
        · exact e rfl
        · exact posQ_none q hm
theorem posQ_ext : ∀ {L : FQ} {p : Fm × Fm} {j : Nat} (e : FQ), posQ L p = some j → posQ (L ++ e) p = some j
  | x :: L, p, j, e, h => by
    simp only [posQ, List.cons_append] at h ⊢
    split at h
    · rename_i c; rw [if_pos c]; exact h
    · rename_i c
      rw [if_neg c]
      cases q : posQ L p with
      | none => rw [q] at h; cases h
      | some k => rw [q] at h; rw [posQ_ext e q]; exact h
theorem posQ_new : ∀ {L : FQ} {p : Fm × Fm} (e : FQ), posQ L p = none → posQ (L ++ p :: e) p = some L.length
  | [], p, e, _ => by simp [posQ]
  | x :: L, p, e, h => by
    simp only [posQ, List.cons_append] at h ⊢
    split at h
    · cases h
    · rename_i c
      rw [if_neg c]
      cases q : posQ L p with
      | some k => rw [q] at h; cases h
      | none => rw [posQ_new e q]; rfl
/-- a gap for the pair, the one it has or a new one -/
def leaf (p : Fm × Fm) (L : FQ) : Fm × FQ := match posQ L p with
  | some j => (.gap (j : Int), L)
  | none => (.gap (L.length : Int), L ++ [p])
mutual
def sh : Fm → Fm → FQ → Fm × FQ
  | .gap i, g, L => leaf (.gap i, g) L
  | .tie w ps, .gap j, L => leaf (.tie w ps, .gap j) L
  | .tie w ps, .tie v qs, L => if w = v ∧ ps.length = qs.length then (.tie w (shL ps qs L).1, (shL ps qs L).2) else leaf (.tie w ps, .tie v qs) L
def shL : List Fm → List Fm → FQ → List Fm × FQ
  | [], _, L => ([], L)
  | _ :: _, [], L => ([], L)
  | f :: fs, g :: gs, L => ((sh f g L).1 :: (shL fs gs (sh f g L).2).1, (shL fs gs (sh f g L).2).2)
end
/-! the pairs at which the two part, in order -/
mutual
def lvs : Fm → Fm → FQ
  | .gap i, g => [(.gap i, g)]
  | .tie w ps, .gap j => [(.tie w ps, .gap j)]
  | .tie w ps, .tie v qs => if w = v ∧ ps.length = qs.length then lvsL ps qs else [(.tie w ps, .tie v qs)]
def lvsL : List Fm → List Fm → FQ
  | [], _ => []
  | _ :: _, [] => []
  | f :: fs, g :: gs => lvs f g ++ lvsL fs gs
end
theorem sh_diff {f g : Fm} {L : FQ} (h : sk f g = false) : sh f g L = leaf (f, g) L := by
  cases f with
  | gap i => simp only [sh]
  | tie w ps =>
    cases g with
    | gap j => simp only [sh]
    | tie v qs =>
      simp only [sh]
      rw [if_neg]
      rintro ⟨h1, h2⟩
      simp [sk, h1, h2] at h
theorem lvs_diff {f g : Fm} (h : sk f g = false) : lvs f g = [(f, g)] := by
  cases f with
  | gap i => simp only [lvs]
  | tie w ps =>
    cases g with
    | gap j => simp only [lvs]
    | tie v qs =>
      simp only [lvs]
      rw [if_neg]
      rintro ⟨h1, h2⟩
      simp [sk, h1, h2] at h
theorem shL_snoc {p q : Fm} : ∀ {A B : List Fm} {L : FQ}, A.length = B.length → shL (A ++ [p]) (B ++ [q]) L = ((shL A B L).1 ++ [(sh p q (shL A B L).2).1], (sh p q (shL A B L).2).2)
  | [], [], L, _ => by simp [shL]
  | a :: A, b :: B, L, h => by
    have := shL_snoc (p := p) (q := q) (A := A) (B := B) (L := (sh a b L).2) (by simpa using h)
    simp only [List.cons_append, shL, this]
/-- no pair twice; what was there stays -/
theorem leaf_ext (p : Fm × Fm) (L : FQ) : ∃ e, (leaf p L).2 = L ++ e := by
  unfold leaf
  cases posQ L p with
  | some j => exact ⟨[], by simp⟩
  | none => exact ⟨[p], rfl⟩
mutual
theorem sh_ext : ∀ (f g : Fm) (L : FQ), ∃ e, (sh f g L).2 = L ++ e
  | .gap i, g, L => by simp only [sh]; exact leaf_ext _ _
  | .tie w ps, .gap j, L => by simp only [sh]; exact leaf_ext _ _
  | .tie w ps, .tie v qs, L => by
    simp only [sh]
    split
    · exact shL_ext ps qs L
    · exact leaf_ext _ _
theorem shL_ext : ∀ (fs gs : List Fm) (L : FQ), ∃ e, (shL fs gs L).2 = L ++ e
  | [], _, L => ⟨[], by simp [shL]⟩
  | _ :: _, [], L => ⟨[], by simp [shL]⟩
  | f :: fs, g :: gs, L => by
    obtain ⟨e1, h1⟩ := sh_ext f g L
    obtain ⟨e2, h2⟩ := shL_ext fs gs (sh f g L).2
    exact ⟨e1 ++ e2, by simp only [shL]; rw [h2, h1]; simp⟩
end
theorem leaf_len (p : Fm × Fm) (L : FQ) : (leaf p L).2.length ≤ L.length + 1 := by
  unfold leaf
  cases posQ L p <;> simp
mutual
theorem sh_len : ∀ (f g : Fm) (L : FQ), (sh f g L).2.length ≤ L.length + f.sg
  | .gap i, g, L => by simp only [sh, Fm.sg]; exact leaf_len _ _
  | .tie w ps, .gap j, L => by have := leaf_len (.tie w ps, .gap j) L; simp only [sh, Fm.sg]; omega
  | .tie w ps, .tie v qs, L => by
    simp only [sh, Fm.sg]
    split
    · have := shL_len ps qs L; simp only; omega
    · have := leaf_len (.tie w ps, .tie v qs) L; omega
theorem shL_len : ∀ (fs gs : List Fm) (L : FQ), (shL fs gs L).2.length ≤ L.length + Fm.sgL fs
  | [], _, L => by simp [shL]
  | _ :: _, [], L => by simp [shL]
  | f :: fs, g :: gs, L => by
    have h1 := sh_len f g L
    have h2 := shL_len fs gs (sh f g L).2
    simp only [shL, Fm.sgL]; omega
end
/-- by the whole table of pairs -/
def gapOf (T : FQ) (p : Fm × Fm) : Fm := .gap (((posQ T p).getD 0 : Nat) : Int)
mutual
def com (T : FQ) : Fm → Fm → Fm
  | .gap i, g => gapOf T (.gap i, g)
  | .tie w ps, .gap j => gapOf T (.tie w ps, .gap j)
  | .tie w ps, .tie v qs => if w = v ∧ ps.length = qs.length then .tie w (comL T ps qs) else gapOf T (.tie w ps, .tie v qs)
def comL (T : FQ) : List Fm → List Fm → List Fm
  | [], _ => []
  | _ :: _, [] => []
  | f :: fs, g :: gs => com T f g :: comL T fs gs
end
theorem leaf_com {p : Fm × Fm} {L T : FQ} (h : ∃ e, T = (leaf p L).2 ++ e) : (leaf p L).1 = gapOf T p := by
  obtain ⟨e, rfl⟩ := h
  unfold leaf gapOf
  cases q : posQ L p with
  | some j => simp only; rw [posQ_ext e q]; rfl
  | none =>
    simp only
    rw [List.append_assoc, List.singleton_append, posQ_new e q]; rfl
mutual
theorem sh_com {T : FQ} : ∀ (f g : Fm) (L : FQ), (∃ e, T = (sh f g L).2 ++ e) → (sh f g L).1 = com T f g
  | .gap i, g, L, h => by simp only [sh, com] at h ⊢; exact leaf_com h
  | .tie w ps, .gap j, L, h => by simp only [sh, com] at h ⊢; exact leaf_com h
  | .tie w ps, .tie v qs, L, h => by
    simp only [sh, com] at h ⊢
    by_cases c : w = v ∧ ps.length = qs.length
    · rw [if_pos c] at h ⊢
      rw [if_pos c]
      simp only at h ⊢
      rw [shL_com ps qs L h]
    · rw [if_neg c] at h ⊢
      rw [if_neg c]
      exact leaf_com h
theorem shL_com {T : FQ} : ∀ (fs gs : List Fm) (L : FQ), (∃ e, T = (shL fs gs L).2 ++ e) → (shL fs gs L).1 = comL T fs gs
  | [], _, L, _ => by simp [shL, comL]
  | _ :: _, [], L, _ => by simp [shL, comL]
  | f :: fs, g :: gs, L, h => by
    simp only [shL, comL] at h ⊢
    obtain ⟨e, h⟩ := h
    obtain ⟨e2, h2⟩ := shL_ext fs gs (sh f g L).2
    rw [shL_com fs gs (sh f g L).2 ⟨e, h⟩, sh_com (T := T) f g L ⟨e2 ++ e, by rw [h, h2]; simp⟩]
end
/-! it covers both -/
def fstS (T : FQ) : Int → Fm := fun k => (T.getD k.toNat (.gap 0, .gap 0)).1
def sndS (T : FQ) : Int → Fm := fun k => (T.getD k.toNat (.gap 0, .gap 0)).2
theorem getD_of {T : FQ} {j : Nat} {p : Fm × Fm} (h : T[j]? = some p) : T.getD j (.gap 0, .gap 0) = p := by rw [List.getD_eq_getElem?_getD, h]; rfl
theorem leaf_both {p : Fm × Fm} {L T : FQ} (h : ∃ e, T = (leaf p L).2 ++ e) : sub (fstS T) (leaf p L).1 = p.1 ∧ sub (sndS T) (leaf p L).1 = p.2 := by
  obtain ⟨e, rfl⟩ := h
  unfold leaf
  cases q : posQ L p with
  | some j =>
    have h1 := posQ_some q
    have hlt := (List.getElem?_eq_some_iff.mp h1).1
    have h2 : (L ++ e)[j]? = some p := by rw [List.getElem?_append_left hlt, h1]
    simp only [sub, fstS, sndS, Int.toNat_natCast, getD_of h2, and_self]
  | none =>
    have h2 : (L ++ [p] ++ e)[L.length]? = some p := by simp
    simp only [sub, fstS, sndS, Int.toNat_natCast, getD_of h2, and_self]
mutual
theorem sh_both {T : FQ} : ∀ (f g : Fm) (L : FQ), (∃ e, T = (sh f g L).2 ++ e) → sub (fstS T) (sh f g L).1 = f ∧ sub (sndS T) (sh f g L).1 = g
  | .gap i, g, L, h => by simp only [sh] at h ⊢; exact leaf_both h
  | .tie w ps, .gap j, L, h => by simp only [sh] at h ⊢; exact leaf_both h
  | .tie w ps, .tie v qs, L, h => by
    simp only [sh] at h ⊢
    by_cases c : w = v ∧ ps.length = qs.length
    · rw [if_pos c] at h ⊢
      obtain ⟨h1, h2⟩ := shL_both ps qs L c.2 h
      simp only [sub, h1, h2, c.1, and_self]
    · rw [if_neg c] at h ⊢
      exact leaf_both h
theorem shL_both {T : FQ} : ∀ (fs gs : List Fm) (L : FQ), fs.length = gs.length → (∃ e, T = (shL fs gs L).2 ++ e) → subL (fstS T) (shL fs gs L).1 = fs ∧ subL (sndS T) (shL fs gs L).1 = gs
  | [], [], L, _, _ => by simp [shL, subL]
  | f :: fs, g :: gs, L, hl, h => by
    simp only [shL] at h ⊢
    obtain ⟨e, h⟩ := h
    obtain ⟨e2, h2⟩ := shL_ext fs gs (sh f g L).2
    obtain ⟨a1, a2⟩ := sh_both (T := T) f g L ⟨e2 ++ e, by rw [h, h2]; simp⟩
    obtain ⟨b1, b2⟩ := shL_both fs gs (sh f g L).2 (by simpa using hl) ⟨e, h⟩
    simp only [subL, a1, a2, b1, b2, and_self]
end
/-! whoever covers both covers it -/
mutual
theorem com_sub {T : FQ} {s t : Int → Fm} : ∀ h : Fm, com T (sub s h) (sub t h) = sub (fun k => com T (s k) (t k)) h
  | .gap k => rfl
  | .tie w ps => by
    simp only [sub, com]
    rw [if_pos ⟨trivial, by rw [subL_len, subL_len]⟩, comL_sub ps]
theorem comL_sub {T : FQ} {s t : Int → Fm} : ∀ hs : List Fm, comL T (subL s hs) (subL t hs) = subL (fun k => com T (s k) (t k)) hs
  | [] => rfl
  | h :: hs => by simp only [subL, comL]; rw [com_sub h, comL_sub hs]
end
/-- the least common form -/
def lgg (f g : Fm) : Fm := (sh f g []).1
def lgT (f g : Fm) : FQ := (sh f g []).2
theorem lgg_left (f g : Fm) : sub (fstS (lgT f g)) (lgg f g) = f := (sh_both f g [] ⟨[], by simp [lgT]⟩).1
theorem lgg_right (f g : Fm) : sub (sndS (lgT f g)) (lgg f g) = g := (sh_both f g [] ⟨[], by simp [lgT]⟩).2
theorem lgg_least {f g h : Fm} {s t : Int → Fm} (h1 : sub s h = f) (h2 : sub t h = g) : ∃ r, sub r h = lgg f g := by
  refine ⟨fun k => com (lgT f g) (s k) (t k), ?_⟩
  rw [← com_sub, h1, h2]
  exact (sh_com f g [] ⟨[], by simp [lgT]⟩).symm
/-! its gaps are numbered as they stand -/
def iotaI (n : Nat) : List Int := (List.range n).map fun (i : Nat) => (i : Int)
theorem mem_iotaI {n : Nat} {k : Int} : k ∈ iotaI n ↔ 0 ≤ k ∧ k < n := by
  unfold iotaI
  constructor
  · intro h
    obtain ⟨i, hi, rfl⟩ := List.mem_map.mp h
    have := List.mem_range.mp hi
    omega
  · rintro ⟨h1, h2⟩
    exact List.mem_map.mpr ⟨k.toNat, List.mem_range.mpr (by omega), by omega⟩
theorem iotaI_succ (n : Nat) : iotaI (n + 1) = iotaI n ++ [(n : Int)] := by unfold iotaI; rw [List.range_succ, List.map_append]; rfl
theorem leaf_gaps (p : Fm × Fm) (L : FQ) : insL (iotaI L.length) (ag (leaf p L).1) = iotaI (leaf p L).2.length := by
  unfold leaf
  cases q : posQ L p with
  | some j =>
    have := (List.getElem?_eq_some_iff.mp (posQ_some q)).1
    simp only [ag]
    rw [insL_cons, insL_nil, ins_in (mem_iotaI.mpr (by omega))]
  | none =>
    simp only [ag, List.length_append, List.length_singleton]
    rw [insL_cons, insL_nil, ins_out (by rw [mem_iotaI]; omega), iotaI_succ]
mutual
theorem sh_gaps : ∀ (f g : Fm) (L : FQ), insL (iotaI L.length) (ag (sh f g L).1) = iotaI (sh f g L).2.length
  | .gap i, g, L => by simp only [sh]; exact leaf_gaps _ _
  | .tie w ps, .gap j, L => by simp only [sh]; exact leaf_gaps _ _
  | .tie w ps, .tie v qs, L => by
    simp only [sh]
    split
    · simp only [ag]; exact shL_gaps ps qs L
    · exact leaf_gaps _ _
theorem shL_gaps : ∀ (fs gs : List Fm) (L : FQ), insL (iotaI L.length) (agL (shL fs gs L).1) = iotaI (shL fs gs L).2.length
  | [], _, L => by simp [shL, agL, insL_nil]
  | _ :: _, [], L => by simp [shL, agL, insL_nil]
  | f :: fs, g :: gs, L => by
    simp only [shL, agL]
    rw [insL_append, sh_gaps f g L, shL_gaps fs gs (sh f g L).2]
end
theorem gp_lgg (f g : Fm) : gp (lgg f g) = iotaI (lgT f g).length := by
  have := sh_gaps f g []
  rw [show iotaI ([] : FQ).length = [] from rfl] at this
  exact this
theorem ix_iota {n : Nat} {k : Int} (h : k ∈ iotaI n) : ix (iotaI n) k = k := by
  obtain ⟨h0, h1⟩ := mem_iotaI.mp h
  unfold ix
  have nd : (iotaI n).Nodup := by
    unfold iotaI
    exact List.nodup_iff_pairwise_ne.mpr (List.pairwise_map.mpr ((List.nodup_iff_pairwise_ne.mp (List.nodup_range (n := n))).imp fun hne e => hne (by omega)))
  have hk : (iotaI n)[k.toNat]? = some k := by
    unfold iotaI
    rw [List.getElem?_map, List.getElem?_range (by omega)]
    simp; omega
  have hlt := (List.getElem?_eq_some_iff.mp hk).1
  have hi := List.idxOf_lt_length_of_mem h
  have e2 : (iotaI n)[(iotaI n).idxOf k]? = some k := by rw [List.getElem?_eq_getElem hi]; simp
  have := (List.getElem?_inj hi nd).mp (e2.trans hk.symm)
  rw [this]; omega
theorem pl_of_iota {f : Fm} {n : Nat} (h : gp f = iotaI n) : pl f = f := by
  unfold pl
  rw [h]
  have : rn (ix (iotaI n)) f = rn (fun k => k) f := rn_congr fun k hk => ix_iota (by rw [← h]; exact mem_gp.mpr hk)
  rw [this, rn_sub]
  exact sub_gap f
theorem pl_lgg (f g : Fm) : pl (lgg f g) = lgg f g := pl_of_iota (gp_lgg f g)
/-! the other way about -/
def swp (L : FQ) : FQ := L.map fun p => (p.2, p.1)
theorem posQ_swp : ∀ (L : FQ) (a b : Fm), posQ (swp L) (b, a) = posQ L (a, b)
  | [], _, _ => rfl
  | x :: L, a, b => by
    have ih := posQ_swp L a b
    obtain ⟨x1, x2⟩ := x
    simp only [swp, List.map_cons, posQ] at ih ⊢
    rw [ih]
    by_cases e : x1 = a ∧ x2 = b
    · rw [if_pos (Prod.ext e.2 e.1), if_pos (Prod.ext e.1 e.2)]
    · rw [if_neg fun z => e ⟨congrArg Prod.snd z, congrArg Prod.fst z⟩, if_neg fun z => e ⟨congrArg Prod.fst z, congrArg Prod.snd z⟩]
theorem leaf_swp (a b : Fm) (L : FQ) : leaf (b, a) (swp L) = ((leaf (a, b) L).1, swp (leaf (a, b) L).2) := by
  unfold leaf
  rw [posQ_swp]
  cases posQ L (a, b) with
  | some j => rfl
  | none => simp [swp]
mutual
theorem sh_swp : ∀ (f g : Fm) (L : FQ), sh g f (swp L) = ((sh f g L).1, swp (sh f g L).2)
  | .gap i, .gap j, L => by simp only [sh]; exact leaf_swp _ _ _
  | .gap i, .tie v qs, L => by simp only [sh]; exact leaf_swp _ _ _
  | .tie w ps, .gap j, L => by simp only [sh]; exact leaf_swp _ _ _
  | .tie w ps, .tie v qs, L => by
    simp only [sh]
    by_cases c : w = v ∧ ps.length = qs.length
    · rw [if_pos ⟨c.1.symm, c.2.symm⟩, if_pos c, shL_swp ps qs L, c.1]
    · rw [if_neg fun z => c ⟨z.1.symm, z.2.symm⟩, if_neg c]
      exact leaf_swp _ _ _
theorem shL_swp : ∀ (fs gs : List Fm) (L : FQ), shL gs fs (swp L) = ((shL fs gs L).1, swp (shL fs gs L).2)
  | [], [], L => by simp [shL]
  | [], _ :: _, L => by simp [shL]
  | _ :: _, [], L => by simp [shL]
  | f :: fs, g :: gs, L => by
    simp only [shL]
    rw [sh_swp f g L]
    simp only
    rw [shL_swp fs gs (sh f g L).2]
end
theorem lgg_swp (f g : Fm) : lgg g f = lgg f g := by have := sh_swp f g []; unfold lgg; rw [show (swp [] : FQ) = [] from rfl] at this; rw [this]
theorem lgT_swp (f g : Fm) : lgT g f = swp (lgT f g) := by have := sh_swp f g []; unfold lgT; rw [show (swp [] : FQ) = [] from rfl] at this; rw [this]
/-! where the two part -/
mutual
theorem lvs_dep : ∀ (f g : Fm) (p : Fm × Fm), p ∈ lvs f g → p.1.dep ≤ f.dep ∧ p.2.dep ≤ g.dep
  | .gap i, g, p, h => by simp only [lvs, List.mem_singleton] at h; subst h; exact ⟨Nat.le_refl _, Nat.le_refl _⟩
  | .tie w ps, .gap j, p, h => by simp only [lvs, List.mem_singleton] at h; subst h; exact ⟨Nat.le_refl _, Nat.le_refl _⟩
  | .tie w ps, .tie v qs, p, h => by
    simp only [lvs] at h
    split at h
    · have := lvsL_dep ps qs p h
      simp only [Fm.dep]; omega
    · simp only [List.mem_singleton] at h; subst h; exact ⟨Nat.le_refl _, Nat.le_refl _⟩
theorem lvsL_dep : ∀ (fs gs : List Fm) (p : Fm × Fm), p ∈ lvsL fs gs → p.1.dep ≤ Fm.depL fs ∧ p.2.dep ≤ Fm.depL gs
  | [], _, p, h => by simp [lvsL] at h
  | _ :: _, [], p, h => by simp [lvsL] at h
  | f :: fs, g :: gs, p, h => by
    simp only [lvsL, List.mem_append] at h
    simp only [Fm.depL]
    rcases h with h | h
    · have := lvs_dep f g p h; omega
    · have := lvsL_dep fs gs p h; omega
end
mutual
theorem lvs_sub {s t : Int → Fm} : ∀ (h : Fm) (p : Fm × Fm), p ∈ lvs (sub s h) (sub t h) → ∃ k, k ∈ ag h ∧ p ∈ lvs (s k) (t k)
  | .gap k, p, hp => ⟨k, by simp [ag], hp⟩
  | .tie w ps, p, hp => by
    simp only [sub, lvs] at hp
    rw [if_pos ⟨trivial, by rw [subL_len, subL_len]⟩] at hp
    exact lvsL_sub ps p hp
theorem lvsL_sub {s t : Int → Fm} : ∀ (hs : List Fm) (p : Fm × Fm), p ∈ lvsL (subL s hs) (subL t hs) → ∃ k, k ∈ agL hs ∧ p ∈ lvs (s k) (t k)
  | [], p, hp => by simp [subL, lvsL] at hp
  | h :: hs, p, hp => by
    simp only [subL, lvsL, List.mem_append] at hp
    simp only [agL, List.mem_append]
    rcases hp with hp | hp
    · obtain ⟨k, h1, h2⟩ := lvs_sub h p hp; exact ⟨k, .inl h1, h2⟩
    · obtain ⟨k, h1, h2⟩ := lvsL_sub hs p hp; exact ⟨k, .inr h1, h2⟩
end
end Fx
/-! HxF: readings of the rules; the promises of common.py. -/
namespace Fx
open PySem L2 PySem.Spec PyProof.Rows
theorem pg_tupK {X : Cx} {K : PySem.W.Frag} {es : List Expr} {k : Nat} {t : TGs} {n : Nat} {pos : Pos} (hK : X.K = K) (hc : X.calm = true) (h : PGs X es t)
    (hn : (assignEach es X.env).length = n := by rfl) (hst : (assignEach es X.env).findIdx? (·.1) = none := by rfl) : PG X (.Tuple es k pos) (gTup K n t) := hK ▸ pg_tup hc h hn hst
section
variable {w : World} {K : PySem.W.Frag} {σ : L2.St} {H : Hp} {i : Nat} {d : Addr} {L : PL} {f g : Fm} {ty tv : TE}
theorem et_pnotin (hv : σ[i]? = some (some (.ref d))) (hd : Rd H d (PD w d L)) (k : KeysOk H L) (hy : EvD ty σ H (.tuple [f.d, g.d])) (lk : Look L f g) : EvB (tB (tPNotIn w ty (tVar i))) σ H (!(posP L f g).isSome) := fun H1 s Q q =>
  hy H1 s _ fun y H2 s2 r2 => ⟨.ref d, hv, d, L, f, g, rfl, rd_same (s.trans s2) hd, k.mono (s.trans s2), r2, lk, _, rfl, q H2 s2⟩
theorem ev_pget {j : Nat} (hv : σ[i]? = some (some (.ref d))) (hd : Rd H d (PD w d L)) (k : KeysOk H L) (hy : EvD ty σ H (.tuple [f.d, g.d])) (lk : Look L f g) (hj : posP L f g = some j) : EvD (tPGet w (tVar i) ty) σ H (.int (j : Int)) := fun H1 s Q q =>
  ⟨.ref d, hv, hy H1 s _ fun y H2 s2 r2 => ⟨d, L, f, g, j, rfl, rd_same (s.trans s2) hd, k.mono (s.trans s2), r2, lk, hj, q _ H2 s2 rfl⟩⟩
theorem ev_lenP (hv : σ[i]? = some (some (.ref d))) (hd : Rd H d (PD w d L)) (hl : L.length ≤ 10000) : EvD (tCB (rLenP w) (tCons (tVar i) tNil)) σ H (.int (L.length : Int)) := fun H1 s Q q =>
  ⟨.ref d, hv, d, L, rfl, rd_same s hd, hl, q _ H1 (Same.refl _) rfl⟩
theorem w_pput {D : Ends} (hv : σ[i]? = some (some (.ref d))) (hd : H d = some (PD w d L)) (k : KeysOk H L) (ht : EvD tv σ H (.int (L.length : Int))) (hy : EvD ty σ H (.tuple [f.d, g.d])) (lk : Look L f g) (hn : posP L f g = none) (hl : L.length ≤ 10000)
    (q : ∀ a H1, KB d H H1 → KT H H1 → H1 d = some (PD w d (L ++ [(f, g, a)])) → KeysOk H1 (L ++ [(f, g, a)]) → D.nx σ H1) : sPPut w (tVar i) ty tv D σ H := by
  refine ht H (Same.refl _) _ fun v H1 s r => ?_
  cases (show v = V.int (L.length : Int) from r)
  refine ⟨.ref d, hv, hy H1 s _ fun y H2 s2 r2 => ?_⟩
  have hd2 := (s.trans s2) _ _ hd
  refine ⟨d, L, f, g, rfl, rfl, hd2, k.mono (s.trans s2), r2, lk, hn, hl, fun a e => ?_⟩
  subst e
  have kt : KT H2 (upd H2 d (PD w d (L ++ [(f, g, a)]))) := KT.upd fun ts => by rw [hd2]; intro z; cases z
  exact q a _ ((KB.of (s.trans s2)).trans KB.upd) ((KT.of (s.trans s2)).trans kt) upd_same (((k.mono (s.trans s2)).snoc r2 hn).kt kt)
end
/-- over the keys, the dict locked -/
theorem w_sfor_keysP {w : World} {σ : L2.St} {H : Hp} {i0 : Nat} {d : Addr} {L : PL} {gg : TG} {tb u : TS} {D : Ends} (hv : σ[i0]? = some (some (.ref d))) (hd : H d = some (PD w d L))
    (body : ∀ od, ∃ Pv : Nat → L2.St → Hp → Prop, Pv 0 σ (upd H d (.frz od (PD w d L))) ∧ (∀ i σ' H', Pv i σ' H' → H' d = some (.frz od (PD w d L))) ∧
      (∀ i f g a σ' H', L[i]? = some (f, g, a) → Pv i σ' H' → gg (.ref a) σ' H' fun σ2 H3 => tb ⟨Pv (i + 1), fun v H' => H' d = some (.frz od (PD w d L)) ∧ D.rt v (upd H' d (PD w d L)), fun σ' H' => H' d = some (.frz od (PD w d L)) ∧ u D σ' (upd H' d (PD w d L)), Pv (i + 1)⟩ σ2 H3) ∧
      (∀ σ' H', H' d = some (.frz od (PD w d L)) → Pv L.length σ' H' → u D σ' (upd H' d (PD w d L)))) : tSeq (tLock (tFor (iKeysP w (tVar i0)) gg tb)) u D σ H := by
  refine ⟨d, PD w d L, hd, trivial, fun od => ?_⟩
  obtain ⟨Pv, p0, pl, ps, pd⟩ := body od
  refine ⟨.ref d, hv, d, od, L, rfl, upd_same, fun i n σ' H' => n = L.length - i ∧ i ≤ L.length ∧ Pv i σ' H', ⟨_, rfl, Nat.zero_le _, p0⟩, ?_⟩
  rintro i n σ' H' ⟨rfl, hle, p⟩
  have fz := pl i σ' H' p
  by_cases hlt : i < L.length
  · refine .inr ⟨⟨fz, hlt⟩, Pv (i + 1), fun σ4 H4 h => ⟨_, by omega, rfl, hlt, h⟩, fun x H4 y => ?_⟩
    obtain ⟨rfl, f, g, a, ek, rfl⟩ := y
    exact ps i f g a σ' _ ek p
  · have e : i = L.length := by omega
    subst e
    exact .inl ⟨⟨fz, Nat.le_refl _⟩, fz, pd σ' H' fz p⟩
/-- a comprehension whose block changes things, whatever its targets -/
theorem w_lcG {σ : L2.St} {H : Hp} {wi : TI} {gg : TG} {tt : TT} {te : TE} {js : List Nat} {ds : List PyData} {Q : VK} (hi : EvI wi σ H ds) (body : ∀ H1 D, Same H H1 → H1 D = none → ∃ Pv : Nat → List V → Hp → Prop, Pv 0 [] (upd H1 D (.lst [])) ∧ (∀ i acc H', Pv i acc H' → KT H1 H') ∧
      (∀ i d x acc H' H2 (Nx : Hp → Prop), ds[i]? = some d → Pv i acc H' → Same H' H2 → Rp H2 d x → (∀ acc' H3, Pv (i + 1) acc' H3 → Nx H3) → gg x (wipe σ js) H2 fun σ2 H3 => wipe σ2 js = wipe σ js ∧ tt σ2 H3 fun b H4 => if b = true then te σ2 H4 fun y H5 => ∃ acc, H5 D = some (.lst acc) ∧ acc.length < sizeLine ∧ Nx (upd H5 D (.lst (acc ++ [y]))) else Nx H4) ∧
      (∀ acc H', Pv ds.length acc H' → Q (.ref D) H')) : tLc wi gg tt te js σ H Q := by
  refine hi H (Same.refl _) _ fun J H2 Ok s2 ok cl Y => fun D hD => ?_
  obtain ⟨Pv, p0, pk, ps, pd⟩ := body H2 D s2 hD
  refine ⟨fun i m H' => m = ds.length - i ∧ i ≤ ds.length ∧ ∃ acc, Pv i acc H', ⟨_, rfl, Nat.zero_le _, [], p0⟩, ?_⟩
  rintro i m H' ⟨rfl, hle, acc, p⟩
  have ok' : Ok H' := cl _ _ ok (pk _ _ _ p)
  by_cases hlt : i < ds.length
  · refine .inr ⟨Y.go i H' ok' hlt, fun H' => i + 1 ≤ ds.length ∧ ∃ acc, Pv (i + 1) acc H', fun H'' h => ⟨_, by omega, rfl, h⟩, fun v H4 y => ?_⟩
    obtain ⟨s4, d, ed, rd⟩ := Y.yld i H' v H4 ok' hlt y
    exact ps i d v acc H' H4 _ ed p s4 rd fun acc' H3 p3 => ⟨hlt, acc', p3⟩
  · have e : i = ds.length := by omega
    subst e
    exact .inl ⟨Y.stop _ H' ok' (Nat.le_refl _), pd acc H' p⟩
/-! ### promises -/
def Small (p : Fm × Fm) : Prop := p.1.dep ≤ 3 ∧ p.2.dep ≤ 3
/-- what is looked up is not deep, or stands alone -/
def ShOk (L : PL) (f g : Fm) : Prop := ((∀ p, p ∈ lvs f g → Small p) ∧ ∀ p, p ∈ prs L → Small p) ∨ (L = [] ∧ sk f g = false ∧ f.dep ≤ 19 ∧ g.dep ≤ 19)
theorem Small.nk {f g : Fm} (h : Small (f, g)) : (nkP f g).depth ≤ 8 := by
  have h1 : f.dep ≤ 3 := h.1
  have h2 : g.dep ≤ 3 := h.2
  have := nkP_dep h1 h2
  omega
theorem look_small {L : PL} {f g : Fm} (h : Small (f, g)) (hl : ∀ p, p ∈ prs L → Small p) : Look L f g := .inl ⟨h.nk, fun x hx => (hl (x.1, x.2.1) (List.mem_map.mpr ⟨x, hx, rfl⟩)).nk⟩
theorem ShOk.look {L : PL} {f g : Fm} (h : ShOk L f g) (hs : sk f g = false) : Look L f g := by
  rcases h with ⟨h1, h2⟩ | ⟨rfl, _, h3, h4⟩
  · exact look_small (h1 (f, g) (by rw [lvs_diff hs]; simp)) h2
  · exact .inr ⟨by have := nkP_dep h3 h4; omega, .inl rfl⟩
/-- .. and once more, behind the store -/
theorem ShOk.again {L : PL} {f g : Fm} {a : Addr} (h : ShOk L f g) (hs : sk f g = false) : Look (L ++ [(f, g, a)]) f g := by
  rcases h with ⟨h1, h2⟩ | ⟨rfl, _, h3, h4⟩
  · have hf := h1 (f, g) (by rw [lvs_diff hs]; simp)
    refine look_small hf fun p hp => ?_
    unfold prs at hp
    rw [List.map_append] at hp
    rcases List.mem_append.mp hp with hp | hp
    · exact h2 p hp
    · have : p = (f, g) := List.mem_singleton.mp hp
      rw [this]; exact hf
  · exact .inr ⟨by have := nkP_dep h3 h4; omega, .inr ⟨a, rfl⟩⟩
theorem sh_mem_leaf {p q : Fm × Fm} {L : FQ} (h : p ∈ (leaf q L).2) : p ∈ L ∨ p = q := by
  unfold leaf at h
  cases e : posQ L q with
  | some j => rw [e] at h; exact .inl h
  | none =>
    rw [e] at h
    rcases List.mem_append.mp h with h | h
    · exact .inl h
    · exact .inr (List.mem_singleton.mp h)
mutual
theorem sh_mem : ∀ (f g : Fm) (L : FQ) (p : Fm × Fm), p ∈ (sh f g L).2 → p ∈ L ∨ p ∈ lvs f g
  | .gap i, g, L, p, h => by simp only [sh, lvs, List.mem_singleton] at h ⊢; exact sh_mem_leaf h
  | .tie w ps, .gap j, L, p, h => by simp only [sh, lvs, List.mem_singleton] at h ⊢; exact sh_mem_leaf h
  | .tie w ps, .tie v qs, L, p, h => by
    simp only [sh, lvs] at h ⊢
    by_cases c : w = v ∧ ps.length = qs.length
    · rw [if_pos c] at h ⊢; exact shL_mem ps qs L p h
    · rw [if_neg c] at h ⊢; rw [List.mem_singleton]; exact sh_mem_leaf h
theorem shL_mem : ∀ (fs gs : List Fm) (L : FQ) (p : Fm × Fm), p ∈ (shL fs gs L).2 → p ∈ L ∨ p ∈ lvsL fs gs
  | [], _, L, p, h => by simp only [shL] at h; exact .inl h
  | _ :: _, [], L, p, h => by simp only [shL] at h; exact .inl h
  | f :: fs, g :: gs, L, p, h => by
    simp only [shL] at h
    simp only [lvsL, List.mem_append]
    rcases shL_mem fs gs _ p h with h | h
    · rcases sh_mem f g L p h with h | h
      · exact .inl h
      · exact .inr (.inl h)
    · exact .inr (.inr h)
end
theorem lvsL_mem : ∀ {fs gs : List Fm} {i : Nat} {f g : Fm}, fs[i]? = some f → gs[i]? = some g → ∀ p, p ∈ lvs f g → p ∈ lvsL fs gs
  | a :: fs, b :: gs, 0, f, g, h1, h2, p, hp => by
    simp only [List.getElem?_cons_zero, Option.some.injEq] at h1 h2
    subst h1 h2
    simp only [lvsL, List.mem_append]; exact .inl hp
  | a :: fs, b :: gs, i + 1, f, g, h1, h2, p, hp => by
    simp only [lvsL, List.mem_append]
    exact .inr (lvsL_mem (by simpa using h1) (by simpa using h2) p hp)
  | [], _, i, f, g, h1, _, p, hp => by simp at h1
  | _ :: _, [], i, f, g, _, h2, p, hp => by simp at h2
/-- shared(one, other, pairs) -/
def spSh (w : World) (n : Nat) : Sp := fun vs H Q _ => ∃ (v1 v2 : V) (d : Addr) (f g : Fm) (L : PL), vs = [v1, v2, .ref d] ∧ Rp H f.d v1 ∧ Rp H g.d v2 ∧ H d = some (PD w d L) ∧ KeysOk H L ∧ f.ok = true ∧ g.ok = true ∧ f.dep ≤ n ∧ L.length + f.sg ≤ 10000 ∧ ShOk L f g ∧
  ∀ v H' L', KB d H H' → H' d = some (PD w d L') → KeysOk H' L' → prs L' = (sh f g (prs L)).2 → Rp H' (sh f g (prs L)).1.d v → Q v H'
theorem spSh.no {w : World} : ∀ vs H Q E, ¬ spSh w 0 vs H Q E := fun vs H Q E ⟨_, _, _, f, _, _, _, _, _, _, _, _, _, hd, _⟩ => by have := f.dep_pos; omega
theorem spSh.len {w : World} {n : Nat} : ∀ vs H Q E, spSh w n vs H Q E → vs.length = 3 := fun vs H Q E ⟨_, _, _, _, _, _, e, _⟩ => by rw [e]; rfl
/-- a table of pairs, as a filling -/
def fiF (h : Fm × Fm → Fm) : Nat → FQ → FI
  | _, [] => []
  | i, p :: L => ((i : Int), h p) :: fiF h (i + 1) L
theorem fiF_snoc (h : Fm × Fm → Fm) (p : Fm × Fm) : ∀ (L : FQ) (i : Nat), fiF h i (L ++ [p]) = fiF h i L ++ [(((i + L.length : Nat) : Int), h p)]
  | [], i => rfl
  | a :: L, i => by
    have := fiF_snoc h p L (i + 1)
    simp only [List.cons_append, fiF, this, List.length_cons]
    rw [show i + 1 + L.length = i + (L.length + 1) by omega]
theorem fiF_len (h : Fm × Fm → Fm) : ∀ (L : FQ) (i : Nat), (fiF h i L).length = L.length
  | [], _ => rfl
  | a :: L, i => by simp [fiF, fiF_len h L]
theorem fiF_key (h : Fm × Fm → Fm) : ∀ (L : FQ) (i : Nat) (k : Int), k ∈ (fiF h i L).map (·.1) → (i : Int) ≤ k ∧ k < i + L.length
  | [], i, k, hk => by simp [fiF] at hk
  | a :: L, i, k, hk => by
    simp only [fiF, List.map_cons, List.mem_cons] at hk
    simp only [List.length_cons]
    rcases hk with rfl | hk
    · omega
    · have := fiF_key h L (i + 1) k hk; omega
theorem fiF_nodup (h : Fm × Fm → Fm) : ∀ (L : FQ) (i : Nat), ((fiF h i L).map (·.1)).Nodup
  | [], _ => List.nodup_nil
  | a :: L, i => by
    simp only [fiF, List.map_cons]
    exact List.nodup_cons.mpr ⟨fun z => by have := fiF_key h L (i + 1) _ z; omega, fiF_nodup h L (i + 1)⟩
theorem fiF_lk (h : Fm × Fm → Fm) : ∀ (L : FQ) (i j : Nat) (p : Fm × Fm), L[j]? = some p → lk (fiF h i L) (((i + j : Nat) : Int)) = some (h p)
  | a :: L, i, 0, p, e => by
    simp only [List.getElem?_cons_zero, Option.some.injEq] at e
    subst e
    simp [fiF, lk]
  | a :: L, i, j + 1, p, e => by
    have := fiF_lk h L (i + 1) j p (by simpa using e)
    rw [show i + 1 + j = i + (j + 1) by omega] at this
    simp only [fiF, lk_cons]
    rw [if_neg (by omega), this]
theorem fiF_mem (h : Fm × Fm → Fm) : ∀ (L : FQ) (i : Nat) (q : Int × Fm), q ∈ fiF h i L → ∃ p, p ∈ L ∧ q.2 = h p
  | [], i, q, hq => by simp [fiF] at hq
  | a :: L, i, q, hq => by
    simp only [fiF, List.mem_cons] at hq
    rcases hq with rfl | hq
    · exact ⟨a, by simp, rfl⟩
    · obtain ⟨p, h1, h2⟩ := fiF_mem h L (i + 1) q hq
      exact ⟨p, by simp [h1], h2⟩
theorem fiF_swp (L : FQ) : ∀ i : Nat, fiF Prod.fst i (swp L) = fiF Prod.snd i L ∧ fiF Prod.snd i (swp L) = fiF Prod.fst i L := by
  induction L with
  | nil => intro i; exact ⟨rfl, rfl⟩
  | cons a L ih => intro i; simp only [swp, List.map_cons, fiF] at ih ⊢; rw [(ih (i + 1)).1, (ih (i + 1)).2]; exact ⟨rfl, rfl⟩
/-- filled by the table -/
theorem fill_fst {f g : Fm} : fill (fiF Prod.fst 0 (lgT f g)) (lgg f g) = f := by
  rw [fill_sub]
  refine Eq.trans (sub_congr _ fun k hk => ?_) (lgg_left f g)
  have := mem_gp.mpr hk
  rw [gp_lgg, mem_iotaI] at this
  have hj : k.toNat < (lgT f g).length := by omega
  have e := fiF_lk Prod.fst (lgT f g) 0 k.toNat _ (List.getElem?_eq_getElem hj)
  rw [Nat.zero_add, show ((k.toNat : Nat) : Int) = k by omega] at e
  unfold lkd fstS
  rw [e, getD_of (List.getElem?_eq_getElem hj)]; rfl
theorem fill_snd {f g : Fm} : fill (fiF Prod.snd 0 (lgT f g)) (lgg f g) = g := by
  rw [fill_sub]
  refine Eq.trans (sub_congr _ fun k hk => ?_) (lgg_right f g)
  have := mem_gp.mpr hk
  rw [gp_lgg, mem_iotaI] at this
  have hj : k.toNat < (lgT f g).length := by omega
  have e := fiF_lk Prod.snd (lgT f g) 0 k.toNat _ (List.getElem?_eq_getElem hj)
  rw [Nat.zero_add, show ((k.toNat : Nat) : Int) = k by omega] at e
  unfold lkd sndS
  rw [e, getD_of (List.getElem?_eq_getElem hj)]; rfl
/-- common(one, other) -/
structure CmOk (n : Nat) (f g : Fm) : Prop where
  okf : f.ok = true
  okg : g.ok = true
  df : f.dep ≤ n
  sf : f.sg ≤ 5000
  sh : ShOk [] f g
def spCommon (n : Nat) : Sp := fun vs H Q _ => ∃ (v1 v2 : V) (f g : Fm), vs = [v1, v2] ∧ Rp H f.d v1 ∧ Rp H g.d v2 ∧ CmOk n f g ∧
  ∀ t vc p1 p2 xs1 xs2 H', Same H H' → H' t = some (.tup [vc, .ref p1, .ref p2]) → Rp H' (lgg f g).d vc → H p1 = none → H p2 = none → p1 ≠ p2 → H' p1 = some (.dK xs1) → RpI H' (imF (fiF Prod.fst 0 (lgT f g))) xs1 → H' p2 = some (.dK xs2) → RpI H' (imF (fiF Prod.snd 0 (lgT f g))) xs2 → Q (.ref t) H'
theorem spCommon.len {n : Nat} : ∀ vs H Q E, spCommon n vs H Q E → vs.length = 2 := fun vs H Q E ⟨_, _, _, _, e, _⟩ => by rw [e]; rfl
/-- as data -/
theorem spCommon.d {n : Nat} {f g : Fm} (h : CmOk n f g) : SpD (spCommon n) [f.d, g.d] (.tuple [(lgg f g).d, dF (fiF Prod.fst 0 (lgT f g)), dF (fiF Prod.snd 0 (lgT f g))]) := fun H xs hx Q E q => by
  obtain ⟨v1, _, rfl, r1, v2, _, rfl, r2, rfl⟩ := hx
  exact ⟨v1, v2, f, g, rfl, r1, r2, h, fun t vc p1 p2 xs1 xs2 H' s' et rc _ _ _ e1 q1 e2 q2 => q _ H' s' ⟨t, _, rfl, et, .cons rc (.cons ⟨p1, xs1, rfl, .inl e1, q1⟩ (.cons ⟨p2, xs2, rfl, .inl e2, q2⟩ .nil))⟩⟩
end Fx
/-! HxG: least common forms are right; forms filled by drawn fillings. -/
namespace Fx
open PySem L2 PySem.Spec PyProof.Rows
theorem leaf_gap (p : Fm × Fm) (L : FQ) : ∃ k, (leaf p L).1 = .gap k := by
  unfold leaf
  cases posQ L p with
  | some j => exact ⟨_, rfl⟩
  | none => exact ⟨_, rfl⟩
mutual
theorem sh_ok : ∀ (f g : Fm) (L : FQ), f.ok = true → (sh f g L).1.ok = true
  | .gap i, g, L, _ => by simp only [sh]; obtain ⟨k, e⟩ := leaf_gap (.gap i, g) L; rw [e]; rfl
  | .tie w ps, .gap j, L, _ => by simp only [sh]; obtain ⟨k, e⟩ := leaf_gap (.tie w ps, .gap j) L; rw [e]; rfl
  | .tie w ps, .tie v qs, L, h => by
    simp only [sh]
    split
    · rename_i c
      simp only [Fm.ok, Bool.and_eq_true, decide_eq_true_eq] at h ⊢
      obtain ⟨h1, h2⟩ := shL_ok ps qs L h.2 c.2
      exact ⟨⟨h.1.1, by rw [h2]; exact h.1.2⟩, h1⟩
    · obtain ⟨k, e⟩ := leaf_gap (.tie w ps, .tie v qs) L; rw [e]; rfl
theorem shL_ok : ∀ (fs gs : List Fm) (L : FQ), Fm.okL fs = true → fs.length = gs.length → Fm.okL (shL fs gs L).1 = true ∧ (shL fs gs L).1.length = fs.length
  | [], [], L, _, _ => by simp [shL, Fm.okL]
  | f :: fs, g :: gs, L, h, hl => by
    simp only [Fm.okL, Bool.and_eq_true] at h
    obtain ⟨h1, h2⟩ := shL_ok fs gs (sh f g L).2 h.2 (by simpa using hl)
    simp only [shL, Fm.okL, Bool.and_eq_true, List.length_cons, h2, and_true]
    exact ⟨sh_ok f g L h.1, h1⟩
end
theorem lgg_ok {f g : Fm} (h : f.ok = true) : (lgg f g).ok = true := sh_ok f g [] h
theorem lgg_dep (f g : Fm) : (lgg f g).dep ≤ f.dep := by have := dep_sub_ge (fstS (lgT f g)) (lgg f g); rw [lgg_left] at this; exact this
theorem lgg_sg (f g : Fm) : (lgg f g).sg ≤ f.sg := by have := sg_sub_ge (fstS (lgT f g)) (lgg f g); rw [lgg_left] at this; exact this
theorem lgg_rk {f g h : Fm} {s t : Int → Fm} (h1 : sub s h = f) (h2 : sub t h = g) : rk h ≤ rk (lgg f g) := by
  obtain ⟨r, e⟩ := lgg_least h1 h2
  rw [← e]; exact (rk_sub r h).1
mutual
theorem lvs_ok : ∀ (f g : Fm) (p : Fm × Fm), f.ok = true → g.ok = true → p ∈ lvs f g → p.1.ok = true ∧ p.2.ok = true
  | .gap i, g, p, h1, h2, h => by simp only [lvs, List.mem_singleton] at h; subst h; exact ⟨h1, h2⟩
  | .tie w ps, .gap j, p, h1, h2, h => by simp only [lvs, List.mem_singleton] at h; subst h; exact ⟨h1, h2⟩
  | .tie w ps, .tie v qs, p, h1, h2, h => by
    simp only [lvs] at h
    split at h
    · simp only [Fm.ok, Bool.and_eq_true] at h1 h2
      exact lvsL_ok ps qs p h1.2 h2.2 h
    · simp only [List.mem_singleton] at h; subst h; exact ⟨h1, h2⟩
theorem lvsL_ok : ∀ (fs gs : List Fm) (p : Fm × Fm), Fm.okL fs = true → Fm.okL gs = true → p ∈ lvsL fs gs → p.1.ok = true ∧ p.2.ok = true
  | [], _, p, _, _, h => by simp [lvsL] at h
  | _ :: _, [], p, _, _, h => by simp [lvsL] at h
  | f :: fs, g :: gs, p, h1, h2, h => by
    simp only [Fm.okL, Bool.and_eq_true] at h1 h2
    simp only [lvsL, List.mem_append] at h
    rcases h with h | h
    · exact lvs_ok f g p h1.1 h2.1 h
    · exact lvsL_ok fs gs p h1.2 h2.2 h
end
theorem lgT_good {f g : Fm} (h1 : f.ok = true) (h2 : g.ok = true) : ∀ p, p ∈ lgT f g → (p.1.ok = true ∧ p.1.dep ≤ f.dep) ∧ (p.2.ok = true ∧ p.2.dep ≤ g.dep) := fun p hp => by
  rcases sh_mem f g [] p hp with h | h
  · cases h
  · obtain ⟨a, b⟩ := lvs_ok f g p h1 h2 h
    obtain ⟨c, d⟩ := lvs_dep f g p h
    exact ⟨⟨a, c⟩, ⟨b, d⟩⟩
theorem okM_fst {f g : Fm} (h1 : f.ok = true) (h2 : g.ok = true) (d1 : f.dep ≤ 90) : okM (imF (fiF Prod.fst 0 (lgT f g))) := okM_imF fun q hq => by
  obtain ⟨p, hp, e⟩ := fiF_mem _ _ _ q hq
  have := lgT_good h1 h2 p hp
  rw [e]; exact ⟨this.1.1, by omega⟩
theorem okM_snd {f g : Fm} (h1 : f.ok = true) (h2 : g.ok = true) (d1 : g.dep ≤ 90) : okM (imF (fiF Prod.snd 0 (lgT f g))) := okM_imF fun q hq => by
  obtain ⟨p, hp, e⟩ := fiF_mem _ _ _ q hq
  have := lgT_good h1 h2 p hp
  rw [e]; exact ⟨this.2.1, by omega⟩
theorem deq_self (h : Fm × Fm → Fm) (L : FQ) : deq (imF (fiF h 0 L)) (imF (fiF h 0 L)) = true := deq_imF rfl (lk_self (fiF_nodup h L 0))
/-- two fillings of one form part at its gaps -/
theorem ShOk.fills {h : Fm} {s t : Int → Fm} (h1 : ∀ k, k ∈ ag h → (s k).dep ≤ 3 ∧ (t k).dep ≤ 3) : ShOk [] (sub s h) (sub t h) := .inl ⟨fun p hp => by
  obtain ⟨k, hk, hp⟩ := lvs_sub h p hp
  obtain ⟨a, b⟩ := lvs_dep _ _ p hp
  obtain ⟨c, d⟩ := h1 k hk
  exact ⟨by omega, by omega⟩, fun p hp => by cases hp⟩
theorem Drawn.lkd_dep {m : FI} {ns : List Int} {many : Int} {deep : Nat} (h : Drawn m ns many deep) (hd : 1 ≤ deep) (k : Int) : (lkd m k).dep ≤ deep := by
  unfold lkd
  cases e : lk m k with
  | none => exact hd
  | some f => exact (h.2 _ (lk_mem e)).2.1
/-- x = _law_filled(f, _law_filling(..)) -/
theorem w_sff {σ : L2.St} {H : Hp} {u : TS} {D : Ends} {i n n' : Nat} {t : TA} {tf : TE} {E E2 : XK} {c many : Int} {deep : Nat} {ns : List Int} {f : Fm} (hf : EvD tf σ H f.d) (h : EvA t σ H [.int c, .list (ns.map .int), .int many, .int deep]) (hnd : ns.Nodup) (hl : ns.length ≤ 100) (hm : 0 ≤ many) (h1 : 1 ≤ deep) (hn : deep ≤ n) (hfd : f.dep ≤ n') (hfo : f.ok = true)
    (q : ∀ (m : FI) v H1, Same H H1 → Rp H1 (fill m f).d v → Drawn m ns many deep → u D (σ.set i (some v)) H1) : tSeq (tAsg (tCall (spFill n') [] E (tCons tf (tCons (tCall (spFilling n) [] E2 t) tNil))) (gName i)) u D σ H := by
  refine hf H (Same.refl _) _ fun vf H0 s0 r0 => h H0 s0 _ fun vs H1 s1 rs => ?_
  obtain ⟨v1, _, rfl, r1, v2, _, rfl, r2, v3, _, rfl, r3, v4, _, rfl, r4, rfl⟩ := rs
  cases (show v1 = V.int c from r1)
  cases (show v3 = V.int many from r3)
  cases (show v4 = V.int deep from r4)
  obtain ⟨a, xs, rfl, ha, hx⟩ := r2
  have hx' := RpL.ints_inv hx
  subst hx'
  refine ⟨c, many, ns, a, deep, rfl, ha, hnd, hl, hm, h1, hn, fun m p xs H' s' hp hp' rm dm => ?_⟩
  refine ⟨[f.d, dF m], (fill m f).d, .cons ((r0.mono s1).mono s') (.cons ⟨p, xs, rfl, .inl hp', rm⟩ .nil), ⟨f, m, rfl, rfl, hfd, hfo⟩, fun v H2 s2 r => ?_⟩
  exact q m v H2 (((s0.trans s1).trans s').trans s2) r dm
end Fx
/-! HxI: the least common form worked out with a list of pairs (law k07). -/
namespace Fx
open PySem L2 PySem.Spec PyProof.Rows
def encK (p : Fm × Fm) : PyData := .tuple [p.1.d, p.2.d]
theorem imm_encK (p : Fm × Fm) : imm (encK p) = true := imm_pair p.1 p.2
theorem eqv_encK (p q : Fm × Fm) : (encK p).eqv (encK q) = decide (p = q) := by
  have : (encK p).eqv (encK q) = (p.1.d.eqv q.1.d && p.2.d.eqv q.2.d) := by simp [encK, PyData.eqv, PyData.eqvAll]
  rw [this, Fm.eqv, Fm.eqv]
  by_cases h : p = q
  · subst h; simp
  · rw [decide_eq_false h]
    by_cases a : p.1 = q.1
    · have b : ¬ p.2 = q.2 := fun b => h (Prod.ext a b)
      simp [a, b]
    · simp [a]
theorem any_encK (L : FQ) (p : Fm × Fm) : ((L.map encK).any fun z => PyData.eqv z (encK p)) = (posQ L p).isSome := by
  induction L with
  | nil => rfl
  | cons a L ih =>
    simp only [List.map_cons, List.any_cons, ih, eqv_encK, posQ]
    by_cases h : a = p
    · simp [h]
    · simp only [h, decide_false, Bool.false_or, if_false]
      cases posQ L p <;> rfl
theorem posQ_first : ∀ {L : FQ} {p : Fm × Fm} {j : Nat}, posQ L p = some j → ∀ (m : Nat) (q : Fm × Fm), m < j → L[m]? = some q → q ≠ p
  | x :: L, p, j, h, m, q, hm, e => by
    simp only [posQ] at h
    split at h
    · cases h; omega
    · rename_i hx
      cases z : posQ L p with
      | none => rw [z] at h; cases h
      | some k =>
        rw [z] at h; cases h
        cases m with
        | zero => simp only [List.getElem?_cons_zero, Option.some.injEq] at e; subst e; exact hx
        | succ m => exact posQ_first z m q (by simp only [Option.map] at hm; omega) (by simpa using e)
/-- a pair that is handled -/
def PrOk (p : Fm × Fm) : Prop := (p.1.ok = true ∧ p.1.dep ≤ 12) ∧ (p.2.ok = true ∧ p.2.dep ≤ 12)
theorem lay_encK {p : Fm × Fm} (h : PrOk p) : (encK p).canLay0 = true := by
  simp only [encK, PyData.canLay0, PyData.canLayAll0, Bool.and_eq_true]
  exact ⟨Fm.lay _ h.1.1, Fm.lay _ h.2.1, trivial⟩
theorem dep_encK {p : Fm × Fm} (h : PrOk p) : (encK p).depth ≤ 25 := by
  have h1 := p.1.depth_d
  have h2 := p.2.depth_d
  have h3 := h.1.2
  have h4 := h.2.2
  simp only [encK, PyData.depth, PyData.depthAll]
  omega
theorem shaped_encK {p : Fm × Fm} (h : PrOk p) : SeqAt.shaped (encK p) = true := by
  unfold SeqAt.shaped
  rw [Bool.and_eq_true]
  exact ⟨lay_encK h, decide_eq_true (by have := dep_encK h; omega)⟩
theorem shaped_encKs {L : FQ} (h : ∀ p, p ∈ L → PrOk p) : SeqAt.shaped (.list (L.map encK)) = true := by
  have h1 : PyData.canLayAll0 (L.map encK) = true ∧ PyData.depthAll (L.map encK) ≤ 25 := by
    induction L with
    | nil => exact ⟨rfl, by simp [PyData.depthAll]⟩
    | cons a L ih =>
      obtain ⟨i1, i2⟩ := ih fun p hp => h p (by simp [hp])
      have ha := h a (by simp)
      have := dep_encK ha
      simp only [List.map_cons, PyData.canLayAll0, PyData.depthAll, Bool.and_eq_true]
      exact ⟨⟨lay_encK ha, i1⟩, by omega⟩
  unfold SeqAt.shaped
  rw [Bool.and_eq_true]
  refine ⟨h1.1, decide_eq_true ?_⟩
  simp only [PyData.depth]
  omega
/-- _law_common(one, other, pairs) -/
def spLC (n : Nat) : Sp := fun vs H Q _ => ∃ (v1 v2 : V) (l : Addr) (xs : List V) (f g : Fm) (L : FQ), vs = [v1, v2, .ref l] ∧ Rp H f.d v1 ∧ Rp H g.d v2 ∧ H l = some (.lst xs) ∧ RpL H (L.map encK) xs ∧ f.ok = true ∧ g.ok = true ∧ f.dep ≤ n ∧ f.dep ≤ 12 ∧ g.dep ≤ 12 ∧ (∀ p, p ∈ L → PrOk p) ∧ L.length + f.sg ≤ 10000 ∧
  ∀ v H' xs', KB l H H' → H' l = some (.lst xs') → RpL H' ((sh f g L).2.map encK) xs' → Rp H' (sh f g L).1.d v → Q v H'
theorem spLC.no : ∀ vs H Q E, ¬ spLC 0 vs H Q E := fun vs H Q E ⟨_, _, _, _, f, _, _, _, _, _, _, _, _, _, hd, _⟩ => by have := f.dep_pos; omega
theorem spLC.len {n : Nat} : ∀ vs H Q E, spLC n vs H Q E → vs.length = 3 := fun vs H Q E ⟨_, _, _, _, _, _, _, e, _⟩ => by rw [e]; rfl
theorem sh_prOk {f g : Fm} {L : FQ} (h1 : f.ok = true) (h2 : g.ok = true) (d1 : f.dep ≤ 12) (d2 : g.dep ≤ 12) (hL : ∀ p, p ∈ L → PrOk p) : ∀ p, p ∈ (sh f g L).2 → PrOk p := fun p hp => by
  rcases sh_mem f g L p hp with h | h
  · exact hL p h
  · obtain ⟨a, b⟩ := lvs_ok f g p h1 h2 h
    obtain ⟨c, d⟩ := lvs_dep f g p h
    exact ⟨⟨a, by omega⟩, ⟨b, by omega⟩⟩
theorem shL_prOk {fs gs : List Fm} {L : FQ} (h1 : Fm.okL fs = true) (h2 : Fm.okL gs = true) (d1 : Fm.depL fs ≤ 12) (d2 : Fm.depL gs ≤ 12) (hL : ∀ p, p ∈ L → PrOk p) : ∀ p, p ∈ (shL fs gs L).2 → PrOk p := fun p hp => by
  rcases shL_mem fs gs L p hp with h | h
  · exact hL p h
  · obtain ⟨a, b⟩ := lvsL_ok fs gs p h1 h2 h
    obtain ⟨c, d⟩ := lvsL_dep fs gs p h
    exact ⟨⟨a, by omega⟩, ⟨b, by omega⟩⟩
theorem okL_takeI : ∀ {fs : List Fm} (_ : Fm.okL fs = true) (i : Nat), Fm.okL (fs.take i) = true
  | [], _, i => by simp [Fm.okL]
  | f :: fs, h, 0 => rfl
  | f :: fs, h, i + 1 => by
    simp only [Fm.okL, List.take_succ_cons, Bool.and_eq_true] at h ⊢
    exact ⟨h.1, okL_takeI h.2 i⟩
theorem depL_takeI : ∀ (fs : List Fm) (i : Nat), Fm.depL (fs.take i) ≤ Fm.depL fs
  | [], i => by simp
  | f :: fs, 0 => by simp [Fm.depL]
  | f :: fs, i + 1 => by
    have := depL_takeI fs i
    simp only [Fm.depL, List.take_succ_cons]
    omega
theorem shL_len1 : ∀ (fs gs : List Fm) (M : FQ), (shL fs gs M).1.length ≤ fs.length
  | [], gs, M => by simp [shL]
  | a :: fs, [], M => by simp [shL]
  | a :: fs, b :: gs, M => by simp only [shL, List.length_cons]; have := shL_len1 fs gs (sh a b M).2; omega
/-- the two forms of law k07 -/
structure Tw7 (f g : Fm) : Prop where
  okf : f.ok = true
  okg : g.ok = true
  df : f.dep ≤ 6
  dg : g.dep ≤ 6
  sf : f.sg ≤ 200
  sg : g.sg ≤ 200
  sh : ShOk [] f g
theorem ShOk.four {f g : Fm} (hf : f.dep ≤ 4) (hg : g.dep ≤ 4) : ShOk [] f g := by
  cases e : sk f g with
  | false => exact .inr ⟨rfl, e, by omega, by omega⟩
  | true =>
    cases f with
    | gap _ => cases e
    | tie w ps =>
    cases g with
    | gap _ => cases e
    | tie v qs =>
      simp only [sk, Bool.and_eq_true, decide_eq_true_eq] at e
      refine .inl ⟨fun p hp => ?_, fun p hp => by cases hp⟩
      simp only [lvs] at hp
      rw [if_pos e] at hp
      obtain ⟨a, b⟩ := lvsL_dep ps qs p hp
      simp only [Fm.dep] at hf hg
      exact ⟨by omega, by omega⟩
def spTwo7 (K : PySem.W.Frag) : Sp := fun vs H Q _ => ∃ (a : Addr) (ns : List Int), vs = [.ref a] ∧ SqL K H a (ns.map V.int) ∧ ∀ f g v H', Same H H' → Rp H' (.tuple [f.d, g.d]) v → Tw7 f g → Q v H'
theorem spTwo7.len {K : PySem.W.Frag} : ∀ vs H Q E, spTwo7 K vs H Q E → vs.length = 1 := fun vs H Q E ⟨_, _, e, _⟩ => by rw [e]; rfl
section
variable {K : PySem.W.Frag} {σ : L2.St} {H : Hp} {i : Nat} {t p1 p2 : Addr} {vc : V} {xs : List (Key × V)} {m : IM}
theorem et_ix1 (hv : σ[i]? = some (some (.ref t))) (ht : H t = some (.tup [vc, .ref p1, .ref p2])) (hp : H p1 = some (.dK xs)) (hr : RpI H m xs) : EvT (tOp (rIxT K) (tVar i) (tC (.int 1))) σ H m := fun H1 s Q q =>
  ⟨.ref t, hv, t, _, 1, .ref p1, rfl, rfl, .of (s _ _ ht), rfl, q p1 xs H1 (Same.refl _) (s _ _ hp) (hr.mono s)⟩
theorem et_ix2 (hv : σ[i]? = some (some (.ref t))) (ht : H t = some (.tup [vc, .ref p1, .ref p2])) (hp : H p2 = some (.dK xs)) (hr : RpI H m xs) : EvT (tOp (rIxT K) (tVar i) (tC (.int 2))) σ H m := fun H1 s Q q =>
  ⟨.ref t, hv, t, _, 2, .ref p2, rfl, rfl, .of (s _ _ ht), rfl, q p2 xs H1 (Same.refl _) (s _ _ hp) (hr.mono s)⟩
theorem w_sclear1 {u : TS} {D : Ends} (hv : σ[i]? = some (some (.ref t))) (ht : H t = some (.tup [vc, .ref p1, .ref p2])) (hp : H p1 = some (.dK xs)) (q : u D σ (upd H p1 (.dK []))) : tSeq (tDrop (tBM0 K "dict" rDClear (tOp (rIxT K) (tVar i) (tC (.int 1))))) u D σ H :=
  ⟨.ref t, hv, t, _, 1, .ref p1, rfl, rfl, .of ht, rfl, .inr (.inr (.inl ⟨rfl, .inl ⟨xs, hp⟩⟩)), p1, xs, rfl, rfl, hp, q⟩
theorem w_clear2 {D : Ends} (hv : σ[i]? = some (some (.ref t))) (ht : H t = some (.tup [vc, .ref p1, .ref p2])) (hp : H p2 = some (.dK xs)) (q : D.nx σ (upd H p2 (.dK []))) : tDrop (tBM0 K "dict" rDClear (tOp (rIxT K) (tVar i) (tC (.int 2)))) D σ H :=
  ⟨.ref t, hv, t, _, 2, .ref p2, rfl, rfl, .of ht, rfl, .inr (.inr (.inl ⟨rfl, .inl ⟨xs, hp⟩⟩)), p2, xs, rfl, rfl, hp, q⟩
end
theorem okFI_fst {f g : Fm} (h1 : f.ok = true) (h2 : g.ok = true) : OkFI (fiF Prod.fst 0 (lgT f g)) f.dep := fun q hq => by
  obtain ⟨p, hp, e⟩ := fiF_mem _ _ _ q hq
  have := lgT_good h1 h2 p hp
  rw [e]; exact this.1
theorem okFI_snd {f g : Fm} (h1 : f.ok = true) (h2 : g.ok = true) : OkFI (fiF Prod.snd 0 (lgT f g)) g.dep := fun q hq => by
  obtain ⟨p, hp, e⟩ := fiF_mem _ _ _ q hq
  have := lgT_good h1 h2 p hp
  rw [e]; exact this.2
/-- return (x, _law_filled(f, _law_filling(..))) -/
theorem w_rff {σ : L2.St} {H : Hp} {D : Ends} {n n' : Nat} {t : TA} {tx tf : TE} {E E2 : XK} {c many : Int} {deep : Nat} {ns : List Int} {f : Fm} {d0 : PyData} (hx : EvD tx σ H d0) (hf : EvD tf σ H f.d) (h : EvA t σ H [.int c, .list (ns.map .int), .int many, .int deep]) (hnd : ns.Nodup) (hl : ns.length ≤ 100) (hm : 0 ≤ many) (h1 : 1 ≤ deep) (hn : deep ≤ n) (hfd : f.dep ≤ n') (hfo : f.ok = true)
    (q : ∀ (m : FI) v H1, Same H H1 → Rp H1 (.tuple [d0, (fill m f).d]) v → Drawn m ns many deep → D.rt v H1) : tRet (tTup (tCons tx (tCons (tCall (spFill n') [] E (tCons tf (tCons (tCall (spFilling n) [] E2 t) tNil))) tNil))) D σ H := by
  refine hx H (Same.refl _) _ fun v0 H9 s9 r9 => hf H9 s9 _ fun vf H0 s0 r0 => h H0 (s9.trans s0) _ fun vs H1 s1 rs => ?_
  obtain ⟨v1, _, rfl, r1, v2, _, rfl, r2, v3, _, rfl, r3, v4, _, rfl, r4, rfl⟩ := rs
  cases (show v1 = V.int c from r1)
  cases (show v3 = V.int many from r3)
  cases (show v4 = V.int deep from r4)
  obtain ⟨a, xs, rfl, ha, hx⟩ := r2
  have hx' := RpL.ints_inv hx
  subst hx'
  refine ⟨c, many, ns, a, deep, rfl, ha, hnd, hl, hm, h1, hn, fun m p xs H' s' hp hp' rm dm => ?_⟩
  refine ⟨[f.d, dF m], (fill m f).d, .cons ((r0.mono s1).mono s') (.cons ⟨p, xs, rfl, .inl hp', rm⟩ .nil), ⟨f, m, rfl, rfl, hfd, hfo⟩, fun v H2 s2 r => ?_⟩
  refine ⟨by show 2 ≤ sizeLine; decide, fun t ht => ?_⟩
  have s3 : Same H2 (upd H2 t (.tup [v0, v])) := Fx.Same.new ht
  have s19 := (s0.trans s1).trans (s'.trans s2)
  exact q m _ _ ((s9.trans s19).trans s3) ⟨t, _, rfl, upd_same, .cons ((r9.mono s19).mono s3) (.cons (r.mono s3) .nil)⟩ dm
end Fx
namespace Fx
open PySem L2 PySem.Spec PyProof.Rows RZ
def topS (i : Nat) : Stmt := PySem.Challenge.pw_commonforms_k07_the_least_common_form.main.body.getD i (.Pass ⟨0, 0, 0, 0⟩)
abbrev s_same_kind : Stmt := topS 1
abbrev N_same_kind : List Str := ["one", "other"]
theorem sc_same_kind : FnScope N_same_kind ["one", "other"] (defScope s_same_kind) := ⟨rfl, rfl, rfl, by decide +kernel, rfl, by decide +kernel, by decide +kernel⟩
abbrev s_shared : Stmt := topS 3
abbrev N_shared : List Str := ["one", "other", "pairs", "parts", "mine", "yours"]
theorem sc_shared : FnScope N_shared ["one", "other", "pairs"] (defScope s_shared) := ⟨rfl, rfl, rfl, by decide +kernel, rfl, by decide +kernel, by decide +kernel⟩
abbrev s_common : Stmt := topS 4
abbrev N_common : List Str := ["one", "other", "pairs", "form", "left", "right", "pair"]
theorem sc_common : FnScope N_common ["one", "other"] (defScope s_common) := ⟨rfl, rfl, rfl, by decide +kernel, rfl, by decide +kernel, by decide +kernel⟩
abbrev s__law_cell_at : Stmt := topS 6
abbrev N__law_cell_at : List Str := ["script", "k"]
theorem sc__law_cell_at : FnScope N__law_cell_at ["script", "k"] (defScope s__law_cell_at) := ⟨rfl, rfl, rfl, by decide +kernel, rfl, by decide +kernel, by decide +kernel⟩
abbrev s__law_whole : Stmt := topS 7
abbrev N__law_whole : List Str := ["found"]
theorem sc__law_whole : FnScope N__law_whole ["found"] (defScope s__law_whole) := ⟨rfl, rfl, rfl, by decide +kernel, rfl, by decide +kernel, by decide +kernel⟩
abbrev s__law_form : Stmt := topS 8
abbrev N__law_form : List Str := ["spot", "many", "deep", "number", "words", "size", "parts", "k"]
theorem sc__law_form : FnScope N__law_form ["spot", "many", "deep"] (defScope s__law_form) := ⟨rfl, rfl, rfl, by decide +kernel, rfl, by decide +kernel, by decide +kernel⟩
abbrev s__law_drawn : Stmt := topS 9
abbrev N__law_drawn : List Str := ["cell", "many", "deep"]
theorem sc__law_drawn : FnScope N__law_drawn ["cell", "many", "deep"] (defScope s__law_drawn) := ⟨rfl, rfl, rfl, by decide +kernel, rfl, by decide +kernel, by decide +kernel⟩
abbrev s__law_filled : Stmt := topS 12
abbrev N__law_filled : List Str := ["form", "filling", "part"]
theorem sc__law_filled : FnScope N__law_filled ["form", "filling"] (defScope s__law_filled) := ⟨rfl, rfl, rfl, by decide +kernel, rfl, by decide +kernel, by decide +kernel⟩
abbrev s__law_filling : Stmt := topS 14
abbrev N__law_filling : List Str := ["cell", "numbers", "many", "deep", "found", "number"]
theorem sc__law_filling : FnScope N__law_filling ["cell", "numbers", "many", "deep"] (defScope s__law_filling) := ⟨rfl, rfl, rfl, by decide +kernel, rfl, by decide +kernel, by decide +kernel⟩
abbrev s__law_is_form : Stmt := topS 15
abbrev N__law_is_form : List Str := ["form", "part"]
theorem sc__law_is_form : FnScope N__law_is_form ["form"] (defScope s__law_is_form) := ⟨rfl, rfl, rfl, by decide +kernel, rfl, by decide +kernel, by decide +kernel⟩
abbrev s__law_is_filling : Stmt := topS 16
abbrev N__law_is_filling : List Str := ["found", "due", "number"]
theorem sc__law_is_filling : FnScope N__law_is_filling ["found", "due"] (defScope s__law_is_filling) := ⟨rfl, rfl, rfl, by decide +kernel, rfl, by decide +kernel, by decide +kernel⟩
abbrev s__law_common : Stmt := topS 17
abbrev N__law_common : List Str := ["one", "other", "pairs", "parts", "k"]
theorem sc__law_common : FnScope N__law_common ["one", "other", "pairs"] (defScope s__law_common) := ⟨rfl, rfl, rfl, by decide +kernel, rfl, by decide +kernel, by decide +kernel⟩
abbrev s__law_spots : Stmt := topS 18
abbrev N__law_spots : List Str := ["form", "path", "found", "k"]
theorem sc__law_spots : FnScope N__law_spots ["form", "path", "found"] (defScope s__law_spots) := ⟨rfl, rfl, rfl, by decide +kernel, rfl, by decide +kernel, by decide +kernel⟩
abbrev s__law_opened : Stmt := topS 19
abbrev N__law_opened : List Str := ["form", "path", "number", "parts"]
theorem sc__law_opened : FnScope N__law_opened ["form", "path", "number"] (defScope s__law_opened) := ⟨rfl, rfl, rfl, by decide +kernel, rfl, by decide +kernel, by decide +kernel⟩
abbrev s__law_looser : Stmt := topS 20
abbrev N__law_looser : List Str := ["form", "cell", "base", "k", "spots"]
theorem sc__law_looser : FnScope N__law_looser ["form", "cell", "base"] (defScope s__law_looser) := ⟨rfl, rfl, rfl, by decide +kernel, rfl, by decide +kernel, by decide +kernel⟩
abbrev s__law_two : Stmt := topS 21
abbrev N__law_two : List Str := ["script", "form", "way", "one"]
theorem sc__law_two : FnScope N__law_two ["script"] (defScope s__law_two) := ⟨rfl, rfl, rfl, by decide +kernel, rfl, by decide +kernel, by decide +kernel⟩
abbrev s_law : Stmt := topS 22
abbrev N_law : List Str := ["script", "one", "other", "some", "due", "left", "right", "k", "turn", "found"]
theorem sc_law : FnScope N_law ["script"] (defScope s_law) := ⟨rfl, rfl, rfl, by decide +kernel, rfl, by decide +kernel, by decide +kernel⟩
/-- what the top leaves -/
structure Tp (K : PySem.W.Frag) (mg : Str → Option Value) : Prop where
  z_len : mg "len" = none
  z_tuple : mg "tuple" = none
  z_isinstance : mg "isinstance" = none
  z_dict : mg "dict" = none
  z_list : mg "list" = none
  z_str : mg "str" = none
  z_int : mg "int" = none
  z_sum : mg "sum" = none
  z_range : mg "range" = none
  z_zip : mg "zip" = none
  z_bool : mg "bool" = none
  b_same_kind : Bn K mg "same_kind" s_same_kind ["one", "other"]
  b_shared : Bn K mg "shared" s_shared ["one", "other", "pairs"]
  b_common : Bn K mg "common" s_common ["one", "other"]
  b__law_cell_at : Bn K mg "_law_cell_at" s__law_cell_at ["script", "k"]
  b__law_whole : Bn K mg "_law_whole" s__law_whole ["found"]
  b__law_form : Bn K mg "_law_form" s__law_form ["spot", "many", "deep"]
  b__law_drawn : Bn K mg "_law_drawn" s__law_drawn ["cell", "many", "deep"]
  b__law_filled : Bn K mg "_law_filled" s__law_filled ["form", "filling"]
  b__law_filling : Bn K mg "_law_filling" s__law_filling ["cell", "numbers", "many", "deep"]
  b__law_is_form : Bn K mg "_law_is_form" s__law_is_form ["form"]
  b__law_is_filling : Bn K mg "_law_is_filling" s__law_is_filling ["found", "due"]
  b__law_common : Bn K mg "_law_common" s__law_common ["one", "other", "pairs"]
  b__law_spots : Bn K mg "_law_spots" s__law_spots ["form", "path", "found"]
  b__law_opened : Bn K mg "_law_opened" s__law_opened ["form", "path", "number"]
  b__law_looser : Bn K mg "_law_looser" s__law_looser ["form", "cell", "base"]
  b__law_two : Bn K mg "_law_two" s__law_two ["script"]
  b_law : Bn K mg "law" s_law ["script"]
local macro_rules | `(tactic| walk_at "rp") => `(tactic| first | assumption | exact Rp.mono (by assumption) (by assumption) | exact Rp.mono (Rp.mono (by assumption) (by assumption)) (by assumption))
local macro_rules | `(tactic| walk_at "ev") => `(tactic| with_reducible first
  | exact ev_int | exact ev_str | exact ev_bl | exact ev_non | exact et_yes | exact ea_nil
  | (refine ev_var rfl ?_; walk_at "rp")
  | (refine et_test ?_; walk_at "ev") | (refine et_B ?_; walk_at "ev") | (refine et_not ?_; walk_at "ev")
  | (refine ea_cons ?_ ?_ <;> walk_at "ev")
  | (refine ev_isgap ?_; walk_at "ev") | (refine ev_istie ?_; walk_at "ev") | (refine ev_nottie ?_; walk_at "ev")
  | (refine ev_f0 ?_; walk_at "ev") | (refine ev_f1 ?_; walk_at "ev") | (refine ev_f2 ?_; walk_at "ev")
  | (refine ev_isi ?_; walk_at "ev")
  | (refine ev_add ?_ ?_ <;> walk_at "ev") | (refine ev_sub ?_ ?_ <;> walk_at "ev")
  | (refine ev_lt ?_ ?_ <;> walk_at "ev") | (refine ev_gt ?_ ?_ <;> walk_at "ev") | (refine ev_le ?_ ?_ <;> walk_at "ev") | (refine ev_ge ?_ ?_ <;> walk_at "ev")
  | (refine ev_tup ?_; walk_at "ev") | (refine ev_lst ?_; walk_at "ev")
  | (refine ev_din ?_ ?_ <;> walk_at "ev") | (refine ev_dnotin ?_ ?_ <;> walk_at "ev"))
section
variable {P : Program} {w : World} {K : PySem.W.Frag} {mg : Str → Option Value} {base : Heap}
theorem ok_same_kind (T : Tp K mg) : Df P w K mg base CX0 1 "same_kind" ["one", "other"] spSame := by
  refine T.b_same_kind.ok sc_same_kind spSame.len (fun f cdv A outer s H vs Q E hr h => ?_)
  obtain ⟨ds, r, hR, ⟨f, g, rfl, rfl, hf, hg⟩, q⟩ := h
  obtain ⟨v1, _, rfl, h1, v2, _, rfl, h2, rfl⟩ := hR
  refine ⟨_, (pss_cons (ps_if (PW.pt (pw_or (pt_cmpR (op_eqP (un_of hr)) (pe_ix ix_tup (pv 0) pe_int (fun _ _ => rfl)) pe_str (nomark _)) (pw_or1 (pt_cmpR (op_eqP (un_of hr)) (pe_ix ix_tup (pv 1) pe_int (fun _ _ => rfl)) pe_str (nomark _))))) (pss_one (ps_ret pe_bl)) pss_nil) (pss_one (ps_ret (pe_and (pe_cmpR (op_eqP (un_of hr)) (pe_ix ix_tup (pv 0) pe_int (fun _ _ => rfl)) (pe_ix ix_tup (pv 1) pe_int (fun _ _ => rfl)) (nomark _)) (pe_one (pe_cmpR (op_eqP (un_of hr)) (pe_callB cr_len (by rfl) T.z_len (by decide +kernel) (pa_cons (pe_ix ix_tup (pv 0) pe_int (fun _ _ => rfl)) pa_nil)) (pe_callB cr_len (by rfl) T.z_len (by decide +kernel) (pa_cons (pe_ix ix_tup (pv 1) pe_int (fun _ _ => rfl)) pa_nil)) (nomark _))))))), ?_⟩
  refine EvR.run ?_ q
  have hc : EvB _ _ H _ := et_or (et_test (ev_isgap (f := f) (ev_f0 (K := K) (ev_var (i := 0) (σ := [some v1, some v2]) rfl h1)))) fun _ => et_test (ev_isgap (f := g) (ev_f0 (K := K) (ev_var (i := 1) (σ := [some v1, some v2]) rfl h2)))
  cases f with
  | gap k => exact er_here (er_ifT hc (er_ret ev_bl))
  | tie w ps =>
    cases g with
    | gap k => exact er_here (er_ifT hc (er_ret ev_bl))
    | tie v qs =>
      refine er_skip hc (er_ret ?_)
      have hf' := hf
      have hg' := hg
      simp only [Fm.ok, Bool.and_eq_true, decide_eq_true_eq] at hf' hg'
      refine (ev_and (ev_eq (ev_f1 (f := .tie w ps) (ev_var rfl h1)) (ev_f1 (f := .tie v qs) (ev_var rfl h2)) (okD_str hf'.1.1) (okD_str hg'.1.1)) fun _ => ev_eq (ev_cb (ea_cons (ev_f2 (ev_var rfl h1)) ea_nil) cd_lenT) (ev_cb (ea_cons (ev_f2 (ev_var rfl h2)) ea_nil) cd_lenT) (okD_int _) (okD_int _)).to ?_
      simp only [PyData.eqv, sk, List.length_map]
      congr 1
      congr 1
      by_cases e : ps.length = qs.length
      · rw [e]; simp
      · have : ¬ (ps.length : Int) = qs.length := by omega
        simp [e, this]
end
section
variable {P : Program} {w : World} {K : PySem.W.Frag} {mg : Str → Option Value} {base : Heap}
theorem ok_shared (T : Tp K mg) : ∀ n, Df P w K mg base CX0 (n + 1) "shared" ["one", "other", "pairs"] (spSh w n) := by
  refine T.b_shared.recK 1 spSh.no fun n D_shared => ?_
  have D_same_kind := ok_same_kind (P := P) (w := w) (base := base) T
  refine T.b_shared.ok sc_shared spSh.len (fun fa cdv A outer s H vs Q E hr h => ?_)
  obtain ⟨v1, v2, d, f, g, L, rfl, h1, h2, hd, hk, okf, okg, dpf, hlen, hs, q⟩ := h
  refine ⟨_, (pss_cons (ps_if (pt_val (pe_df D_same_kind (hr.mono (by omega)) (by rfl) pass0 (pa_cons (pv 0) (pa_cons (pv 1) pa_nil)))) (pss_cons (ps_setLc (i := 3) (own := [("mine", 4), ("yours", 5)]) (by rfl) sc_shared.nd rfl rfl (sw_true rfl rfl rfl (by decide +kernel)) (pi_zipA (by rfl) T.z_zip (pa_cons (pe_ix ix_tup (pv 0) pe_int (fun _ _ => rfl)) (pa_cons (pe_ix ix_tup (pv 1) pe_int (fun _ _ => rfl)) pa_nil))) (blkOk_by (own := [("mine", 4), ("yours", 5)]) (N := N_shared) (sc := defScope s_shared) (by decide +kernel)) (fun _ _ _ _ _ => pg_tupK (K := K) (n := 2) rfl rfl (pgs_cons (pg_name (i := 4) sc_shared.nd rfl (Or.inl rfl)) (pgs_cons (pg_name (i := 5) sc_shared.nd rfl (Or.inl rfl)) pgs_nil))) (fun _ _ _ _ _ => pts_nil) (fun _ _ _ _ _ => (pe_df D_shared (hr.mono (by omega)) (by rfl) pass0 (pa_cons (pv 4) (pa_cons (pv 5) (pa_cons (pv 2) pa_nil)))))) (pss_one (ps_ret (pe_tup (pa_cons pe_str (pa_cons (pe_ix ix_tup (pv 0) pe_int (fun _ _ => rfl)) (pa_cons (pe_callTy cr_tuple (by rfl) T.z_tuple (by decide +kernel) (pa_cons (pv 3) pa_nil)) pa_nil))))))) pss_nil) (pss_cons (ps_if (pt_cmp (pc_pnotin (un_of hr) (pe_tup (pa_cons (pv 0) (pa_cons (pv 1) pa_nil))) (pv 2))) (pss_one (ps_pput (un_of hr) (pv 2) (pe_tup (pa_cons (pv 0) (pa_cons (pv 1) pa_nil))) (pe_callB cr_lenP (by rfl) T.z_len (by decide +kernel) (pa_cons (pv 2) pa_nil)) rfl)) pss_nil) (pss_one (ps_ret (pe_tup (pa_cons pe_str (pa_cons (pe_pget (un_of hr) (pv 2) (pe_tup (pa_cons (pv 0) (pa_cons (pv 1) pa_nil))) (fun _ _ => rfl)) pa_nil))))))), ?_⟩
  refine w_guard (et_test (ev_call (ea_cons (ev_var rfl h1) (ea_cons (ev_var rfl h2) ea_nil)) (spP.d ⟨f, g, rfl, rfl, okf, okg⟩))) (fun c H1 s1 => ?_) (fun c H1 s1 => ?_)
  · -- of one kind
    cases f with
    | gap _ => cases c
    | tie wd ps =>
    cases g with
    | gap _ => cases c
    | tie wd' qs =>
    simp only [sk, Bool.and_eq_true, decide_eq_true_eq] at c
    obtain ⟨rfl, hl⟩ := c
    have hsh : sh (.tie wd ps) (.tie wd qs) (prs L) = (.tie wd (shL ps qs (prs L)).1, (shL ps qs (prs L)).2) := by simp only [sh]; rw [if_pos ⟨trivial, hl⟩]
    have hlv : lvs (.tie wd ps) (.tie wd qs) = lvsL ps qs := by simp only [lvs]; rw [if_pos ⟨trivial, hl⟩]
    obtain ⟨hs1, hs2⟩ : (∀ p, p ∈ lvsL ps qs → Small p) ∧ ∀ p, p ∈ prs L → Small p := by
      rcases hs with ⟨a, b⟩ | ⟨_, a, _⟩
      · rw [hlv] at a; exact ⟨a, b⟩
      · simp [sk, hl] at a
    rw [hsh] at q
    have h11 := h1.mono s1
    have h21 := h2.mono s1
    have hd1 := s1 _ _ hd
    have okf' := okf
    have okg' := okg
    simp only [Fm.ok, Bool.and_eq_true, decide_eq_true_eq] at okf' okg'
    have dpf' : Fm.depL ps ≤ n := by simp only [Fm.dep] at dpf; omega
    have hlen' : L.length + Fm.sgL ps ≤ 10000 := by simp only [Fm.sg] at hlen; omega
    refine w_sasg (w_lcG (ei_zipT (ev_f2 (w := wd) (ps := ps) (ev_var (i := 0) rfl h11)) (ev_f2 (w := wd) (ps := qs) (ev_var (i := 1) rfl h21)) Fm.immL_d Fm.immL_d) fun H2 D s2 hD => ?_)
    have hdD : d ≠ D := ne_of_none (s2 _ _ hd1) hD
    have hDH : H D = none := (s1.trans s2).free hD
    refine ⟨fun i acc H' => ∃ Li, KT H2 H' ∧ KB d H H' ∧ H' D = some (.lst acc) ∧ RpL H' ((shL (ps.take i) (qs.take i) (prs L)).1.map Fm.d) acc ∧ H' d = some (PD w d Li) ∧ KeysOk H' Li ∧ prs Li = (shL (ps.take i) (qs.take i) (prs L)).2, ?_, ?_, ?_, ?_⟩
    · have s3 : Same H2 (upd H2 D (.lst [])) := Fx.Same.new hD
      exact ⟨L, KT.of s3, KB.of ((s1.trans s2).trans s3), upd_same, by simp [shL]; rfl, s3 _ _ (s2 _ _ hd1), hk.mono ((s1.trans s2).trans s3), by simp [shL]⟩
    · rintro i acc H' ⟨_, kt, _⟩
      exact kt
    · rintro i dd x acc H' H3 Nx ed ⟨Li, kt, kb, eD, rA, ed2, kL, pL⟩ s3 rx hnx
      obtain ⟨p, r, ep, er, rfl⟩ : ∃ p r, ps[i]? = some p ∧ qs[i]? = some r ∧ dd = .tuple [p.d, r.d] := by
        rw [List.getElem?_zipWith, List.getElem?_map, List.getElem?_map] at ed
        cases e1 : ps[i]? with
        | none => rw [e1] at ed; cases ed
        | some p =>
          cases e2 : qs[i]? with
          | none => rw [e1, e2] at ed; cases ed
          | some r => rw [e1, e2] at ed; exact ⟨p, r, rfl, rfl, (Option.some.inj ed).symm⟩
      have hp := List.mem_of_getElem? ep
      have hrm := List.mem_of_getElem? er
      have tkp : ps.take (i + 1) = ps.take i ++ [p] := by rw [List.take_add_one, ep]; rfl
      have tkq : qs.take (i + 1) = qs.take i ++ [r] := by rw [List.take_add_one, er]; rfl
      have hlt : (ps.take i).length = (qs.take i).length := by rw [List.length_take, List.length_take]; omega
      have hsum : Fm.sgL (ps.take i) + p.sg ≤ Fm.sgL ps := by
        have h1 := Fm.sgL_append (ps.take (i + 1)) (ps.drop (i + 1))
        rw [List.take_append_drop, tkp, Fm.sgL_append] at h1
        simp only [Fm.sgL] at h1
        omega
      have hLi : Li.length + p.sg ≤ 10000 := by
        have h1 := shL_len (ps.take i) (qs.take i) (prs L)
        rw [← pL] at h1
        unfold prs at h1
        simp only [List.length_map] at h1
        omega
      have hsm : ShOk Li p r := .inl ⟨fun p' hp' => hs1 p' (lvsL_mem ep er p' hp'), fun p' hp' => by
        rw [pL] at hp'
        rcases shL_mem _ _ _ p' hp' with h | h
        · exact hs2 p' h
        · have : ∀ (fs gs : List Fm) (j : Nat), p' ∈ lvsL (fs.take j) (gs.take j) → p' ∈ lvsL fs gs := by
            intro fs
            induction fs with
            | nil => intro gs j h; simp [lvsL] at h
            | cons a fs ih =>
              intro gs j h
              cases gs with
              | nil => simp [lvsL] at h; cases j <;> simp [lvsL] at h
              | cons b gs =>
                cases j with
                | zero => simp [lvsL] at h
                | succ j =>
                  simp only [List.take_succ_cons, lvsL, List.mem_append] at h ⊢
                  rcases h with h | h
                  · exact .inl h
                  · exact .inr (ih gs j h)
          exact hs1 p' (this ps qs i h)⟩
      refine w_gtup2 rx fun x1 x2 rx1 rx2 => ?_
      refine ⟨rfl, ?_⟩
      refine et_yes H3 (Same.refl _) _ fun H4 s4 => iteT ?_
      have s34 := s3.trans s4
      refine ⟨x1, rfl, x2, rfl, .ref d, rfl, x1, x2, d, p, r, Li, rfl, rx1.mono s4, rx2.mono s4, s34 _ _ ed2, kL.mono s34, Fm.ok_part okf'.2 hp, Fm.ok_part okg'.2 hrm, ?_, hLi, hsm, fun v H5 L5 kb5 e5 k5 p5 r5 => ?_⟩
      · have := Fm.dep_part hp; omega
      · have eD5 := kb5 _ _ (Ne.symm hdD) (s34 _ _ eD)
        have kt5 : KT H4 H5 := kb5.kt fun ts => by rw [s34 _ _ ed2]; intro z; cases z
        have rA5 := RpL.kt kt5 _ _ Fm.immL_d (rA.mono s34)
        have hal : acc.length ≤ 1000 := by
          rw [rA.length, List.length_map]
          have : ∀ (fs gs : List Fm) (M : FQ), (shL fs gs M).1.length ≤ fs.length := by
            intro fs
            induction fs with
            | nil => intro gs M; simp [shL]
            | cons a fs ih =>
              intro gs M
              cases gs with
              | nil => simp [shL]
              | cons b gs => simp only [shL, List.length_cons]; have := ih gs (sh a b M).2; omega
          have := this (ps.take i) (qs.take i) (prs L)
          simp only [List.length_take] at this
          omega
        refine ⟨acc, eD5, Nat.lt_of_le_of_lt hal (by decide), hnx (acc ++ [v]) _ ⟨L5, ?_, ?_, upd_same, ?_, ?_, ?_, ?_⟩⟩
        · exact ((kt.trans (KT.of s34)).trans kt5).trans (KT.upd fun ts => by rw [eD5]; intro z; cases z)
        · exact ((kb.trans (KB.of s34)).trans kb5).put hDH
        · rw [tkp, tkq, shL_snoc hlt, List.map_append]
          refine RpL.kt (KT.upd fun ts => by rw [eD5]; intro z; cases z) _ _ ?_ (rA5.snoc ?_)
          · exact immL_of fun d hd => by
              rcases List.mem_append.mp hd with hd | hd <;> · obtain ⟨z, _, rfl⟩ := List.mem_map.mp hd; exact Fm.imm_d z
          · rw [← pL]; exact r5
        · rw [upd_ne hdD]; exact e5
        · exact k5.kt (KT.upd fun ts => by rw [eD5]; intro z; cases z)
        · rw [tkp, tkq, shL_snoc hlt, ← pL]; exact p5
    · rintro acc H' ⟨Li, kt, kb, eD, rA, ed2, kL, pL⟩
      have hzl : (List.zipWith (fun a b => PyData.tuple [a, b]) (ps.map Fm.d) (qs.map Fm.d)).length = ps.length := by simp [hl]
      rw [hzl, List.take_length, hl, List.take_length] at rA pL
      have ktH : KT H H' := kb.kt fun ts => by rw [hd]; intro z; cases z
      have h1' := Rp.kt ktH _ _ (Fm.imm_d _) h1
      refine w_ret (d := (Fm.tie wd (shL ps qs (prs L)).1).d) ?_ fun v H6 s6 r6 => q v H6 Li (kb.trans (KB.of s6)) (s6 _ _ ed2) (kL.mono s6) pL r6
      refine (ev_tup (ea_cons ev_str (ea_cons (ev_f1 (f := .tie wd ps) (ev_var (i := 0) rfl h1')) (ea_cons (ev_cb (ea_cons (ev_var (i := 3) (d := .list ((shL ps qs (prs L)).1.map Fm.d)) rfl ⟨D, acc, rfl, eD, rA⟩) ea_nil) cd_tupleL) ea_nil)))).to ?_
      simp only [Fm.d, Fm.dL_map, Fm.snd]
  · -- they part here
    have hsd : sk f g = false := c
    rw [sh_diff hsd] at q
    have h11 := h1.mono s1
    have h21 := h2.mono s1
    have hd1 := s1 _ _ hd
    have hk1 := hk.mono s1
    have pair : ∀ {H' : Hp} {x y z : Option V}, Rp H' f.d v1 → Rp H' g.d v2 → EvD (tTup (tCons (tVar 0) (tCons (tVar 1) tNil))) [some v1, some v2, some (.ref d), x, y, z] H' (.tuple [f.d, g.d]) := fun r1 r2 => ev_tup (ea_cons (ev_var (i := 0) rfl r1) (ea_cons (ev_var (i := 1) rfl r2) ea_nil))
    have tail : ∀ (j : Nat) (L' : PL) (H' : Hp), KB d H H' → KT H H' → H' d = some (PD w d L') → KeysOk H' L' → posP L' f g = some j → Look L' f g → leaf (f, g) (prs L) = (.gap (j : Int), prs L') →
        tRet (tTup (tCons (tC (.str "gap")) (tCons (tPGet w (tVar 2) (tTup (tCons (tVar 0) (tCons (tVar 1) tNil)))) tNil))) { nx := fun _ H' => Q .non H', rt := Q } [some v1, some v2, some (.ref d), none, none, none] H' := by
      intro j L' H' kb kt ed kL hj lk e
      refine w_ret (d := (Fm.gap (j : Int)).d) (ev_tup (ds := [.str "gap", .int (j : Int)]) (ea_cons ev_str (ea_cons (ev_pget (i := 2) rfl (.inl ed) kL (pair (Rp.kt kt _ _ (Fm.imm_d _) h1) (Rp.kt kt _ _ (Fm.imm_d _) h2)) lk hj) ea_nil))) fun v H6 s6 r6 => ?_
      rw [e] at q
      exact q v H6 L' (kb.trans (KB.of s6)) (s6 _ _ ed) (kL.mono s6) rfl r6
    have hin : EvB (tB (tPNotIn w (tTup (tCons (tVar 0) (tCons (tVar 1) tNil))) (tVar 2))) [some v1, some v2, some (.ref d), none, none, none] H1 (!(posP L f g).isSome) := et_pnotin (i := 2) rfl (.inl hd1) hk1 (pair h11 h21) (hs.look hsd)
    have hsg := sg_pos f
    cases e : posP L f g with
    | some j =>
      rw [e] at hin
      refine w_sif hin (fun z => by cases z) fun _ H2 s2 => ?_
      have s02 := s1.trans s2
      refine tail j L H2 (KB.of s02) (KT.of s02) (s2 _ _ hd1) (hk.mono s02) e (hs.look hsd) ?_
      unfold leaf
      rw [← posP_eq, e]
    | none =>
      rw [e] at hin
      refine w_sif hin (fun _ H2 s2 => ?_) fun z => by cases z
      have s02 := s1.trans s2
      refine w_pput (i := 2) rfl (s2 _ _ hd1) (hk.mono s02) (ev_lenP (i := 2) rfl (.inl (s2 _ _ hd1)) (by omega)) (pair (h1.mono s02) (h2.mono s02)) (hs.look hsd) e (by omega) fun a H3 kb3 kt3 e3 k3 => ?_
      have hpn : posP (L ++ [(f, g, a)]) f g = some L.length := by
        rw [posP_eq] at e ⊢
        unfold prs at e ⊢
        rw [List.map_append]
        have := posQ_new (L := L.map fun x => (x.1, x.2.1)) (p := (f, g)) [] e
        simpa using this
      refine tail L.length (L ++ [(f, g, a)]) H3 ((KB.of s02).trans kb3) ((KT.of s02).trans kt3) e3 k3 hpn (hs.again hsd) ?_
      unfold leaf
      rw [← posP_eq, e]
      simp [prs]
theorem ok_common (T : Tp K mg) (n : Nat) : Df P w K mg base CX0 (n + 2) "common" ["one", "other"] (spCommon n) := by
  have D_shared := ok_shared (P := P) (w := w) (base := base) T n
  refine T.b_common.ok sc_common spCommon.len (fun fa cdv A outer s H vs Q E hr h => ?_)
  obtain ⟨v1, v2, f, g, rfl, h1, h2, cm, q⟩ := h
  refine ⟨_, (pss_cons (ps_set (i := 2) sc_common.nd rfl (by first | exact Or.inl rfl | exact Or.inr rfl) pe_dnewP) (pss_cons (ps_set (i := 3) sc_common.nd rfl (by first | exact Or.inl rfl | exact Or.inr rfl) (pe_df D_shared (hr.mono (by omega)) (by rfl) pass0 (pa_cons (pv 0) (pa_cons (pv 1) (pa_cons (pv 2) pa_nil))))) (pss_cons (ps_set (i := 4) sc_common.nd rfl (by first | exact Or.inl rfl | exact Or.inr rfl) pe_dnewK) (pss_cons (ps_set (i := 5) sc_common.nd rfl (by first | exact Or.inl rfl | exact Or.inr rfl) pe_dnewK) (pss_cons (ps_lock (ps_for PassesOwn.never rfl (pi_keysP (pv 2)) (pg_name (i := 6) sc_common.nd rfl (by first | exact Or.inl rfl | exact Or.inr rfl)) (pss_cons (ps_dput (hu_of hr) (pv 4) (pe_pget (un_of hr) (pv 2) (pv 6) (fun _ _ => rfl)) (pe_ix ix_tup (pv 6) pe_int (fun _ _ => rfl)) rfl) (pss_one (ps_dput (hu_of hr) (pv 5) (pe_pget (un_of hr) (pv 2) (pv 6) (fun _ _ => rfl)) (pe_ix ix_tup (pv 6) pe_int (fun _ _ => rfl)) rfl))))) (pss_one (ps_ret (pe_tup (pa_cons (pv 3) (pa_cons (pv 4) (pa_cons (pv 5) pa_nil))))))))))), ?_⟩
  refine w_sasg fun p hp => ?_
  have s1 : Same H (upd H p (PD w p [])) := Fx.Same.new hp
  refine w_sasg ⟨v1, rfl, v2, rfl, .ref p, rfl, v1, v2, p, f, g, [], rfl, h1.mono s1, h2.mono s1, upd_same, KeysOk.nil, cm.okf, cm.okg, cm.df, by have := cm.sf; simp; omega, cm.sh, fun vc H2 L kb2 e2 k2 p2 r2 => ?_⟩
  have s02 : Same H H2 := fun b o hb => kb2 b o (ne_of_none hb hp) (s1 _ _ hb)
  have pT : prs L = lgT f g := p2
  have hlen : L.length ≤ 6000 := by
    have h1 := sh_len f g []
    have h2 : (prs L).length = L.length := by simp [prs]
    rw [p2] at h2
    rw [show prs ([] : PL) = [] from rfl] at h2
    have := cm.sf
    simp only [List.length_nil] at h1
    omega
  have lkL : ∀ i f' g' a', L[i]? = some (f', g', a') → Look L f' g' := fun i f' g' a' e => by
    have hm : (f', g') ∈ prs L := List.mem_map.mpr ⟨_, List.mem_of_getElem? e, rfl⟩
    rcases cm.sh with ⟨a, b⟩ | ⟨_, hsd, a, b⟩
    · have all : ∀ p, p ∈ prs L → Small p := fun p hp => by
        rw [pT] at hp
        rcases sh_mem f g [] p hp with h | h
        · cases h
        · exact a p h
      exact look_small (all _ hm) all
    · have e1 : prs L = [(f, g)] := by rw [pT]; unfold lgT; rw [sh_diff hsd]; simp [leaf, posQ]
      have e2 : L.length = 1 := by
        have h1 : (prs L).length = 1 := by rw [e1]; rfl
        simpa [prs] using h1
      rw [e1] at hm
      have e3 : (f', g') = (f, g) := List.mem_singleton.mp hm
      injection e3 with e3 e4
      subst e3 e4
      have hi : i = 0 := by have := (List.getElem?_eq_some_iff.mp e).1; omega
      subst hi
      refine .inr ⟨by have := nkP_dep a b; omega, .inr ⟨a', ?_⟩⟩
      match L, e2, e with
      | [x], _, e => simp at e; rw [e]
  refine w_sdnew fun pl hpl => ?_
  have s3 : Same H2 (upd H2 pl (.dK [])) := Fx.Same.new hpl
  have e3 := s3 _ _ e2
  refine w_sdnew fun pr hpr => ?_
  have s4 : Same (upd H2 pl (.dK [])) (upd (upd H2 pl (.dK [])) pr (.dK [])) := Fx.Same.new hpr
  have hplr : pl ≠ pr := ne_of_none (upd_same (H := H2) (a := pl) (o := .dK [])) hpr
  have e4 := s4 _ _ e3
  have el4 := s4 _ _ (upd_same (H := H2) (a := pl) (o := .dK []))
  have er4 : (upd (upd H2 pl (.dK [])) pr (.dK [])) pr = some (.dK []) := upd_same
  have s24 := s3.trans s4
  have hppl : p ≠ pl := ne_of_none e2 hpl
  have hppr : p ≠ pr := ne_of_none e3 hpr
  have hplH : H pl = none := s02.free hpl
  have hprH : H pr = none := (s02.trans s3).free hpr
  have r4 := r2.mono s24
  have k4 := k2.mono s24
  have s04 := s02.trans s24
  generalize upd (upd H2 pl (.dK [])) pr (.dK []) = H4 at e4 el4 er4 r4 k4 s04 s24
  refine w_sfor_keysP (L := L) rfl e4 fun od => ?_
  have kt5 : KT H4 (upd H4 p (.frz od (PD w p L))) := KT.upd fun ts => by rw [e4]; intro z; cases z
  refine ⟨fun i σ' H' => ∃ (xl xr : List (Key × V)) (x : Option V), σ' = [some v1, some v2, some (.ref p), some vc, some (.ref pl), some (.ref pr), x] ∧ KT H4 H' ∧ (∀ b o, H b = some o → H' b = some o) ∧ H' p = some (.frz od (PD w p L)) ∧ H' pl = some (.dK xl) ∧ RpI H' (imF (fiF Prod.fst 0 ((prs L).take i))) xl ∧ H' pr = some (.dK xr) ∧ RpI H' (imF (fiF Prod.snd 0 ((prs L).take i))) xr, ?_, ?_, ?_, ?_⟩
  · exact ⟨[], [], none, rfl, kt5, fun b o hb => by rw [upd_ne (ne_of_none hb hp)]; exact s04 _ _ hb, upd_same, by rw [upd_ne (Ne.symm hppl)]; exact el4, rfl, by rw [upd_ne (Ne.symm hppr)]; exact er4, rfl⟩
  · rintro i σ' H' ⟨_, _, _, _, _, _, ez, _⟩
    exact ez
  · rintro i f' g' a' σ' H' ei ⟨xl, xr, x0, rfl, kt, old, ez, el, rl, er, rr⟩
    have kL : KeysOk H' L := k4.kt kt
    have rp : Rp H' (.tuple [f'.d, g'.d]) (.ref a') := kL.is _ (List.mem_of_getElem? ei)
    have hj := posP_get k4.nd ei
    have epr : (prs L)[i]? = some (f', g') := by unfold prs; rw [List.getElem?_map, ei]; rfl
    have hil : i < (prs L).length := (List.getElem?_eq_some_iff.mp epr).1
    have hpl2 : (prs L).length = L.length := by simp [prs]
    have tk : (prs L).take (i + 1) = (prs L).take i ++ [(f', g')] := by rw [List.take_add_one, epr]; rfl
    have hti : ((prs L).take i).length = i := by rw [List.length_take]; omega
    have key : ∀ (h : Fm × Fm → Fm), pt (fiF h 0 ((prs L).take i)) (i : Int) (h (f', g')) = fiF h 0 ((prs L).take (i + 1)) := fun h => by
      rw [tk, fiF_snoc, pt_new fun z => by have := fiF_key h _ _ _ z; omega, hti, Nat.zero_add]
    refine w_sdput (xs := xl) (k := (i : Int)) (d := f'.d) rfl el (ev_ixT (ds := [f'.d, g'.d]) (ev_var (i := 6) rfl rp) ev_int rfl) (ev_pget (i := 2) rfl (.inr ⟨od, ez⟩) kL (ev_var (i := 6) rfl rp) (lkL i f' g' a' ei) hj) ?_ fun v H5 s5 r5 => ?_
    · rw [rl.length, imF, List.length_map, fiF_len, hti]; omega
    have el5 := s5 _ _ el
    have kt6 : KT H5 (upd H5 pl (.dK (putK xl (.inl (i : Int)) v))) := KT.upd fun ts => by rw [el5]; intro z; cases z
    have rl6 := RpI.put (d := f'.d) (rl.mono s5) r5 (k := (i : Int))
    rw [putI_imF, key Prod.fst] at rl6
    have rl6 := RpI.kt kt6 (imF_imm _) rl6
    have rr6 := RpI.kt kt6 (imF_imm _) (rr.mono s5)
    have ez6 : (upd H5 pl (.dK (putK xl (.inl (i : Int)) v))) p = some (.frz od (PD w p L)) := by rw [upd_ne hppl]; exact s5 _ _ ez
    have er6 : (upd H5 pl (.dK (putK xl (.inl (i : Int)) v))) pr = some (.dK xr) := by rw [upd_ne (Ne.symm hplr)]; exact s5 _ _ er
    have el6 : (upd H5 pl (.dK (putK xl (.inl (i : Int)) v))) pl = some (.dK (putK xl (.inl (i : Int)) v)) := upd_same
    have old6 : ∀ b o, H b = some o → (upd H5 pl (.dK (putK xl (.inl (i : Int)) v))) b = some o := fun b o hb => by rw [upd_ne (ne_of_none hb hplH)]; exact s5 _ _ (old b o hb)
    have ktA := (kt.trans (KT.of s5)).trans kt6
    generalize upd H5 pl (.dK (putK xl (.inl (i : Int)) v)) = H6 at kt6 rl6 rr6 ez6 er6 el6 old6 ktA
    have kL6 : KeysOk H6 L := k4.kt ktA
    have rp6 : Rp H6 (.tuple [f'.d, g'.d]) (.ref a') := kL6.is _ (List.mem_of_getElem? ei)
    refine w_dput (xs := xr) (k := (i : Int)) (d := g'.d) rfl er6 (ev_ixT (ds := [f'.d, g'.d]) (ev_var (i := 6) rfl rp6) ev_int rfl) (ev_pget (i := 2) rfl (.inr ⟨od, ez6⟩) kL6 (ev_var (i := 6) rfl rp6) (lkL i f' g' a' ei) hj) ?_ fun v' H7 s7 r7 => ?_
    · rw [rr.length, imF, List.length_map, fiF_len, hti]; omega
    have er7 := s7 _ _ er6
    have kt8 : KT H7 (upd H7 pr (.dK (putK xr (.inl (i : Int)) v'))) := KT.upd fun ts => by rw [er7]; intro z; cases z
    have rr8 := RpI.put (d := g'.d) (rr6.mono s7) r7 (k := (i : Int))
    rw [putI_imF, key Prod.snd] at rr8
    exact ⟨_, _, _, rfl, (ktA.trans (KT.of s7)).trans kt8, fun b o hb => by rw [upd_ne (ne_of_none hb hprH)]; exact s7 _ _ (old6 b o hb), by rw [upd_ne hppr]; exact s7 _ _ ez6, by rw [upd_ne hplr]; exact s7 _ _ el6, RpI.kt kt8 (imF_imm _) (rl6.mono s7), upd_same, RpI.kt kt8 (imF_imm _) rr8⟩
  · rintro σ' H' ez ⟨xl, xr, x0, rfl, kt, old, _, el, rl, er, rr⟩
    have hpl2 : (prs L).length = L.length := by simp [prs]
    rw [← hpl2, List.take_length, pT] at rl rr
    have kt9 : KT H' (upd H' p (PD w p L)) := KT.upd fun ts => by rw [ez]; intro z; cases z
    have old9 : Same H (upd H' p (PD w p L)) := fun b o hb => by rw [upd_ne (ne_of_none hb hp)]; exact old b o hb
    have rc9 : Rp (upd H' p (PD w p L)) (lgg f g).d vc := Rp.kt (kt.trans kt9) _ _ (Fm.imm_d _) r4
    have el9 : (upd H' p (PD w p L)) pl = some (.dK xl) := by rw [upd_ne (Ne.symm hppl)]; exact el
    have er9 : (upd H' p (PD w p L)) pr = some (.dK xr) := by rw [upd_ne (Ne.symm hppr)]; exact er
    have rl9 := RpI.kt kt9 (imF_imm _) rl
    have rr9 := RpI.kt kt9 (imF_imm _) rr
    refine ⟨vc, rfl, .ref pl, rfl, .ref pr, rfl, by show 3 ≤ sizeLine; decide, fun t ht => ?_⟩
    have s10 : Same (upd H' p (PD w p L)) (upd (upd H' p (PD w p L)) t (.tup [vc, .ref pl, .ref pr])) := Fx.Same.new ht
    exact q t vc pl pr xl xr _ (old9.trans s10) upd_same (rc9.mono s10) hplH hprH hplr (s10 _ _ el9) (rl9.mono s10) (s10 _ _ er9) (rr9.mono s10)
end
section
variable {P : Program} {w : World} {K : PySem.W.Frag} {mg : Str → Option Value} {base : Heap}
theorem ok_cell (T : Tp K mg) : Df P w K mg base CX0 1 "_law_cell_at" ["script", "k"] (spCell K) := by
  refine T.b__law_cell_at.ok sc__law_cell_at (fun vs H Q E h => ?_) (fun f cdv A outer s H vs Q E hr h => ?_)
  · obtain ⟨a, ns, k, rfl, _⟩ := h
    rfl
  obtain ⟨a, ns, k, rfl, hS, q⟩ := h
  refine ⟨_, (pss_cons (ps_if (pt_cmpR op_lt (pv 1) (pe_callB cr_len (by rfl) T.z_len (by decide +kernel) (pa_cons (pv 0) pa_nil)) (nomark _)) (pss_one (ps_ret (pe_ix ix_list (pv 0) (pv 1) (fun _ _ => rfl)))) pss_nil) (pss_one (ps_ret pe_int))), ?_⟩
  have hk : Rp H (.int k) (.int k) := rfl
  refine w_guard (et_test (ev_lt (ev_var (i := 1) rfl hk) (ev_lenScript (i := 0) rfl hS))) (fun c H1 s1 => ?_) (fun c H1 s1 => ?_)
  · have c' : (k : Int) < ns.length := of_decide_eq_true c
    have e : ns[k]? = some (cellAt ns k) := by
      unfold cellAt; rw [List.getD_eq_getElem?_getD, List.getElem?_eq_getElem (by omega)]; rfl
    refine w_ret (ev_ixScript (k := (k : Int)) (n := cellAt ns k) rfl (s1.seq hS) (ev_var rfl (hk.mono s1)) (atI_nat e)) fun v H2 s2 r => ?_
    cases (show v = V.int (cellAt ns k) from r)
    exact q _ (s1.trans s2)
  · have c' : ¬ (k : Int) < ns.length := of_decide_eq_false c
    refine w_ret ev_int fun v H2 s2 r => ?_
    cases (show v = V.int 0 from r)
    have e : cellAt ns k = 0 := by unfold cellAt; rw [List.getD_eq_getElem?_getD, List.getElem?_eq_none (by omega)]; rfl
    have := q _ (s1.trans s2)
    rw [e] at this
    exact this
end
section
variable {P : Program} {w : World} {K : PySem.W.Frag} {mg : Str → Option Value} {base : Heap}
theorem ok_law_filled (T : Tp K mg) : ∀ n, Df P w K mg base CX0 n "_law_filled" ["form", "filling"] (spFill n) := by
  refine T.b__law_filled.rec spFill.no fun n D__law_filled => ?_
  refine T.b__law_filled.ok sc__law_filled spFill.len (fun f cdv A outer s H vs Q E hr h => ?_)
  obtain ⟨ds, r, hR, ⟨f, m, rfl, rfl, hd, hp⟩, q⟩ := h
  obtain ⟨v1, _, rfl, h1, v2, _, rfl, h2, rfl⟩ := hR
  refine ⟨_, (pss_cons (ps_if (pt_cmpR (op_eqP (un_of hr)) (pe_ix ix_tup (pv 0) pe_int (fun _ _ => rfl)) pe_str (nomark _)) (pss_cons (ps_if (pt_cmp (pc_din (hu_of hr) (pe_ix ix_tup (pv 0) pe_int (fun _ _ => rfl)) (pv 1))) (pss_one (ps_ret (pe_dget (hu_of hr) (pv 1) (pe_ix ix_tup (pv 0) pe_int (fun _ _ => rfl)) (fun _ _ => rfl)))) pss_nil) (pss_one (ps_ret (pv 0)))) pss_nil) (pss_one (ps_ret (pe_tup (pa_cons pe_str (pa_cons (pe_ix ix_tup (pv 0) pe_int (fun _ _ => rfl)) (pa_cons (pe_callTy cr_tuple (by rfl) T.z_tuple (by decide +kernel) (pa_cons (pe_lc (own := [("part", 2)]) (g := gName 2) (by rfl) sc__law_filled.nd (pi_tup (pe_ix ix_tup (pv 0) pe_int (fun _ _ => rfl))) (blkOk_by (own := [("part", 2)]) (N := N__law_filled) (sc := defScope s__law_filled) (by decide +kernel)) (fun _ _ _ _ _ => pg_name (i := 2) sc__law_filled.nd rfl (Or.inl rfl)) (fun _ _ _ _ _ => pts_nil) (fun _ _ _ _ _ => (pe_df D__law_filled (hr.mono (by omega)) (by rfl) pass0 (pa_cons (pv 2) (pa_cons (pv 1) pa_nil))))) pa_nil)) pa_nil))))))), ?_⟩
  refine EvR.run ?_ q
  cases f with
  | gap k =>
    refine er_here (er_ifT (et_test (ev_isgap (f := .gap k) (by walk_at "ev"))) ?_)
    have e1 : EvB (tB (tDIn (tOp (rIxT K) (tVar 0) (tC (.int 1))) (tVar 1))) [some v1, some v2, none] H (look (imF m) k).isSome := et_B (ev_din (ev_f1 (f := .gap k) (by walk_at "ev")) (ev_var rfl h2))
    rw [look_imF] at e1
    cases e : lk m k with
    | none =>
      rw [e] at e1
      refine er_skip e1 (er_ret ?_)
      rw [fill, e]
      exact ev_var rfl h1
    | some g =>
      rw [e] at e1
      refine er_here (er_ifT e1 (er_ret ?_))
      rw [fill, e]
      exact ev_dget (ev_var rfl h2) (ev_f1 (f := .gap k) (ev_var rfl h1)) (by rw [look_imF, e]; rfl)
  | tie w ps =>
    refine er_skip (et_test (ev_isgap (f := .tie w ps) (by walk_at "ev"))) (er_ret ?_)
    have hps : ps.length ≤ 1000 := by
      simp only [Fm.ok, Bool.and_eq_true, decide_eq_true_eq] at hp
      omega
    have e : (fill m (.tie w ps)).d = .tuple [.str "tie", .str w, .tuple (ps.map fun f => (fill m f).d)] := by
      rw [fill, Fm.d, Fm.dL_map, fillL_map, List.map_map]; rfl
    rw [e]
    refine ev_tup (ea_cons ev_str (ea_cons (ev_f1 (f := .tie w ps) (ev_var rfl h1)) (ea_cons (ev_cb (ea_cons (ev_lc1 ps Fm.d (fun f => (fill m f).d) (ei_tup (ev_f2 (ev_var rfl h1)) Fm.immL_d).j (fun x hx v H1 s1 r1 => ?_) (fun x _ => Fm.imm_d _) hps) ea_nil) cd_tupleL) ea_nil)))
    refine ev_call (ea_cons (ev_var rfl r1) (ea_cons (ev_var rfl (h2.mono s1)) ea_nil)) (spP.d ⟨x, m, rfl, rfl, ?_, ?_⟩)
    · have := Fm.dep_part hx
      simp only [Fm.dep] at hd
      omega
    · simp only [Fm.ok, Bool.and_eq_true] at hp
      exact Fm.ok_part hp.2 hx
end
section
variable {P : Program} {w : World} {K : PySem.W.Frag} {mg : Str → Option Value} {base : Heap}
theorem ok_law_form (T : Tp K mg) : ∀ n, Df P w K mg base CX0 n "_law_form" ["spot", "many", "deep"] (spForm n) := by
  refine T.b__law_form.rec spForm.no fun n D__law_form => ?_
  refine T.b__law_form.ok sc__law_form spForm.len (fun f cdv A outer s H vs Q E hr h => ?_)
  obtain ⟨p, a, b, many, deep, rfl, hp, ha0, ha1, hm, hd1, hdn, q⟩ := h
  refine ⟨_, (pss_cons (ps_asg (pe_op op_modN (pe_op op_add (pe_op op_mul (pe_ix ix_list (pv 0) pe_int (fun _ _ => rfl)) pe_int) pe_int) pe_int) (pg_sub (pv 0) pe_int set_list)) (pss_cons (ps_set (i := 3) sc__law_form.nd rfl (by first | exact Or.inl rfl | exact Or.inr rfl) (pe_op op_fdivN (pe_ix ix_list (pv 0) pe_int (fun _ _ => rfl)) pe_int)) (pss_cons (ps_asg (pe_op op_sub (pe_ix ix_list (pv 0) pe_int (fun _ _ => rfl)) pe_int) (pg_sub (pv 0) pe_int set_list)) (pss_cons (ps_if (PW.pt (pw_and (pt_cmpR (op_eqP (un_of hr)) (pe_op op_modN (pv 3) pe_int) pe_int (nomark _)) (pw_and1 (pt_cmpR op_gt (pv 1) pe_int (nomark _))))) (pss_one (ps_ret (pe_tup (pa_cons pe_str (pa_cons (pe_op op_modN (pe_op op_fdivN (pv 3) pe_int) (pv 1)) pa_nil))))) pss_nil) (pss_cons (ps_set (i := 4) sc__law_form.nd rfl (by first | exact Or.inl rfl | exact Or.inr rfl) (pe_lst (pa_cons pe_str (pa_cons pe_str (pa_cons pe_str (pa_cons pe_str pa_nil)))))) (pss_cons (ps_set (i := 5) sc__law_form.nd rfl (by first | exact Or.inl rfl | exact Or.inr rfl) (pe_op op_modN (pe_op op_fdivN (pv 3) pe_int) pe_int)) (pss_cons (ps_if (PW.pt (pw_or (pt_cmpR op_lt (pv 2) pe_int (nomark _)) (pw_or1 (pt_cmpR op_lt (pe_ix ix_list (pv 0) pe_int (fun _ _ => rfl)) pe_int (nomark _))))) (pss_one (ps_ret (pe_tup (pa_cons pe_str (pa_cons (pe_ix ix_list (pv 4) (pe_op op_modN (pe_op op_fdivN (pv 3) pe_int) pe_int) (fun _ _ => rfl)) (pa_cons (pe_tup pa_nil) pa_nil)))))) pss_nil) (pss_cons (ps_set (i := 6) sc__law_form.nd rfl (by first | exact Or.inl rfl | exact Or.inr rfl) (pe_lst pa_nil)) (pss_cons (ps_for PassesOwn.never rfl (pi_range1 (by rfl) T.z_range (pa_cons (pv 5) pa_nil)) (pg_name (i := 7) sc__law_form.nd rfl (by first | exact Or.inl rfl | exact Or.inr rfl)) (pss_one (ps_expr (pe_bm PySem.F.plainAttrs_list PySem.F.slot_list_append PySem.F.type_list_append mt_append (pv 6) (pa_cons (pe_df D__law_form (hr.mono (by omega)) (by rfl) pass0 (pa_cons (pv 0) (pa_cons (pv 1) (pa_cons (pe_op op_sub (pv 2) pe_int) pa_nil)))) pa_nil))))) (pss_one (ps_ret (pe_tup (pa_cons pe_str (pa_cons (pe_ix ix_list (pv 4) (pe_op op_modN (pe_op op_fdivN (pv 3) pe_int) pe_int) (fun _ _ => rfl)) (pa_cons (pe_callTy cr_tuple (by rfl) T.z_tuple (by decide +kernel) (pa_cons (pv 6) pa_nil)) pa_nil))))))))))))))), ?_⟩
  have hM : Rp H (.int many) (.int many) := rfl
  have hD : Rp H (.int deep) (.int deep) := rfl
  have hL : Rp H (.list [.int a, .int b]) (.ref p) := ⟨p, _, rfl, hp, .cons rfl (.cons rfl .nil)⟩
  refine w_ssetL (a := p) (j := 0) rfl hp (ev_mod (ev_add (ev_mul (ev_ixL (ev_var (i := 0) rfl hL) ev_int rfl) ev_int (.inl ⟨by omega, by omega⟩)) ev_int) ev_int (by decide)) rfl fun v H1 s1 r1 => ?_
  cases (show v = V.int ((a * 48271 + 29) % 2147483647) from r1)
  have ha1 : 0 ≤ (a * 48271 + 29) % 2147483647 := Int.emod_nonneg _ (by decide)
  have ha2 : (a * 48271 + 29) % 2147483647 < 2147483647 := Int.emod_lt_of_pos _ (by decide)
  generalize (a * 48271 + 29) % 2147483647 = a1 at ha1 ha2
  show tSeq _ _ _ _ (upd H1 p (.lst [.int a1, .int b]))
  have k2 : KB p H (upd H1 p (.lst [.int a1, .int b])) := (KB.of s1).trans KB.upd
  have e2 : (upd H1 p (.lst [.int a1, .int b])) p = some (.lst [.int a1, .int b]) := upd_same
  generalize upd H1 p (.lst [.int a1, .int b]) = H2 at k2 e2
  have hL2 : Rp H2 (.list [.int a1, .int b]) (.ref p) := ⟨p, _, rfl, e2, .cons rfl (.cons rfl .nil)⟩
  -- number
  refine w_sset (ev_div (ev_ixL (ev_var (i := 0) rfl hL2) ev_int rfl) ev_int (by decide)) fun v H3 s3 r3 => ?_
  cases (show v = V.int (a1 / 7) from r3)
  have hn0 : 0 ≤ a1 / 7 := by omega
  have hn1 : a1 / 7 < 2147483647 := by omega
  generalize a1 / 7 = num at hn0 hn1
  have hN : ∀ H, Rp H (.int num) (.int num) := fun _ => rfl
  have e3 := s3 _ _ e2
  have hL3 : Rp H3 (.list [.int a1, .int b]) (.ref p) := ⟨p, _, rfl, e3, .cons rfl (.cons rfl .nil)⟩
  -- spot[1]
  refine w_ssetL (a := p) (j := 1) rfl e3 (ev_sub (ev_ixL (ev_var (i := 0) rfl hL3) ev_int rfl) ev_int) rfl fun v H4 s4 r4 => ?_
  cases (show v = V.int (b - 1) from r4)
  show tSeq _ _ _ _ (upd H4 p (.lst [.int a1, .int (b - 1)]))
  have k5 : KB p H (upd H4 p (.lst [.int a1, .int (b - 1)])) := ((k2.trans (KB.of s3)).trans (KB.of s4)).trans KB.upd
  have e5 : (upd H4 p (.lst [.int a1, .int (b - 1)])) p = some (.lst [.int a1, .int (b - 1)]) := upd_same
  generalize upd H4 p (.lst [.int a1, .int (b - 1)]) = H5 at k5 e5
  -- a gap
  refine w_guard (et_and (et_test (ev_eq (ev_mod (ev_var (i := 3) rfl (hN H5)) ev_int (by decide)) ev_int (okD_int _) (okD_int _))) fun _ => et_test (ev_gt (ev_var (i := 1) (d := .int many) rfl rfl) ev_int)) (fun c H6 s6 => ?_) (fun c H6 s6 => ?_)
  · rw [Bool.and_eq_true, decide_eq_true_eq] at c
    have hm0 : 0 < many := c.2
    refine w_ret (d := (Fm.gap (num / 3 % many)).d) (ev_tup (ea_cons ev_str (ea_cons (ev_mod (ev_div (ev_var (i := 3) rfl (hN _)) ev_int (by decide)) (ev_var (i := 1) (d := .int many) rfl rfl) hm0) ea_nil))) fun v H7 s7 r7 => ?_
    have hs := s6.trans s7
    refine q (.gap _) v H7 a1 (k5.trans (KB.of hs)) (hs _ _ e5) ha1 ha2 r7 ?_ ?_ ?_ ?_
    · simp only [Fm.gd, Bool.and_eq_true, decide_eq_true_eq]
      exact ⟨Int.emod_nonneg _ (by omega), Int.emod_lt_of_pos _ hm0⟩
    · simp only [Fm.dep]; omega
    · intro _; rfl
    · simp only [Fm.sg]; omega
  -- the words
  have hw : EvD (tLst (tCons (tC (.str "a")) (tCons (tC (.str "ab")) (tCons (tC (.str "f")) (tCons (tC (.str "fg")) tNil))))) (L2.start N__law_form [V.ref p, V.int many, V.int deep] |>.set 3 (some (.int num))) H6 (.list (wordsL.map PyData.str)) := ev_lst (ea_cons ev_str (ea_cons ev_str (ea_cons ev_str (ea_cons ev_str ea_nil)))) (by decide)
  refine w_sset hw fun vw H7 s7 r7 => ?_
  obtain ⟨z, ws, rfl, ez, rz⟩ := r7
  cases (RpL.strs_inv rz)
  have zp : z ≠ p := ne_of ez (s7 _ _ (s6 _ _ e5)) (fun e => by injection e with e; injection e with e1 e2; cases e1)
  have hw7 : Rp H7 (.list (wordsL.map PyData.str)) (.ref z) := ⟨z, _, rfl, ez, RpL.strs _⟩
  refine w_sset (ev_mod (ev_div (ev_var (i := 3) rfl (hN _)) ev_int (by decide)) ev_int (by decide)) fun v H8 s8 r8 => ?_
  cases (show v = V.int (num / 3 % 5) from r8)
  have hz0 : 0 ≤ num / 3 % 5 := Int.emod_nonneg _ (by decide)
  have hz1 : num / 3 % 5 < 5 := Int.emod_lt_of_pos _ (by decide)
  generalize num / 3 % 5 = size at hz0 hz1
  have s58 := (s6.trans s7).trans s8
  have e8 := s58 _ _ e5
  have hL8 : Rp H8 (.list [.int a1, .int (b - 1)]) (.ref p) := ⟨p, _, rfl, e8, .cons rfl (.cons rfl .nil)⟩
  have hw8 := hw7.mono s8
  have word : ∀ j : Int, 0 ≤ j → j < 4 → ∃ x, x ∈ wordsL ∧ atI (wordsL.map PyData.str) j = some (.str x) := by
    intro j j0 j1
    have : j = 0 ∨ j = 1 ∨ j = 2 ∨ j = 3 := by omega
    rcases this with rfl | rfl | rfl | rfl
    · exact ⟨"a", by simp [wordsL], rfl⟩
    · exact ⟨"ab", by simp [wordsL], rfl⟩
    · exact ⟨"f", by simp [wordsL], rfl⟩
    · exact ⟨"fg", by simp [wordsL], rfl⟩
  refine w_guard (et_or (et_test (ev_lt (ev_var (i := 2) (d := .int deep) rfl rfl) ev_int)) fun _ => et_test (ev_lt (ev_ixL (ev_var (i := 0) rfl hL8) ev_int rfl) ev_int)) (fun c H9 s9 => ?_) (fun c H9 s9 => ?_)
  · have j0 : 0 ≤ num / 15 % 2 := Int.emod_nonneg _ (by decide)
    have j1 : num / 15 % 2 < 2 := Int.emod_lt_of_pos _ (by decide)
    obtain ⟨x, hx, hx'⟩ := word (num / 15 % 2) j0 (by omega)
    refine w_ret (d := (Fm.tie x []).d) (ev_tup (ea_cons ev_str (ea_cons (ev_ixL (ev_var (i := 4) rfl (hw8.mono s9)) (ev_mod (ev_div (ev_var (i := 3) rfl (hN _)) ev_int (by decide)) ev_int (by decide)) hx') (ea_cons (ev_tup ea_nil (Nat.zero_le _)) ea_nil)))) fun v H10 s10 r10 => ?_
    have hs := s9.trans s10
    refine q (.tie x []) v H10 a1 (k5.trans (KB.of (s58.trans hs))) (hs _ _ e8) ha1 ha2 r10 ?_ ?_ ?_ ?_
    · simp only [Fm.gd, Fm.gdL, Bool.and_eq_true, decide_eq_true_eq]
      exact ⟨⟨hx, by simp⟩, trivial⟩
    · simp only [Fm.dep, Fm.depL]; omega
    · intro _; rfl
    · simp only [Fm.sg, Fm.sgL]; omega
  rw [Bool.or_eq_false_iff, decide_eq_false_iff_not, decide_eq_false_iff_not] at c
  obtain ⟨c1, c2⟩ := c
  have e9 := s9 _ _ e8
  -- the parts
  refine w_slnew fun g hg => ?_
  have zg : z ≠ g := ne_of_none (s9 _ _ (s8 _ _ ez)) hg
  have gp : g ≠ p := (ne_of_none e9 hg).symm
  have hK0 : KB p H (upd H9 g (.lst [])) := (k5.trans (KB.of (s58.trans s9))).trans (KB.of (Fx.Same.new hg))
  have hg' : ∀ H', KB p H H' → H' g = none → H g = none := fun H' k z => by
    by_cases hb : g = p
    · exact absurd hb gp
    · cases y : H g with
      | none => rfl
      | some o => rw [k g o hb y] at z; cases z
  have hgH : H g = none := by
    cases y : H g with
    | none => rfl
    | some o => rw [((k5.trans (KB.of (s58.trans s9))) g o gp y)] at hg; cases hg
  have hsz : (size.toNat : Int) = size := by omega
  refine w_sfor (ei_range1 (n := size.toNat) (ev_var (i := 5) rfl (show Rp _ (.int size.toNat) (.int size) by rw [hsz]; rfl)) (by omega)) fun H10 s10 => ?_
  refine ⟨fun i σ' H' => ∃ (fs : List Fm) (vs : List V) (a' : Int) (x7 : Option V), σ' = [some (.ref p), some (.int many), some (.int deep), some (.int num), some (.ref z), some (.int size), some (.ref g), x7] ∧
      i ≤ size.toNat ∧ fs.length = i ∧ KB p H H' ∧ H' g = some (.lst vs) ∧ RpL H' (fs.map Fm.d) vs ∧ H' p = some (.lst [.int a', .int (b - 1 - Fm.sgL fs)]) ∧ 0 ≤ a' ∧ a' < 2147483647 ∧ H' z = some (.lst (wordsL.map V.str)) ∧
      (∀ f, f ∈ fs → f.gd many = true ∧ f.dep ≤ deep - 1) ∧ (Fm.sgL fs : Int) ≤ (b - 1 - 4) + 4 * (deep - 2) + i, ?_, ?_, ?_⟩
  · refine ⟨[], [], a1, none, rfl, Nat.zero_le _, rfl, hK0.trans (KB.of s10), s10 _ _ upd_same, rfl, ?_, ha1, ha2, ?_, (fun _ h => nomatch h), ?_⟩
    · rw [show (b - 1 - (Fm.sgL [] : Nat) : Int) = b - 1 by simp [Fm.sgL]]
      exact s10 _ _ (by rw [upd_ne gp.symm]; exact e9)
    · exact s10 _ _ (Fx.Same.new hg _ _ (s9 _ _ (s8 _ _ ez)))
    · simp only [Fm.sgL]; omega
  · rintro i d x σ' H' H2' ed kt ⟨fs, vs, a', x7, rfl, hi, hl, kk, eg, rg, ep, a0, a1', rw', hfs, hsum⟩ sx rx
    have hi' : i < size.toNat := by
      have := (List.getElem?_eq_some_iff.mp ed).1
      simpa using this
    refine ⟨.ref g, rfl, .inl ⟨rfl, vs, .of (sx _ _ eg)⟩, ?_⟩
    -- the call
    have hD1 : (deep : Int) - 1 = ((deep - 1 : Nat) : Int) := by omega
    refine ⟨.ref p, rfl, .int many, rfl, ev_sub (ev_var (i := 2) (d := .int deep) rfl rfl) ev_int H2' (Same.refl _) _ fun v H3' s3' r3' => ?_⟩
    cases (show v = V.int (deep - 1) from r3')
    refine ⟨p, a', b - 1 - Fm.sgL fs, many, deep - 1, by rw [hD1]; rfl, s3' _ _ (sx _ _ ep), a0, a1', hm, by omega, by omega, fun f v H4' a'' k4 e4 a0' a1'' r4 gd4 dp4 lf4 sg4 => ?_⟩
    have ss := sx.trans s3'
    have g4 : H4' g = some (.lst vs) := k4 _ _ gp (ss _ _ eg)
    have kt4 : KT H3' H4' := k4.kt fun ys => by rw [ss _ _ ep]; intro z; cases z
    have rg4 : RpL H4' (fs.map Fm.d) vs := RpL.kt kt4 _ _ Fm.immL_d (rg.mono ss)
    have hsz4 : vs.length < sizeLine := by
      rw [rg.length, List.length_map]
      exact Nat.lt_of_le_of_lt (show fs.length ≤ 10 by omega) (by decide)
    refine ⟨g, vs, v, rfl, rfl, g4, hsz4, ?_, fs ++ [f], vs ++ [v], a'', some x, rfl, by omega, by simp [hl], ?_, upd_same, ?_, ?_, a0', a1'', ?_, ?_, ?_⟩
    · exact ((kt.trans (KT.of ss)).trans kt4).trans (KT.upd fun ys => by rw [g4]; intro z; cases z)
    · exact ((kk.trans (KB.of ss)).trans k4).put hgH
    · have kt5 : KT H4' (upd H4' g (.lst (vs ++ [v]))) := KT.upd fun ys => by rw [g4]; intro z; cases z
      rw [List.map_append]
      exact RpL.kt kt5 _ _ (by rw [← List.map_append]; exact Fm.immL_d) (rg4.snoc r4)
    · rw [upd_ne gp.symm, e4, Fm.sgL_append]
      simp only [Fm.sgL]
      congr 5
      omega
    · rw [upd_ne zg]
      exact k4 _ _ zp (ss _ _ rw')
    · intro y hy
      rcases List.mem_append.mp hy with hy | hy
      · exact hfs y hy
      · rw [List.mem_singleton.mp hy]; exact ⟨gd4, dp4⟩
    · rw [Fm.sgL_append]
      simp only [Fm.sgL]
      by_cases h5 : b - 1 - (Fm.sgL fs : Int) < 5
      · have := lf4 h5
        omega
      · omega
  · rintro σ' H' kt ⟨fs, vs, a', x7, rfl, hi, hl, kk, eg, rg, ep, a0, a1', rw', hfs, hsum⟩
    have hl' : fs.length = size.toNat := by simpa using hl
    have j0 : 0 ≤ num / 15 % 4 := Int.emod_nonneg _ (by decide)
    have j1 : num / 15 % 4 < 4 := Int.emod_lt_of_pos _ (by decide)
    obtain ⟨x, hx, hx'⟩ := word (num / 15 % 4) j0 j1
    have ht : Rp H' (.list (fs.map Fm.d)) (.ref g) := ⟨g, vs, rfl, eg, rg⟩
    have hwz : Rp H' (.list (wordsL.map PyData.str)) (.ref z) := ⟨z, _, rfl, rw', RpL.strs _⟩
    have e : (Fm.tie x fs).d = .tuple [.str "tie", .str x, .tuple (fs.map Fm.d)] := by rw [Fm.d, Fm.dL_map]
    refine w_ret (d := (Fm.tie x fs).d) (by rw [e]; exact (ev_tup (ea_cons ev_str (ea_cons (ev_ixL (ev_var (i := 4) rfl hwz) (ev_mod (ev_div (ev_var (i := 3) rfl (hN _)) ev_int (by decide)) ev_int (by decide)) hx') (ea_cons (ev_cb (ea_cons (ev_var (i := 6) rfl ht) ea_nil) cd_tupleL) ea_nil))))) fun v H11 s11 r11 => ?_
    refine q (.tie x fs) v H11 a' (kk.trans (KB.of s11)) ?_ a0 a1' r11 ?_ ?_ ?_ ?_
    · rw [s11 _ _ ep]
      simp only [Fm.sg]
      congr 5
      omega
    · simp only [Fm.gd, Bool.and_eq_true, decide_eq_true_eq]
      exact ⟨⟨hx, by omega⟩, Fm.gdL_of fun f hf => (hfs f hf).1⟩
    · simp only [Fm.dep]
      have := Fm.depL_le (n := deep - 1) fun f hf => (hfs f hf).2
      omega
    · intro h5; omega
    · simp only [Fm.sg]; omega
end
section
variable {P : Program} {w : World} {K : PySem.W.Frag} {mg : Str → Option Value} {base : Heap}
theorem ok_law_drawn (T : Tp K mg) (n : Nat) : Df P w K mg base CX0 (n + 1) "_law_drawn" ["cell", "many", "deep"] (spDrawn n) := by
  have D__law_form := ok_law_form (P := P) (w := w) (base := base) T n
  refine T.b__law_drawn.ok sc__law_drawn (fun vs H Q E h => ?_) (fun f cdv A outer s H vs Q E hr h => ?_)
  · obtain ⟨c, many, deep, rfl, _⟩ := h
    rfl
  obtain ⟨c, many, deep, rfl, hm, h1, hn, q⟩ := h
  refine ⟨_, (pss_one (ps_ret (pe_df D__law_form (hr.mono (by omega)) (by rfl) pass0 (pa_cons (pe_lst (pa_cons (pe_op op_modN (pv 0) pe_int) (pa_cons pe_int pa_nil))) (pa_cons (pv 1) (pa_cons (pv 2) pa_nil)))))), ?_⟩
  have hc : Rp H (.int c) (.int c) := rfl
  have e1 : EvD (tOp (rI (fun _ j => j ≠ 0) fun i j => .int (i.fmod j)) (tVar 0) (tC (.int 2147483647))) [some (.int c), some (.int many), some (.int deep)] H (.int (c % 2147483647)) := ev_mod (ev_var rfl hc) ev_int (by decide)
  refine e1 H (Same.refl _) _ fun v H1 s1 r1 => ?_
  cases (show v = V.int (c % 2147483647) from r1)
  refine ⟨by show 2 ≤ sizeLine; decide, fun p hp => ?_⟩
  refine ⟨.int many, rfl, .int deep, rfl, ?_⟩
  refine ⟨p, c % 2147483647, 24, many, deep, rfl, upd_same, Int.emod_nonneg _ (by decide), Int.emod_lt_of_pos _ (by decide), hm, h1, hn, fun f v H' a' k e _ _ r gd dp _ sg => ?_⟩
  refine q f v H' ?_ r gd dp (by omega)
  exact fun b o hb => k b o (ne_of_none (s1 _ _ hb) hp) (Fx.Same.new hp _ _ (s1 _ _ hb))
end
section
variable {P : Program} {w : World} {K : PySem.W.Frag} {mg : Str → Option Value} {base : Heap}
theorem ok_law_filling (T : Tp K mg) (n : Nat) : Df P w K mg base CX0 (n + 2) "_law_filling" ["cell", "numbers", "many", "deep"] (spFilling n) := by
  have D__law_drawn := ok_law_drawn (P := P) (w := w) (base := base) T n
  refine T.b__law_filling.ok sc__law_filling (fun vs H Q E h => ?_) (fun f cdv A outer s H vs Q E hr h => ?_)
  · obtain ⟨c, many, ns, q, deep, rfl, _⟩ := h
    rfl
  obtain ⟨c, many, ns, a, deep, rfl, ha, hnd, hlen, hm, h1, hn, q⟩ := h
  refine ⟨_, (pss_cons (ps_set (i := 4) sc__law_filling.nd rfl (by first | exact Or.inl rfl | exact Or.inr rfl) pe_dnewK) (pss_cons (ps_for PassesOwn.never rfl (pi_list (pv 1)) (pg_name (i := 5) sc__law_filling.nd rfl (by first | exact Or.inl rfl | exact Or.inr rfl)) (pss_cons (ps_set (i := 0) sc__law_filling.nd rfl (by first | exact Or.inl rfl | exact Or.inr rfl) (pe_op op_modN (pe_op op_add (pe_op op_mul (pv 0) pe_int) pe_int) pe_int)) (pss_one (ps_if (pt_cmpR op_gt (pe_op op_modN (pe_op op_fdivN (pv 0) pe_int) pe_int) pe_int (nomark _)) (pss_one (ps_dput (hu_of hr) (pv 4) (pv 5) (pe_df D__law_drawn (hr.mono (by omega)) (by rfl) pass0 (pa_cons (pe_op op_fdivN (pv 0) pe_int) (pa_cons (pv 2) (pa_cons (pv 3) pa_nil)))) rfl)) pss_nil)))) (pss_one (ps_ret (pv 4))))), ?_⟩
  refine w_sdnew fun p hp => ?_
  have hs0 : Same H (upd H p (.dK [])) := Fx.Same.new hp
  have hap : a ≠ p := ne_of_none ha hp
  refine w_sfor_list (ds := ns.map PyData.int) (ev_var (i := 1) rfl (show Rp _ (.list _) (.ref a) from ⟨a, _, rfl, hs0 _ _ ha, RpL.ints ns⟩)) fun H1 b xs s1 hb hxs => ?_
  have hxs' := RpL.ints_inv hxs
  subst hxs'
  have hbp : b ≠ p := ne_of hb (s1 _ _ upd_same) (by simp)
  refine ⟨fun i σ' H' => ∃ (c' : Int) (m : FI) (xs : List (Key × V)) (x5 : Option V), σ' = [some (.int c'), some (.ref a), some (.int many), some (.int deep), some (.ref p), x5] ∧ Same H H' ∧ H' b = some (.lst (ns.map V.int)) ∧ H' p = some (.dK xs) ∧ RpI H' (imF m) xs ∧ Drawn m (ns.take i) many deep, ?_, ?_, ?_, ?_⟩
  · exact ⟨c, [], [], none, rfl, hs0.trans s1, hb, s1 _ _ upd_same, rfl, by simp [Drawn]⟩
  · rintro i σ' H' ⟨c', m, xs, x5, rfl, _, hb', _⟩
    exact hb'
  · rintro i d x σ' H' ed ex ⟨c', m, xs, x5, rfl, sH, hb', hp', rm, dm⟩
    have hi : i < ns.length := by
      have := (List.getElem?_eq_some_iff.mp ed).1
      simpa using this
    obtain ⟨k, ek, rfl⟩ : ∃ k, ns[i]? = some k ∧ x = .int k := by
      rw [List.getElem?_map] at ex
      obtain ⟨k, e1, e2⟩ := Option.map_eq_some_iff.mp ex
      exact ⟨k, e1, e2.symm⟩
    have tk : ns.take (i + 1) = ns.take i ++ [k] := by rw [List.take_add_one, ek]; rfl
    have sub0 : (m.map (·.1)).Sublist (ns.take (i + 1)) := by rw [tk]; exact dm.1.trans (List.sublist_append_left _ _)
    refine w_sset (ev_mod (ev_add (ev_mul (ev_var (i := 0) (d := .int c') rfl rfl) ev_int (.inr ⟨by decide, by decide⟩)) ev_int) ev_int (by decide)) fun v H2 s2 r2 => ?_
    cases (show v = V.int ((c' * 48271 + 17) % 2147483647) from r2)
    generalize (c' * 48271 + 17) % 2147483647 = c2
    refine w_if (et_test (ev_gt (ev_mod (ev_div (ev_var (i := 0) (d := .int c2) rfl rfl) ev_int (by decide)) ev_int (by decide)) ev_int)) (fun _ H3 s3 => ?_) (fun _ H3 s3 => ?_)
    · refine ev_div (i := c2) (j := 20) (ev_var (i := 0) rfl rfl) ev_int (by decide) H3 (Same.refl _) _ fun v H4 s4 r4 => ?_
      cases (show v = V.int (c2 / 20) from r4)
      refine ⟨.int many, rfl, .int deep, rfl, ?_⟩
      refine ⟨c2 / 20, many, deep, rfl, hm, h1, hn, fun f v H5 s5 r5 gd dp sg => ?_⟩
      have s25 := ((s2.trans s3).trans s4).trans s5
      refine ⟨.ref p, rfl, .int k, rfl, p, _, rfl, .inl ⟨xs, .inl k, s25 _ _ hp', rfl, ?_, rfl⟩, ?_⟩
      · rw [rm.length, imF, List.length_map]
        have := dm.1.length_le
        rw [List.length_map, List.length_take] at this
        exact Nat.lt_of_le_of_lt (show m.length ≤ 100 by omega) (by decide)
      · have hk : ¬ k ∈ m.map (·.1) := fun hk => by
          have h1 := dm.1.subset hk
          have h2 : (ns.take (i + 1)).Nodup := hnd.sublist (List.take_sublist _ _)
          rw [tk] at h2
          exact (List.nodup_append.mp h2).2.2 k h1 k (by simp) rfl
        refine ⟨c2, pt m k f, putK xs (.inl k) v, _, rfl, ?_, ?_, upd_same, ?_, ?_, ?_⟩
        · exact Fx.Same.put (sH.trans s25) hp
        · rw [upd_ne hbp]; exact s25 _ _ hb'
        · rw [← putI_imF]
          refine RpI.kt (KT.upd fun ys => by rw [s25 _ _ hp']; intro z; cases z) ?_ (RpI.put (rm.mono s25) r5)
          rw [putI_imF]
          exact imF_imm _
        · rw [pt_new hk, List.map_append, tk]
          exact dm.1.append (List.Sublist.refl _)
        · rw [pt_new hk]
          intro y hy
          rcases List.mem_append.mp hy with hy | hy
          · exact dm.2 y hy
          · rw [List.mem_singleton.mp hy]; exact ⟨gd, dp, sg⟩
    · exact ⟨c2, m, xs, _, rfl, sH.trans (s2.trans s3), (s2.trans s3) _ _ hb', (s2.trans s3) _ _ hp', rm.mono (s2.trans s3), sub0, dm.2⟩
  · rintro σ' H' ⟨c', m, xs, x5, rfl, sH, hb', hp', rm, dm⟩
    refine ⟨.ref p, rfl, ?_⟩
    rw [List.length_map, List.take_length] at dm
    exact q m p xs H' sH hp hp' rm dm
end
section
variable {P : Program} {w : World} {K : PySem.W.Frag} {mg : Str → Option Value} {base : Heap}
theorem ok_law_whole (T : Tp K mg) : Df P w K mg base CX0 1 "_law_whole" ["found"] spWhole := by
  refine T.b__law_whole.ok sc__law_whole spWhole.len (fun f cdv A outer s H vs Q E hr h => ?_)
  obtain ⟨ds, r, hR, ⟨d, rfl, rfl⟩, q⟩ := h
  obtain ⟨v1, _, rfl, h1, rfl⟩ := hR
  refine ⟨_, (pss_one (ps_ret (pe_and (pe_callB call_isi (by rfl) T.z_isinstance (by decide +kernel) (pa_cons (pv 0) (pa_cons (pe_bltn (v := .ty "int") (by rfl) T.z_int (by decide +kernel) rfl) pa_nil))) (pe_one (pe_not (pe_callB call_isi (by rfl) T.z_isinstance (by decide +kernel) (pa_cons (pv 0) (pa_cons (pe_bltn (v := .ty "bool") (by rfl) T.z_bool (by decide +kernel) rfl) pa_nil)))))))), ?_⟩
  refine EvR.run (d := .bool (isWhole d)) (er_ret ?_) q
  refine (ev_and (ev_isi (ev_var rfl h1)) fun _ => ev_not (ev_isi (ev_var rfl h1))).to ?_
  refine congrArg PyData.bool ?_
  cases d <;> (simp only [tyN, isWhole]; decide)
end
section
variable {P : Program} {w : World} {K : PySem.W.Frag} {mg : Str → Option Value} {base : Heap}
theorem ok_law_is_form (T : Tp K mg) : ∀ n, Df P w K mg base CX0 (n + 1) "_law_is_form" ["form"] (spIsForm n) := by
  refine T.b__law_is_form.recK 1 spIsForm.no fun n D__law_is_form => ?_
  have D__law_whole := ok_law_whole (P := P) (w := w) (base := base) T
  refine T.b__law_is_form.ok sc__law_is_form spIsForm.len (fun f cdv A outer s H vs Q E hr h => ?_)
  obtain ⟨ds, r, hR, ⟨f, rfl, rfl, hd, hp⟩, q⟩ := h
  obtain ⟨v1, _, rfl, h1, rfl⟩ := hR
  refine ⟨_, (pss_cons (ps_if (PW.pt (pw_or (pt_not (pt_val (pe_callB call_isi (by rfl) T.z_isinstance (by decide +kernel) (pa_cons (pv 0) (pa_cons (pe_bltn (v := .ty "tuple") (by rfl) T.z_tuple (by decide +kernel) rfl) pa_nil))))) (pw_or (pt_cmpR op_lt (pe_callB cr_len (by rfl) T.z_len (by decide +kernel) (pa_cons (pv 0) pa_nil)) pe_int (nomark _)) (pw_or1 (pt_not (pt_val (pe_callB call_isi (by rfl) T.z_isinstance (by decide +kernel) (pa_cons (pe_ix ix_tup (pv 0) pe_int (fun _ _ => rfl)) (pa_cons (pe_bltn (v := .ty "str") (by rfl) T.z_str (by decide +kernel) rfl) pa_nil))))))))) (pss_one (ps_ret pe_bl)) pss_nil) (pss_cons (ps_if (pt_cmpR (op_eqP (un_of hr)) (pe_ix ix_tup (pv 0) pe_int (fun _ _ => rfl)) pe_str (nomark _)) (pss_one (ps_ret (pe_and (pe_cmpR (op_eqP (un_of hr)) (pe_callB cr_len (by rfl) T.z_len (by decide +kernel) (pa_cons (pv 0) pa_nil)) pe_int (nomark _)) (pe_one (pe_df D__law_whole (hr.mono (by omega)) (by rfl) pass0 (pa_cons (pe_ix ix_tup (pv 0) pe_int (fun _ _ => rfl)) pa_nil)))))) pss_nil) (pss_cons (ps_if (PW.pt (pw_or (pt_cmpR (op_neP (un_of hr)) (pe_ix ix_tup (pv 0) pe_int (fun _ _ => rfl)) pe_str (nomark _)) (pw_or (pt_cmpR (op_neP (un_of hr)) (pe_callB cr_len (by rfl) T.z_len (by decide +kernel) (pa_cons (pv 0) pa_nil)) pe_int (nomark _)) (pw_or (pt_not (pt_val (pe_callB call_isi (by rfl) T.z_isinstance (by decide +kernel) (pa_cons (pe_ix ix_tup (pv 0) pe_int (fun _ _ => rfl)) (pa_cons (pe_bltn (v := .ty "str") (by rfl) T.z_str (by decide +kernel) rfl) pa_nil))))) (pw_or1 (pt_not (pt_val (pe_callB call_isi (by rfl) T.z_isinstance (by decide +kernel) (pa_cons (pe_ix ix_tup (pv 0) pe_int (fun _ _ => rfl)) (pa_cons (pe_bltn (v := .ty "tuple") (by rfl) T.z_tuple (by decide +kernel) rfl) pa_nil)))))))))) (pss_one (ps_ret pe_bl)) pss_nil) (pss_one (ps_ret (pe_cmpR (op_eqP (un_of hr)) (pe_callB cr_len (by rfl) T.z_len (by decide +kernel) (pa_cons (pe_lc (own := [("part", 1)]) (g := gName 1) (by rfl) sc__law_is_form.nd (pi_tup (pe_ix ix_tup (pv 0) pe_int (fun _ _ => rfl))) (blkOk_by (own := [("part", 1)]) (N := N__law_is_form) (sc := defScope s__law_is_form) (by decide +kernel)) (fun _ _ _ _ _ => pg_name (i := 1) sc__law_is_form.nd rfl (Or.inl rfl)) (fun _ _ _ _ _ => pts_one (pt_not (pt_val (pe_df D__law_is_form (hr.mono (by omega)) (by rfl) pass0 (pa_cons (pv 1) pa_nil))))) (fun _ _ _ _ _ => (pv 1))) pa_nil)) pe_int (nomark _))))))), ?_⟩
  refine EvR.run (d := .bool true) ?_ q
  have len2 : 2 ≤ f.arity := by cases f <;> simp [Fm.arity]
  refine er_skip ((et_or (et_not (et_B (ev_isi (ev_var rfl h1)))) fun _ => et_or (et_test (ev_lt (ev_cb (ea_cons (ev_var rfl h1) ea_nil) cd_lenF) ev_int)) fun _ => et_not (et_B (ev_isi (ev_f0 (ev_var rfl h1))))).to ?_) ?_
  · rw [Fm.tyN]
    cases f <;> rfl
  cases f with
  | gap k =>
    refine er_here (er_ifT (et_test (ev_isgap (f := .gap k) (ev_f0 (ev_var rfl h1)))) (er_ret ?_))
    exact (ev_and (ev_eq (ev_cb (ea_cons (ev_var rfl h1) ea_nil) (cd_lenF (f := .gap k))) ev_int (okD_int _) (okD_int _)) fun _ => ev_call (ea_cons (ev_f1 (f := .gap k) (ev_var rfl h1)) ea_nil) (spP.d ⟨_, rfl, rfl⟩)).to rfl
  | tie w ps =>
    refine er_skip (et_test (ev_isgap (f := .tie w ps) (ev_f0 (ev_var rfl h1)))) ?_
    have h2 := ev_f1 (K := K) (f := .tie w ps) (ev_var (i := 0) (σ := [some v1, none]) rfl h1)
    have h3 := ev_f2 (K := K) (ev_var (i := 0) (σ := [some v1, none]) rfl h1)
    have hps : ps.length ≤ 1000 := by
      simp only [Fm.ok, Bool.and_eq_true, decide_eq_true_eq] at hp
      omega
    refine er_skip ((et_or (et_test (ev_nottie (f := .tie w ps) (ev_f0 (ev_var rfl h1)))) fun _ => et_or (et_test (ev_ne (ev_cb (ea_cons (ev_var rfl h1) ea_nil) (cd_lenF (f := .tie w ps))) ev_int (okD_int _) (okD_int _))) fun _ => et_or (et_not (et_B (ev_isi h2))) fun _ => et_not (et_B (ev_isi h3))).to ?_) ?_
    · rfl
    refine er_ret ((ev_eq (ev_cb (ea_cons (ev_lc ps Fm.d (ei_tup h3 Fm.immL_d).j (fun _ => false) Fm.d (fun x hx v H1 s1 r1 => ⟨?_, fun z => by cases z⟩) (fun x _ => Fm.imm_d _) hps) ea_nil) cd_lenL) ev_int (okD_int _) (okD_int _)).to ?_)
    · refine et_not (et_B (ev_call (d := .bool true) (ea_cons (ev_var rfl r1) ea_nil) (spP.d ⟨x, rfl, rfl, ?_, ?_⟩)))
      · have := Fm.dep_part hx
        simp only [Fm.dep] at hd
        omega
      · simp only [Fm.ok, Bool.and_eq_true] at hp
        exact Fm.ok_part hp.2 hx
    · rw [List.filter_eq_nil_iff.mpr fun _ _ => by simp]; rfl
end
section
variable {P : Program} {w : World} {K : PySem.W.Frag} {mg : Str → Option Value} {base : Heap}
theorem ok_law_is_filling (T : Tp K mg) (n : Nat) (hn : n ≤ 95) : Df P w K mg base CX0 (n + 2) "_law_is_filling" ["found", "due"] (spIsFilling n) := by
  have D__law_is_form := ok_law_is_form (P := P) (w := w) (base := base) T n
  have D__law_whole := ok_law_whole (P := P) (w := w) (base := base) T
  refine T.b__law_is_filling.ok sc__law_is_filling spIsFilling.len (fun f cdv A outer s H vs Q E hr h => ?_)
  obtain ⟨a, xs, v2, m, m', rfl, ha, rx, r2, hok, hok', hnd, he, q⟩ := h
  refine ⟨_, (pss_cons (ps_if (PW.pt (pw_or (pt_not (pt_val (pe_callB call_isi (by rfl) T.z_isinstance (by decide +kernel) (pa_cons (pv 0) (pa_cons (pe_bltn (v := .ty "dict") (by rfl) T.z_dict (by decide +kernel) rfl) pa_nil))))) (pw_or1 (pt_cmpR (op_neX (un_of hr)) (pv 0) (pv 1) (nomark _))))) (pss_one (ps_ret pe_bl)) pss_nil) (pss_cons (ps_lock (ps_for PassesOwn.never rfl (pi_keys (pv 0)) (pg_name (i := 2) sc__law_is_filling.nd rfl (by first | exact Or.inl rfl | exact Or.inr rfl)) (pss_one (ps_if (PW.pt (pw_or (pt_not (pt_val (pe_df D__law_whole (hr.mono (by omega)) (by rfl) pass0 (pa_cons (pv 2) pa_nil)))) (pw_or1 (pt_not (pt_val (pe_df D__law_is_form (hr.mono (by omega)) (by rfl) pass0 (pa_cons (pe_dget (hu_of hr) (pv 0) (pv 2) (fun _ _ => rfl)) pa_nil))))))) (pss_one (ps_ret pe_bl)) pss_nil)))) (pss_one (ps_ret pe_bl)))), ?_⟩
  have r1 : Rp H (dF m) (.ref a) := ⟨a, xs, rfl, .inl ha, rx⟩
  refine w_pass ((et_or (et_not (et_B (ev_isi (ev_var rfl r1)))) fun _ => et_test (ev_neX (ev_var rfl r1) (ev_var rfl r2) (hok.okM hn) (hok'.okM hn))).to ?_) fun H1 s1 => ?_
  · rw [he]; rfl
  have ha1 := s1 _ _ ha
  have rx1 := rx.mono s1
  refine w_sfor_keys (i0 := 0) (m := imF m) rfl ha1 rx1 fun od => ?_
  refine ⟨fun i σ' H' => ∃ (x : Option V), σ' = [some (.ref a), some v2, x] ∧ Same (upd H1 a (.frz od (.dK xs))) H', ?_, ?_, ?_, ?_⟩
  · exact ⟨none, rfl, Same.refl _⟩
  · rintro i σ' H' ⟨x, rfl, sH⟩
    exact sH _ _ upd_same
  · rintro i k d σ' H' em ⟨x0, rfl, sH⟩
    obtain ⟨⟨k', g⟩, eg, e2⟩ : ∃ q, m[i]? = some q ∧ (q.1, q.2.d) = (k, d) := by
      rw [imF, List.getElem?_map] at em
      exact Option.map_eq_some_iff.mp em
    cases e2
    have hg : (k', g) ∈ m := List.mem_of_getElem? eg
    have hgk := hok _ hg
    have r1L : Rp H' (dF m) (.ref a) := ⟨a, xs, rfl, .inr ⟨od, sH _ _ upd_same⟩, (RpI.lock ha1 od rx1).mono sH⟩
    refine w_ifF ((et_or (et_not (et_B (ev_call (d := .bool true) (ea_cons (ev_var (i := 2) (d := .int k') rfl rfl) ea_nil) (spP.d ⟨_, rfl, rfl⟩)))) fun _ =>
      et_not (et_B (ev_call (d := .bool true) (ea_cons (ev_dget (m := imF m) (k := k') (d := g.d) (ev_var (i := 0) rfl r1L) (ev_var (i := 2) rfl rfl) (by rw [look_imF, lk_self hnd _ hg]; rfl)) ea_nil) (spP.d ⟨g, rfl, rfl, hgk.2, hgk.1⟩)))).to rfl) fun H2 s2 => ?_
    exact ⟨_, rfl, sH.trans s2⟩
  · rintro σ' H' fz ⟨x0, rfl, sH⟩
    refine w_ret ev_bl fun v H2 s2 r2 => ?_
    cases (show v = V.bl true from r2)
    exact q H2 (s1.trans ((Fx.Same.unlock ha1 sH).trans s2))
end
section
variable {P : Program} {w : World} {K : PySem.W.Frag} {mg : Str → Option Value} {base : Heap}
theorem ok_law_spots (T : Tp K mg) : ∀ n, Df P w K mg base CX0 n "_law_spots" ["form", "path", "found"] (spSpots n) := by
  refine T.b__law_spots.rec spSpots.no fun n D__law_spots => ?_
  refine T.b__law_spots.ok sc__law_spots spSpots.len (fun fa cdv A outer s H vs Q E hr h => ?_)
  obtain ⟨v1, v2, p, xs, f, path, rfl, h1, h2, hp, okf, dpf, hpl, hxl, q⟩ := h
  refine ⟨_, (pss_cons (ps_expr (pe_bm PySem.F.plainAttrs_list PySem.F.slot_list_append PySem.F.type_list_append mt_append (pv 2) (pa_cons (pe_tup (pa_cons (pv 1) (pa_cons (pv 0) pa_nil))) pa_nil))) (pss_cons (ps_if (pt_cmpR (op_eqP (un_of hr)) (pe_ix ix_tup (pv 0) pe_int (fun _ _ => rfl)) pe_str (nomark _)) (pss_one (ps_for PassesOwn.never rfl (pi_range1 (by rfl) T.z_range (pa_cons (pe_callB cr_len (by rfl) T.z_len (by decide +kernel) (pa_cons (pe_ix ix_tup (pv 0) pe_int (fun _ _ => rfl)) pa_nil)) pa_nil)) (pg_name (i := 3) sc__law_spots.nd rfl (by first | exact Or.inl rfl | exact Or.inr rfl)) (pss_one (ps_expr (pe_df D__law_spots (hr.mono (by omega)) (by rfl) pass0 (pa_cons (pe_ix ix_tup (pe_ix ix_tup (pv 0) pe_int (fun _ _ => rfl)) (pv 3) (fun _ _ => rfl)) (pa_cons (pe_op op_catA (pv 1) (pe_tup (pa_cons (pv 3) pa_nil))) (pa_cons (pv 2) pa_nil)))))))) pss_nil) (pss_one (ps_ret (pv 2))))), ?_⟩
  have ntup : ∀ {H' : Hp} {l}, H' p = some (.lst l) → ∀ ts, H' p ≠ some (.tup ts) := fun e ts => by rw [e]; intro z; cases z
  refine w_sappend (d := encP (path, f)) rfl hp (ev_tup (ea_cons (ev_var rfl h2) (ea_cons (ev_var rfl h1) ea_nil))) (by omega) fun v H1 s1 r1 => ?_
  have k2 : KB p H (upd H1 p (.lst (xs ++ [v]))) := (KB.of s1).trans KB.upd
  have e2 : (upd H1 p (.lst (xs ++ [v]))) p = some (.lst (xs ++ [v])) := upd_same
  have r2 : Rp (upd H1 p (.lst (xs ++ [v]))) (encP (path, f)) v := Rp.kt (KT.upd (ntup (s1 _ _ hp))) _ _ (imm_encP _) r1
  generalize upd H1 p (.lst (xs ++ [v])) = H2 at k2 e2 r2
  have kt2 : KT H H2 := k2.kt (ntup hp)
  have h12 := Rp.kt kt2 _ _ (Fm.imm_d _) h1
  have h22 := Rp.kt kt2 _ _ (imm_ints _) h2
  refine w_cut (fun σ' H' => ∃ ys x, σ' = [some v1, some v2, some (.ref p), x] ∧ KB p H H' ∧ H' p = some (.lst (xs ++ ys)) ∧ RpL H' ((spo f path).map encP) ys) ?_ fun tail => ?_
  · rintro σ' H' ⟨ys, x, rfl, kb, ep, ry⟩
    exact ⟨.ref p, rfl, q ys H' kb ep ry⟩
  · cases f with
    | gap k =>
      refine w_ifF (et_test (ev_istie (f := .gap k) (ev_f0 (ev_var rfl h12)))) fun H3 s3 => ?_
      refine tail _ _ ⟨[v], _, rfl, k2.trans (KB.of s3), s3 _ _ e2, ?_⟩
      simp only [spo, List.map_cons, List.map_nil]
      exact .cons (r2.mono s3) .nil
    | tie w ps =>
      refine w_ifT (et_test (ev_istie (f := .tie w ps) (ev_f0 (ev_var rfl h12)))) fun H3 s3 => ?_
      have okf' := okf
      simp only [Fm.ok, Bool.and_eq_true, decide_eq_true_eq] at okf'
      have h13 := h12.mono s3
      refine w_for (ei_range1 (n := (ps.map Fm.d).length) (ev_cb (ea_cons (ev_f2 (w := w) (ps := ps) (ev_var (i := 0) rfl h13)) ea_nil) cd_lenT) (by rw [List.length_map]; omega)) fun H4 s4 => ?_
      have s24 := s3.trans s4
      refine ⟨fun i σ' H' => i ≤ ps.length ∧ ∃ ys x, σ' = [some v1, some v2, some (.ref p), x] ∧ KB p H H' ∧ H' p = some (.lst (xs ++ v :: ys)) ∧ RpL H' ((spoL 0 (ps.take i) path).map encP) ys, ?_, ?_, ?_⟩
      · refine ⟨Nat.zero_le _, [], none, rfl, k2.trans (KB.of s24), by rw [s24 _ _ e2], ?_⟩
        simp only [List.take_zero, spoL]; rfl
      · rintro i d x σ' H' H5 ed kt ⟨hi, ys, x0, rfl, kb, ep, ry⟩ sx rx
        obtain ⟨rfl, hi'⟩ : d = .int (i : Int) ∧ i < ps.length := by
          have h := (List.getElem?_eq_some_iff.mp ed).1
          simp only [List.length_map, List.length_range] at h
          rw [List.getElem?_map, List.getElem?_range (by simpa using h)] at ed
          exact ⟨(Option.some.inj ed).symm, h⟩
        cases (show x = V.int i from rx)
        obtain ⟨g, eg⟩ : ∃ g, ps[i]? = some g := ⟨_, List.getElem?_eq_getElem hi'⟩
        have hg := List.mem_of_getElem? eg
        have tk : ps.take (i + 1) = ps.take i ++ [g] := by rw [List.take_add_one, eg]; rfl
        have hsum : Fm.sgL (ps.take i) + g.sg ≤ Fm.sgL ps := by
          have h1 := Fm.sgL_append (ps.take (i + 1)) (ps.drop (i + 1))
          rw [List.take_append_drop, tk, Fm.sgL_append] at h1
          simp only [Fm.sgL] at h1
          omega
        have kt5 : KT H H5 := (kb.kt (ntup hp)).trans (KT.of sx)
        have q1 := Rp.kt kt5 _ _ (Fm.imm_d _) h1
        have q2 := Rp.kt kt5 _ _ (imm_ints _) h2
        have ev1 : EvD (tOp (rIxT K) (tOp (rIxT K) (tVar 0) (tC (.int 2))) (tVar 3)) [some v1, some v2, some (.ref p), some (.int i)] H5 g.d := ev_ixT (ev_f2 (w := w) (ps := ps) (ev_var rfl q1)) (ev_var (d := .int i) rfl rfl) (atI_nat (by rw [List.getElem?_map, eg]; rfl))
        have ev2 : EvD (tOp (rCatA K) (tVar 1) (tTup (tCons (tVar 3) tNil))) [some v1, some v2, some (.ref p), some (.int i)] H5 (.tuple ((path ++ [(i : Int)]).map .int)) := (ev_catT (ev_var rfl q2) (ev_tup (ds := [.int i]) (ea_cons (ev_var rfl rfl) ea_nil)) (by simp only [List.length_map, List.length_singleton]; omega)).to (by simp)
        refine ev1 H5 (Same.refl _) _ fun x1 H6 s6 rx1 => ev2 H6 s6 _ fun x2 H7 s7 rx2 => ?_
        have s57 := s6.trans s7
        have ep7 := s57 _ _ (sx _ _ ep)
        have dg := Fm.dep_part hg
        have hyl : ys.length ≤ Fm.sgL (ps.take i) := by rw [ry.length, List.length_map, spoL_len]; omega
        refine ⟨.ref p, rfl, x1, x2, p, _, g, path ++ [(i : Int)], rfl, rx1.mono s7, rx2, ep7, Fm.ok_part okf'.2 hg, ?_, ?_, ?_, fun zs H8 k8 e8 r8 => ?_⟩
        · simp only [Fm.dep] at dpf; omega
        · simp only [Fm.dep] at hpl; simp only [List.length_append, List.length_singleton]; omega
        · simp only [Fm.sg] at hxl; simp only [List.length_append, List.length_cons]; omega
        · have kt78 : KT H7 H8 := k8.kt (ntup ep7)
          refine ⟨((kt.trans (KT.of sx)).trans (KT.of s57)).trans kt78, hi', ys ++ zs, _, rfl, ((kb.trans (KB.of sx)).trans (KB.of s57)).trans k8, by rw [e8]; simp, ?_⟩
          have e0 := spoL_snoc 0 (ps.take i) g path
          have hlen : (ps.take i).length = i := by rw [List.length_take]; omega
          rw [hlen, Nat.zero_add] at e0
          rw [tk, e0, List.map_append]
          exact (RpL.kt kt78 _ _ (immL_of fun d hd => by obtain ⟨_, _, rfl⟩ := List.mem_map.mp hd; exact imm_encP _) (ry.mono (sx.trans s57))).append r8
      · rintro σ' H' kt ⟨_, ys, x, rfl, kb, ep, ry⟩
        have hzl : ((List.range (ps.map Fm.d).length).map fun (i : Nat) => PyData.int (i : Int)).length = ps.length := by simp
        rw [hzl, List.take_length] at ry
        refine tail _ _ ⟨v :: ys, x, rfl, kb, ep, ?_⟩
        simp only [spo, List.map_cons]
        exact .cons (Rp.kt ((KT.of s24).trans kt) _ _ (imm_encP _) r2) ry
end
section
variable {P : Program} {w : World} {K : PySem.W.Frag} {mg : Str → Option Value} {base : Heap}
theorem ok_law_opened (T : Tp K mg) : ∀ n, Df P w K mg base CX0 n "_law_opened" ["form", "path", "number"] (spOpened n) := by
  refine T.b__law_opened.rec spOpened.no fun n D__law_opened => ?_
  refine T.b__law_opened.ok sc__law_opened spOpened.len (fun fa cdv A outer s H vs Q E hr h => ?_)
  obtain ⟨ds, r, hR, ⟨f, path, k, rfl, rfl, hv, hpl, hn, okf⟩, q⟩ := h
  obtain ⟨v1, _, rfl, h1, v2, _, rfl, h2, v3, _, rfl, h3, rfl⟩ := hR
  refine ⟨_, (pss_cons (ps_if (pt_cmpR (op_eqP (un_of hr)) (pv 1) (pe_tup pa_nil) (nomark _)) (pss_one (ps_ret (pe_tup (pa_cons pe_str (pa_cons (pv 2) pa_nil))))) pss_nil) (pss_cons (ps_set (i := 3) sc__law_opened.nd rfl (by first | exact Or.inl rfl | exact Or.inr rfl) (pe_callTy cr_list (by rfl) T.z_list (by decide +kernel) (pa_cons (pe_ix ix_tup (pv 0) pe_int (fun _ _ => rfl)) pa_nil))) (pss_cons (ps_asg (pe_df D__law_opened (hr.mono (by omega)) (by rfl) pass0 (pa_cons (pe_ix ix_list (pv 3) (pe_ix ix_tup (pv 1) pe_int (fun _ _ => rfl)) (fun _ _ => rfl)) (pa_cons (pe_slice sl_tupA (pv 1) (po_some pe_int) po_none) (pa_cons (pv 2) pa_nil)))) (pg_sub (pv 3) (pe_ix ix_tup (pv 1) pe_int (fun _ _ => rfl)) set_list)) (pss_one (ps_ret (pe_tup (pa_cons pe_str (pa_cons (pe_ix ix_tup (pv 0) pe_int (fun _ _ => rfl)) (pa_cons (pe_callTy cr_tuple (by rfl) T.z_tuple (by decide +kernel) (pa_cons (pv 3) pa_nil)) pa_nil))))))))), ?_⟩
  refine w_guard (et_test (ev_eq (ev_var rfl h2) (ev_tup ea_nil (Nat.zero_le _)) (okD_tints _) (okD_tints []))) (fun c H1 s1 => ?_) (fun c H1 s1 => ?_)
  · have hp : path = [] := by
      cases path with
      | nil => rfl
      | cons a l => simp [PyData.eqv, PyData.eqvAll] at c
    subst hp
    rw [opn_nil] at q
    exact w_ret (d := (Fm.gap k).d) (ev_tup (ea_cons ev_str (ea_cons (ev_var rfl (h3.mono s1)) ea_nil))) fun v H2 s2 r2 => q v H2 (s1.trans s2) r2
  · cases path with
    | nil => simp [PyData.eqv, PyData.eqvAll] at c
    | cons j rest =>
    cases f with
    | gap _ => simp [Vld] at hv
    | tie w ps =>
    simp only [Vld] at hv
    obtain ⟨hj, g, eg, hv⟩ := hv
    rw [opn_tie eg] at q
    have okf' := okf
    simp only [Fm.ok, Bool.and_eq_true, decide_eq_true_eq] at okf'
    have hg := List.mem_of_getElem? eg
    have hjl : j.toNat < ps.length := (List.getElem?_eq_some_iff.mp eg).1
    have h11 := h1.mono s1
    have h21 := h2.mono s1
    have h31 := h3.mono s1
    -- parts = list(form[2])
    refine ev_f2 (K := K) (w := w) (ps := ps) (ev_var (i := 0) rfl h11) H1 (Same.refl _) _ fun v H2 s2 r2 => ?_
    obtain ⟨t, xs, rfl, ht, rx⟩ := r2
    refine ⟨t, xs, rfl, .inr (.of ht), fun p hpn => ?_⟩
    have s3 : Same H2 (upd H2 p (.lst xs)) := Fx.Same.new hpn
    have e3 : (upd H2 p (.lst xs)) p = some (.lst xs) := upd_same
    have rx3 := rx.mono s3
    generalize upd H2 p (.lst xs) = H3 at s3 e3 rx3
    have s13 := s2.trans s3
    have hxl : xs.length = ps.length := by rw [rx.length, List.length_map]
    have rp3 : Rp H3 (.list (ps.map Fm.d)) (.ref p) := ⟨p, xs, rfl, e3, rx3⟩
    have jn : j = ((j.toNat : Nat) : Int) := by omega
    have evj : EvD (tOp (rIxT K) (tVar 1) (tC (.int 0))) [some v1, some v2, some v3, some (.ref p)] H3 (.int j) := ev_ixT (ev_var (i := 1) rfl (h21.mono s13)) ev_int (atI_nat (j := 0) rfl)
    have hat : atI (ps.map Fm.d) j = some g.d := by rw [jn]; exact atI_nat (by rw [List.getElem?_map, eg]; rfl)
    have hrl : rest.length ≤ 100 := by simp only [List.length_cons] at hpl; omega
    have evn : EvD (tCall (spOpened n) [] E0 (tCons (tOp (rIxL K) (tVar 3) (tOp (rIxT K) (tVar 1) (tC (.int 0)))) (tCons (tSl (rSlA K) (tVar 1) (tPart (tC (.int 1))) tNoPart) (tCons (tVar 2) tNil)))) [some v1, some v2, some v3, some (.ref p)] H3 (opn g rest k).d :=
      ev_call (ea_cons (ev_ixL (ev_var rfl rp3) evj hat) (ea_cons (ev_tail (ev_var rfl (h21.mono s13)) (by rw [List.length_map]; omega)) (ea_cons (ev_var rfl (h31.mono s13)) ea_nil))) (spP.d ⟨g, rest, k, rfl, rfl, hv, by simp only [List.length_cons] at hpl; omega, by omega, Fm.ok_part okf'.2 hg⟩)
    refine w_ssetLi (i := 3) (j := j.toNat) rfl e3 evn evj ?_ fun v H4 s4 r4 => ?_
    · unfold ixN
      rw [if_pos hj, if_pos (by omega)]
    · have e5 : (upd H4 p (.lst (xs.set j.toNat v))) p = some (.lst (xs.set j.toNat v)) := upd_same
      have kt5 : KT H4 (upd H4 p (.lst (xs.set j.toNat v))) := KT.upd fun ts => by rw [s4 _ _ e3]; intro z; cases z
      have sm : Same H (upd H4 p (.lst (xs.set j.toNat v))) := Fx.Same.put (s1.trans (s13.trans s4)) ((s1.trans s2).free hpn)
      generalize upd H4 p (.lst (xs.set j.toNat v)) = H5 at e5 kt5 sm
      have rx5 : RpL H5 ((ps.set j.toNat (opn g rest k)).map Fm.d) (xs.set j.toNat v) := by
        rw [List.map_set]
        exact RpL.set (RpL.kt kt5 _ _ Fm.immL_d (rx3.mono s4)) (Rp.kt kt5 _ _ (Fm.imm_d _) r4) _
      have e : (Fm.tie w (ps.set j.toNat (opn g rest k))).d = .tuple [.str "tie", .str w, .tuple ((ps.set j.toNat (opn g rest k)).map Fm.d)] := by rw [Fm.d, Fm.dL_map]
      refine w_ret (d := (Fm.tie w (ps.set j.toNat (opn g rest k))).d) (by
        rw [e]
        exact ev_tup (ea_cons ev_str (ea_cons (ev_f1 (f := .tie w ps) (ev_var rfl (h1.mono sm))) (ea_cons (ev_cb (ea_cons (ev_var (i := 3) (d := .list ((ps.set j.toNat (opn g rest k)).map Fm.d)) rfl ⟨p, _, rfl, e5, rx5⟩) ea_nil) cd_tupleL) ea_nil)))) fun v6 H6 s6 r6 => q v6 H6 (sm.trans s6) r6
theorem ok_law_looser (T : Tp K mg) (n : Nat) (hn : n ≤ 90) : Df P w K mg base CX0 (n + 1) "_law_looser" ["form", "cell", "base"] (spLooser n) := by
  have D__law_spots := ok_law_spots (P := P) (w := w) (base := base) T n
  have D__law_opened := ok_law_opened (P := P) (w := w) (base := base) T n
  refine T.b__law_looser.ok sc__law_looser spLooser.len (fun fa cdv A outer s H vs Q E hr h => ?_)
  obtain ⟨v1, f, c, b, rfl, h1, gdf, dpf, dpf50, sgf, hb0, hb1, q⟩ := h
  refine ⟨_, (pss_cons (ps_for PassesOwn.never rfl (pi_range1 (by rfl) T.z_range (pa_cons (pe_op op_modN (pv 1) pe_int) pa_nil)) (pg_name (i := 3) sc__law_looser.nd rfl (by first | exact Or.inl rfl | exact Or.inr rfl)) (pss_cons (ps_set (i := 1) sc__law_looser.nd rfl (by first | exact Or.inl rfl | exact Or.inr rfl) (pe_op op_modN (pe_op op_add (pe_op op_mul (pv 1) pe_int) pe_int) pe_int)) (pss_cons (ps_set (i := 4) sc__law_looser.nd rfl (by first | exact Or.inl rfl | exact Or.inr rfl) (pe_df D__law_spots (hr.mono (by omega)) (by rfl) pass0 (pa_cons (pv 0) (pa_cons (pe_tup pa_nil) (pa_cons (pe_lst pa_nil) pa_nil))))) (pss_one (ps_set (i := 0) sc__law_looser.nd rfl (by first | exact Or.inl rfl | exact Or.inr rfl) (pe_df D__law_opened (hr.mono (by omega)) (by rfl) pass0 (pa_cons (pv 0) (pa_cons (pe_ix ix_tup (pe_ix ix_list (pv 4) (pe_op op_modN (pe_op op_fdivN (pv 1) pe_int) (pe_callB cr_len (by rfl) T.z_len (by decide +kernel) (pa_cons (pv 4) pa_nil))) (fun _ _ => rfl)) pe_int (fun _ _ => rfl)) (pa_cons (pe_op op_add (pv 2) (pv 3)) pa_nil))))))))) (pss_one (ps_ret (pv 0)))), ?_⟩
  have hc0 : 0 ≤ c % 4 := Int.emod_nonneg _ (by decide)
  have hc1 : c % 4 < 4 := Int.emod_lt_of_pos _ (by decide)
  generalize hm : (c % 4).toNat = m at q
  have hcm : c % 4 = (m : Int) := by omega
  refine w_sfor (ei_range1 (n := m) ((ev_mod (ev_var (i := 1) (d := .int c) rfl rfl) ev_int (by decide)).to (by rw [hcm])) (by omega)) fun H1 s1 => ?_
  refine ⟨fun i σ' H' => i ≤ m ∧ ∃ (g : Fm) (v : V) (c' : Int) (x y : Option V), σ' = [some v, some (.int c'), some (.int b), x, y] ∧ Same H H' ∧ Rp H' g.d v ∧ Loose f b i g, ?_, ?_, ?_⟩
  · exact ⟨Nat.zero_le _, f, v1, c, none, none, rfl, s1, h1.mono s1, .none f b⟩
  · rintro i d x σ' H' H2 ed kt ⟨hi, g, v, c', x0, y0, rfl, sH, rg, lg⟩ sx rx
    obtain ⟨rfl, hi'⟩ : d = .int (i : Int) ∧ i < m := by
      have h := (List.getElem?_eq_some_iff.mp ed).1
      simp only [List.length_map, List.length_range] at h
      rw [List.getElem?_map, List.getElem?_range (by simpa using h)] at ed
      exact ⟨(Option.some.inj ed).symm, h⟩
    cases (show x = V.int i from rx)
    obtain ⟨g1, g2, g3⟩ := lg.inv (many := 1000) hb0 (by omega) gdf
    have okg := Fm.gd_ok g1
    refine w_sset (ev_mod (ev_add (ev_mul (ev_var (i := 1) (d := .int c') rfl rfl) ev_int (.inr ⟨by decide, by decide⟩)) ev_int) ev_int (by decide)) fun v5 H3 s3 r3 => ?_
    cases (show v5 = V.int ((c' * 48271 + 23) % 2147483647) from r3)
    generalize (c' * 48271 + 23) % 2147483647 = c2
    have rg3 := (rg.mono sx).mono s3
    -- spots
    refine w_sspots (ev_var (i := 0) rfl rg3) okg (by omega) (by omega) (by omega) fun l ys H6 s36 hln e6 r6 => ?_
    have rl6 : Rp H6 (.list ((spo g []).map encP)) (.ref l) := ⟨l, ys, rfl, e6, r6⟩
    have rg6 := rg3.mono s36
    have hsg : 1 ≤ g.sg := by cases g <;> simp [Fm.sg]
    have hlen : ((spo g []).map encP).length = g.sg := by rw [List.length_map, spo_len]
    have hj0 : 0 ≤ c2 / 5 % (g.sg : Int) := Int.emod_nonneg _ (by omega)
    have hj1 : c2 / 5 % (g.sg : Int) < g.sg := Int.emod_lt_of_pos _ (by omega)
    generalize hj : c2 / 5 % (g.sg : Int) = j at hj0 hj1
    obtain ⟨⟨pa, gg⟩, eg⟩ : ∃ y, (spo g [])[j.toNat]? = some y := ⟨_, List.getElem?_eq_getElem (by rw [spo_len]; omega)⟩
    obtain ⟨r, e1, hv, hrl⟩ := spo_vld g [] _ (List.mem_of_getElem? eg)
    have e1' : pa = r := by simpa using e1
    subst e1'
    have jn : j = ((j.toNat : Nat) : Int) := by omega
    have hat : atI ((spo g []).map encP) j = some (encP (pa, gg)) := by rw [jn]; exact atI_nat (by rw [List.getElem?_map, eg]; rfl)
    refine w_set (d := (opn g pa (b + i)).d) (ev_call (ea_cons (ev_var (i := 0) rfl rg6) (ea_cons (ev_ixT (i := 0) (ds := [.tuple (pa.map .int), gg.d]) (ev_ixL (i := j) (ds := (spo g []).map encP) (ev_var (i := 4) rfl rl6) ((ev_mod (ev_div (ev_var (i := 1) (d := .int c2) rfl rfl) ev_int (by decide)) (ev_cb (ea_cons (ev_var (i := 4) rfl rl6) ea_nil) cd_lenL) (by rw [hlen]; omega)).to (by rw [hlen, hj])) hat) ev_int rfl) (ea_cons (ev_add (ev_var (i := 2) (d := .int b) rfl rfl) (ev_var (i := 3) (d := .int i) rfl rfl)) ea_nil))) (spP.d ⟨g, pa, b + i, rfl, rfl, hv, by omega, by omega, okg⟩)) fun v7 H7 s7 r7 => ?_
    refine ⟨(kt.trans (KT.of sx)).trans (KT.of ((s3.trans s36).trans s7)), hi', _, v7, c2, _, _, rfl, sH.trans (sx.trans ((s3.trans s36).trans s7)), r7, .one lg ⟨pa, hv, rfl⟩⟩
  · rintro σ' H' kt ⟨_, g, v, c', x, y, rfl, sH, rg, lg⟩
    have hzl : ((List.range m).map fun (i : Nat) => PyData.int (i : Int)).length = m := by simp
    rw [hzl] at lg
    exact ⟨v, rfl, q g v H' sH rg lg⟩
end
section
variable {P : Program} {w : World} {K : PySem.W.Frag} {mg : Str → Option Value} {base : Heap}
theorem ok_law_common (T : Tp K mg) : ∀ n, Df P w K mg base CX0 n "_law_common" ["one", "other", "pairs"] (spLC n) := by
  refine T.b__law_common.rec spLC.no fun n D__law_common => ?_
  refine T.b__law_common.ok sc__law_common spLC.len (fun fa cdv A outer s H vs Q E hr h => ?_)
  obtain ⟨v1, v2, l, xs, f, g, L, rfl, h1, h2, hl, hL, okf, okg, dpf, d1, d2, hp, hlen, q⟩ := h
  refine ⟨_, (pss_cons (ps_if (PW.pt (pw_and (pt_cmpR (op_eqP (un_of hr)) (pe_ix ix_tup (pv 0) pe_int (fun _ _ => rfl)) pe_str (nomark _)) (pw_and (pt_cmpR (op_eqP (un_of hr)) (pe_ix ix_tup (pv 1) pe_int (fun _ _ => rfl)) pe_str (nomark _)) (pw_and (pt_cmpR (op_eqP (un_of hr)) (pe_ix ix_tup (pv 0) pe_int (fun _ _ => rfl)) (pe_ix ix_tup (pv 1) pe_int (fun _ _ => rfl)) (nomark _)) (pw_and1 (pt_cmpR (op_eqP (un_of hr)) (pe_callB cr_len (by rfl) T.z_len (by decide +kernel) (pa_cons (pe_ix ix_tup (pv 0) pe_int (fun _ _ => rfl)) pa_nil)) (pe_callB cr_len (by rfl) T.z_len (by decide +kernel) (pa_cons (pe_ix ix_tup (pv 1) pe_int (fun _ _ => rfl)) pa_nil)) (nomark _))))))) (pss_cons (ps_set (i := 3) sc__law_common.nd rfl (by first | exact Or.inl rfl | exact Or.inr rfl) (pe_lst pa_nil)) (pss_cons (ps_for PassesOwn.never rfl (pi_range1 (by rfl) T.z_range (pa_cons (pe_callB cr_len (by rfl) T.z_len (by decide +kernel) (pa_cons (pe_ix ix_tup (pv 0) pe_int (fun _ _ => rfl)) pa_nil)) pa_nil)) (pg_name (i := 4) sc__law_common.nd rfl (by first | exact Or.inl rfl | exact Or.inr rfl)) (pss_one (ps_expr (pe_bm PySem.F.plainAttrs_list PySem.F.slot_list_append PySem.F.type_list_append mt_append (pv 3) (pa_cons (pe_df D__law_common (hr.mono (by omega)) (by rfl) pass0 (pa_cons (pe_ix ix_tup (pe_ix ix_tup (pv 0) pe_int (fun _ _ => rfl)) (pv 4) (fun _ _ => rfl)) (pa_cons (pe_ix ix_tup (pe_ix ix_tup (pv 1) pe_int (fun _ _ => rfl)) (pv 4) (fun _ _ => rfl)) (pa_cons (pv 2) pa_nil)))) pa_nil))))) (pss_one (ps_ret (pe_tup (pa_cons pe_str (pa_cons (pe_ix ix_tup (pv 0) pe_int (fun _ _ => rfl)) (pa_cons (pe_callTy cr_tuple (by rfl) T.z_tuple (by decide +kernel) (pa_cons (pv 3) pa_nil)) pa_nil)))))))) pss_nil) (pss_cons (ps_if (pt_cmpR (op_notInD (un65 hr)) (pe_tup (pa_cons (pv 0) (pa_cons (pv 1) pa_nil))) (pv 2) rfl) (pss_one (ps_expr (pe_bm PySem.F.plainAttrs_list PySem.F.slot_list_append PySem.F.type_list_append mt_append (pv 2) (pa_cons (pe_tup (pa_cons (pv 0) (pa_cons (pv 1) pa_nil))) pa_nil)))) pss_nil) (pss_one (ps_ret (pe_tup (pa_cons pe_str (pa_cons (pe_bm PySem.F.plainAttrs_list PySem.F.slot_list_index PySem.F.type_list_index (mt_indexD (un65 hr)) (pv 2) (pa_cons (pe_tup (pa_cons (pv 0) (pa_cons (pv 1) pa_nil))) pa_nil)) pa_nil))))))), ?_⟩
  refine w_guard (b := sk f g) ?_ (fun c H1 s1 => ?_) (fun c H1 s1 => ?_)
  · cases f with
    | gap i => exact (et_and (b := false) (et_test (ev_istie (f := .gap i) (ev_f0 (ev_var (i := 0) rfl h1)))) (fun z => by cases z)).to rfl
    | tie wd ps =>
      cases g with
      | gap j => exact (et_and (et_test (ev_istie (f := .tie wd ps) (ev_f0 (ev_var (i := 0) rfl h1)))) fun _ => et_and (b := false) (et_test (ev_istie (f := .gap j) (ev_f0 (ev_var (i := 1) rfl h2)))) (fun z => by cases z)).to rfl
      | tie wd' qs =>
        have hf' := okf
        have hg' := okg
        simp only [Fm.ok, Bool.and_eq_true, decide_eq_true_eq] at hf' hg'
        refine (et_and (et_test (ev_istie (f := .tie wd ps) (ev_f0 (ev_var (i := 0) rfl h1)))) fun _ => et_and (et_test (ev_istie (f := .tie wd' qs) (ev_f0 (ev_var (i := 1) rfl h2)))) fun _ => et_and (et_test (ev_eq (ev_f1 (f := .tie wd ps) (ev_var (i := 0) rfl h1)) (ev_f1 (f := .tie wd' qs) (ev_var (i := 1) rfl h2)) (okD_str hf'.1.1) (okD_str hg'.1.1))) fun _ => et_test (ev_eq (ev_cb (ea_cons (ev_f2 (ev_var (i := 0) rfl h1)) ea_nil) cd_lenT) (ev_cb (ea_cons (ev_f2 (ev_var (i := 1) rfl h2)) ea_nil) cd_lenT) (okD_int _) (okD_int _))).to ?_
        simp only [Fm.snd, PyData.eqv, sk, List.length_map, Fm.isGap, Bool.not_false, Bool.true_and]
        by_cases e : wd = wd'
        · by_cases e2 : ps.length = qs.length
          · simp [e, e2]
          · have : ¬ (ps.length : Int) = qs.length := by omega
            simp [e, e2, this]
        · simp [e]
  · -- of one kind
    cases f with
    | gap _ => cases c
    | tie wd ps =>
    cases g with
    | gap _ => cases c
    | tie wd' qs =>
    simp only [sk, Bool.and_eq_true, decide_eq_true_eq] at c
    obtain ⟨rfl, hlq⟩ := c
    have hsh : sh (.tie wd ps) (.tie wd qs) L = (.tie wd (shL ps qs L).1, (shL ps qs L).2) := by simp only [sh]; rw [if_pos ⟨trivial, hlq⟩]
    rw [hsh] at q
    have okf' := okf
    have okg' := okg
    simp only [Fm.ok, Bool.and_eq_true, decide_eq_true_eq] at okf' okg'
    have dpf' : Fm.depL ps ≤ n := by simp only [Fm.dep] at dpf; omega
    have d1' : Fm.depL ps ≤ 12 := by simp only [Fm.dep] at d1; omega
    have d2' : Fm.depL qs ≤ 12 := by simp only [Fm.dep] at d2; omega
    have hlen' : L.length + Fm.sgL ps ≤ 10000 := by simp only [Fm.sg] at hlen; omega
    have hl1 := s1 _ _ hl
    refine w_slnew fun D hD => ?_
    have s2 : Same H1 (upd H1 D (.lst [])) := Fx.Same.new hD
    have hdD : l ≠ D := ne_of_none hl1 hD
    have hDH : H D = none := s1.free hD
    have s02 := s1.trans s2
    have eD : (upd H1 D (.lst [])) D = some (.lst []) := upd_same
    have el2 := s2 _ _ hl1
    generalize upd H1 D (.lst []) = H2 at s2 s02 eD el2
    refine w_sfor (ei_range1 (n := ps.length) ((ev_cb (ea_cons (ev_f2 (w := wd) (ps := ps) (ev_var (i := 0) rfl (h1.mono s02))) ea_nil) cd_lenT).to (by simp)) (by have := okf'.1.2; omega)) fun H3 s3 => ?_
    have s03 := s02.trans s3
    refine ⟨fun i σ' H' => i ≤ ps.length ∧ ∃ (ys acc : List V) (x : Option V), σ' = [some v1, some v2, some (.ref l), some (.ref D), x] ∧ KT H H' ∧ KB l H H' ∧ H' l = some (.lst ys) ∧ RpL H' ((shL (ps.take i) (qs.take i) L).2.map encK) ys ∧ H' D = some (.lst acc) ∧ RpL H' ((shL (ps.take i) (qs.take i) L).1.map Fm.d) acc, ?_, ?_, ?_⟩
    · exact ⟨Nat.zero_le _, xs, [], none, rfl, KT.of s03, KB.of s03, s3 _ _ el2, by simp only [List.take_zero, shL]; exact hL.mono s03, s3 _ _ eD, by simp [shL]; rfl⟩
    · rintro i d x σ' H' H4 ed kt0 ⟨hi, ys, acc, x0, rfl, kt, kb, el, rL, eD, rA⟩ s4 rx
      obtain ⟨rfl, hi'⟩ : d = .int (i : Int) ∧ i < ps.length := by
        have h := (List.getElem?_eq_some_iff.mp ed).1
        simp only [List.length_map, List.length_range] at h
        rw [List.getElem?_map, List.getElem?_range (by simpa using h)] at ed
        exact ⟨(Option.some.inj ed).symm, h⟩
      cases (show x = V.int i from rx)
      obtain ⟨p, ep⟩ : ∃ p, ps[i]? = some p := ⟨_, List.getElem?_eq_getElem hi'⟩
      obtain ⟨r, er⟩ : ∃ r, qs[i]? = some r := ⟨_, List.getElem?_eq_getElem (by omega)⟩
      have hpm := List.mem_of_getElem? ep
      have hrm := List.mem_of_getElem? er
      have tkp : ps.take (i + 1) = ps.take i ++ [p] := by rw [List.take_add_one, ep]; rfl
      have tkq : qs.take (i + 1) = qs.take i ++ [r] := by rw [List.take_add_one, er]; rfl
      have hlt : (ps.take i).length = (qs.take i).length := by rw [List.length_take, List.length_take]; omega
      have hsum : Fm.sgL (ps.take i) + p.sg ≤ Fm.sgL ps := by
        have h1 := Fm.sgL_append (ps.take (i + 1)) (ps.drop (i + 1))
        rw [List.take_append_drop, tkp, Fm.sgL_append] at h1
        simp only [Fm.sgL] at h1
        omega
      have hLi : (shL (ps.take i) (qs.take i) L).2.length + p.sg ≤ 10000 := by
        have h1 := shL_len (ps.take i) (qs.take i) L
        omega
      have okps : Fm.okL (ps.take i) = true := okL_takeI okf'.2 i
      have okqs : Fm.okL (qs.take i) = true := okL_takeI okg'.2 i
      have hpi : ∀ p, p ∈ (shL (ps.take i) (qs.take i) L).2 → PrOk p := shL_prOk okps okqs (Nat.le_trans (depL_takeI ps i) d1') (Nat.le_trans (depL_takeI qs i) d2') hp
      have kt4 := kt.trans (KT.of s4)
      have h14 := Rp.kt kt4 _ _ (Fm.imm_d _) h1
      have h24 := Rp.kt kt4 _ _ (Fm.imm_d _) h2
      have hal : acc.length ≤ 100000 := by
        rw [rA.length, List.length_map]
        have h1 := shL_len1 (ps.take i) (qs.take i) L
        have := okf'.1.2
        simp only [List.length_take] at h1
        omega
      have dp1 := Fm.dep_part hpm
      have dp2 := Fm.dep_part hrm
      have e1 : ∀ {y : Option V} {H' : Hp}, Rp H' (Fm.tie wd ps).d v1 → EvD (tOp (rIxT K) (tOp (rIxT K) (tVar 0) (tC (.int 2))) (tVar 4)) [some v1, some v2, some (.ref l), some (.ref D), some (.int (i : Int))] H' p.d := fun hv => ev_ixT (ev_f2 (ev_var (i := 0) rfl hv)) (ev_var (i := 4) (d := .int (i : Int)) rfl rfl) (atI_nat (by rw [List.getElem?_map, ep]; rfl))
      have e2 : ∀ {y : Option V} {H' : Hp}, Rp H' (Fm.tie wd qs).d v2 → EvD (tOp (rIxT K) (tOp (rIxT K) (tVar 1) (tC (.int 2))) (tVar 4)) [some v1, some v2, some (.ref l), some (.ref D), some (.int (i : Int))] H' r.d := fun hv => ev_ixT (ev_f2 (ev_var (i := 1) rfl hv)) (ev_var (i := 4) (d := .int (i : Int)) rfl rfl) (atI_nat (by rw [List.getElem?_map, er]; rfl))
      refine ⟨.ref D, rfl, .inl ⟨rfl, acc, .of (s4 _ _ eD)⟩, ?_⟩
      refine e1 (y := none) h14 H4 (Same.refl _) _ fun w1 H5 s5 r5 => ?_
      refine e2 (y := none) (h24.mono s5) H5 (Same.refl _) _ fun w2 H6 s6 r6 => ?_
      have s46 := s5.trans s6
      have s06 := s4.trans s46
      refine ⟨.ref l, rfl, w1, w2, l, ys, p, r, _, rfl, r5.mono s6, r6, s06 _ _ el, rL.mono s06, Fm.ok_part okf'.2 hpm, Fm.ok_part okg'.2 hrm, by omega, by omega, by omega, hpi, hLi, fun v H7 zs kb7 e7 r7 rv => ?_⟩
      have eD7 := kb7 _ _ (Ne.symm hdD) (s06 _ _ eD)
      have kt7 : KT H6 H7 := kb7.kt fun ts => by rw [s06 _ _ el]; intro z; cases z
      have kt8 : KT H7 (upd H7 D (.lst (acc ++ [v]))) := KT.upd fun ts => by rw [eD7]; intro z; cases z
      have kt06 := (KT.of s06).trans kt7
      refine ⟨D, acc, v, rfl, rfl, eD7, Nat.lt_of_le_of_lt hal (by decide), ?_⟩
      refine ⟨kt0.trans (kt06.trans kt8), hi', zs, acc ++ [v], _, rfl, kt.trans (kt06.trans kt8), ((kb.trans (KB.of s06)).trans kb7).put hDH, ?_, ?_, upd_same, ?_⟩
      · rw [upd_ne hdD]; exact e7
      · rw [tkp, tkq, shL_snoc hlt]
        exact RpL.kt kt8 _ _ (immL_of fun d hd => by obtain ⟨z, _, rfl⟩ := List.mem_map.mp hd; exact imm_encK z) r7
      · rw [tkp, tkq, shL_snoc hlt, List.map_append]
        refine RpL.kt kt8 _ _ ?_ ((RpL.kt kt06 _ _ Fm.immL_d rA).snoc rv)
        exact immL_of fun d hd => by
          rcases List.mem_append.mp hd with hd | hd <;> · obtain ⟨z, _, rfl⟩ := List.mem_map.mp hd; exact Fm.imm_d z
    · rintro σ' H' kt0 ⟨hi, ys, acc, x0, rfl, kt, kb, el, rL, eD, rA⟩
      have hzl : ((List.range ps.length).map fun (i : Nat) => PyData.int (i : Int)).length = ps.length := by simp
      rw [hzl, List.take_length, hlq, List.take_length] at rA rL
      have h1' := Rp.kt kt _ _ (Fm.imm_d _) h1
      refine w_ret (d := (Fm.tie wd (shL ps qs L).1).d) ?_ fun v H6 s6 r6 => q v H6 ys (kb.trans (KB.of s6)) (s6 _ _ el) (rL.mono s6) r6
      refine (ev_tup (ea_cons ev_str (ea_cons (ev_f1 (f := .tie wd ps) (ev_var (i := 0) rfl h1')) (ea_cons (ev_cb (ea_cons (ev_var (i := 3) (d := .list ((shL ps qs L).1.map Fm.d)) rfl ⟨D, acc, rfl, eD, rA⟩) ea_nil) cd_tupleL) ea_nil)))).to ?_
      simp only [Fm.d, Fm.dL_map, Fm.snd]
  · -- they part here
    rw [sh_diff c] at q
    have pr : PrOk (f, g) := ⟨⟨okf, d1⟩, ⟨okg, d2⟩⟩
    have pair : ∀ {H' : Hp} {y z : Option V}, Rp H' f.d v1 → Rp H' g.d v2 → EvD (tTup (tCons (tVar 0) (tCons (tVar 1) tNil))) [some v1, some v2, some (.ref l), y, z] H' (encK (f, g)) := fun r1 r2 => ev_tup (ea_cons (ev_var (i := 0) rfl r1) (ea_cons (ev_var (i := 1) rfl r2) ea_nil))
    have tail : ∀ (j : Nat) (L' : FQ) (ys : List V) (H' : Hp), KB l H H' → KT H H' → H' l = some (.lst ys) → RpL H' (L'.map encK) ys → (∀ p, p ∈ L' → PrOk p) → posQ L' (f, g) = some j → leaf (f, g) L = (.gap (j : Int), L') →
        tRet (tTup (tCons (tC (.str "gap")) (tCons (tBM K "list" (rIndexD K) (tVar 2) (tCons (tTup (tCons (tVar 0) (tCons (tVar 1) tNil))) tNil)) tNil))) { nx := fun _ H' => Q .non H', rt := Q } [some v1, some v2, some (.ref l), none, none] H' := by
      intro j L' ys H' kb kt el rL hp' hj e
      refine w_ret (d := (Fm.gap (j : Int)).d) (ev_tup (ds := [.str "gap", .int (j : Int)]) (ea_cons ev_str (ea_cons (ev_indexD (ds := L'.map encK) (z := encK (f, g)) (ev_var (i := 2) rfl ⟨l, ys, rfl, el, rL⟩) (pair (Rp.kt kt _ _ (Fm.imm_d _) h1) (Rp.kt kt _ _ (Fm.imm_d _) h2)) (shaped_encKs hp') (shaped_encK pr) (by rw [List.getElem?_map, posQ_some hj]; rfl) (by rw [eqv_encK]; simp) (fun m z hm e => ?_)) ea_nil))) fun v H6 s6 r6 => ?_
      · rw [List.getElem?_map] at e
        obtain ⟨qq, e1, rfl⟩ := Option.map_eq_some_iff.mp e
        rw [eqv_encK, decide_eq_false (posQ_first hj m qq hm e1)]
      · rw [e] at q
        exact q v H6 ys (kb.trans (KB.of s6)) (s6 _ _ el) (rL.mono s6) r6
    have hin := et_test (ev_ninL (pair (y := none) (z := none) (h1.mono s1) (h2.mono s1)) (ev_var (i := 2) (σ := [some v1, some v2, some (.ref l), none, none]) (d := .list (L.map encK)) rfl ⟨l, xs, rfl, s1 _ _ hl, hL.mono s1⟩) (shaped_encK pr) (shaped_encKs hp) (K := K))
    rw [any_encK] at hin
    have hsg := sg_pos f
    cases e : posQ L (f, g) with
    | some j =>
      rw [e] at hin
      refine w_sif hin (fun z => by cases z) fun _ H2 s2 => ?_
      have s02 := s1.trans s2
      refine tail j L xs H2 (KB.of s02) (KT.of s02) (s02 _ _ hl) (hL.mono s02) hp e ?_
      unfold leaf
      rw [e]
    | none =>
      rw [e] at hin
      refine w_sif hin (fun _ H2 s2 => ?_) fun z => by cases z
      have s02 := s1.trans s2
      refine w_append (i := 2) (d := encK (f, g)) rfl (s02 _ _ hl) (pair (h1.mono s02) (h2.mono s02)) (by rw [hL.length, List.length_map]; omega) fun v H3 s3 r3 => ?_
      have s03 := s02.trans s3
      have kt4 : KT H3 (upd H3 l (.lst (xs ++ [v]))) := KT.upd fun ts => by rw [s03 _ _ hl]; intro z; cases z
      refine tail L.length (L ++ [(f, g)]) (xs ++ [v]) _ ((KB.of s03).trans KB.upd) ((KT.of s03).trans kt4) upd_same ?_ ?_ (posQ_new [] e) ?_
      · rw [List.map_append]
        exact RpL.kt kt4 _ _ (immL_of fun d hd => by
          rcases List.mem_append.mp hd with hd | hd <;> · obtain ⟨z, _, rfl⟩ := List.mem_map.mp hd; exact imm_encK z) ((hL.mono s03).snoc r3)
      · intro p hp'
        rcases List.mem_append.mp hp' with h | h
        · exact hp p h
        · rw [List.mem_singleton.mp h]; exact pr
      · unfold leaf
        rw [e]
end
section
variable {P : Program} {w : World} {K : PySem.W.Frag} {mg : Str → Option Value} {base : Heap}
theorem ok_law_two (T : Tp K mg) : Df P w K mg base CX0 60 "_law_two" ["script"] (spTwo7 K) := by
  have D__law_cell_at := ok_cell (P := P) (w := w) (base := base) T
  have D__law_form := ok_law_form (P := P) (w := w) (base := base) T 50
  have D__law_drawn := ok_law_drawn (P := P) (w := w) (base := base) T 50
  have D__law_filled := ok_law_filled (P := P) (w := w) (base := base) T 50
  have D__law_filling := ok_law_filling (P := P) (w := w) (base := base) T 50
  have D__law_looser := ok_law_looser (P := P) (w := w) (base := base) T 50 (by decide)
  refine T.b__law_two.ok sc__law_two spTwo7.len (fun fa cdv A outer s H vs Q E hr h => ?_)
  obtain ⟨a, ns, rfl, hS, q⟩ := h
  refine ⟨_, (pss_cons (ps_set (i := 1) sc__law_two.nd rfl (by first | exact Or.inl rfl | exact Or.inr rfl) (pe_df D__law_form (hr.mono (by omega)) (by rfl) pass0 (pa_cons (pe_lst (pa_cons (pe_op op_modN (pe_df D__law_cell_at (hr.mono (by omega)) (by rfl) pass0 (pa_cons (pv 0) (pa_cons pe_int pa_nil))) pe_int) (pa_cons pe_int pa_nil))) (pa_cons pe_int (pa_cons pe_int pa_nil))))) (pss_cons (ps_set (i := 2) sc__law_two.nd rfl (by first | exact Or.inl rfl | exact Or.inr rfl) (pe_op op_modN (pe_df D__law_cell_at (hr.mono (by omega)) (by rfl) pass0 (pa_cons (pv 0) (pa_cons pe_int pa_nil))) pe_int)) (pss_cons (ps_if (pt_cmpR (op_eqP (un_of hr)) (pv 2) pe_int (nomark _)) (pss_one (ps_ret (pe_tup (pa_cons (pv 1) (pa_cons (pe_df D__law_drawn (hr.mono (by omega)) (by rfl) pass0 (pa_cons (pe_df D__law_cell_at (hr.mono (by omega)) (by rfl) pass0 (pa_cons (pv 0) (pa_cons pe_int pa_nil))) (pa_cons pe_int (pa_cons pe_int pa_nil)))) pa_nil))))) pss_nil) (pss_cons (ps_if (pt_cmpR (op_eqP (un_of hr)) (pv 2) pe_int (nomark _)) (pss_one (ps_ret (pe_tup (pa_cons (pv 1) (pa_cons (pe_df D__law_looser (hr.mono (by omega)) (by rfl) pass0 (pa_cons (pv 1) (pa_cons (pe_df D__law_cell_at (hr.mono (by omega)) (by rfl) pass0 (pa_cons (pv 0) (pa_cons pe_int pa_nil))) (pa_cons pe_int pa_nil)))) pa_nil))))) pss_nil) (pss_cons (ps_set (i := 3) sc__law_two.nd rfl (by first | exact Or.inl rfl | exact Or.inr rfl) (pe_df D__law_filled (hr.mono (by omega)) (by rfl) pass0 (pa_cons (pv 1) (pa_cons (pe_df D__law_filling (hr.mono (by omega)) (by rfl) pass0 (pa_cons (pe_df D__law_cell_at (hr.mono (by omega)) (by rfl) pass0 (pa_cons (pv 0) (pa_cons pe_int pa_nil))) (pa_cons (pe_lst (pa_cons pe_int (pa_cons pe_int (pa_cons pe_int (pa_cons pe_int pa_nil))))) (pa_cons pe_int (pa_cons pe_int pa_nil))))) pa_nil)))) (pss_one (ps_ret (pe_tup (pa_cons (pv 3) (pa_cons (pe_df D__law_filled (hr.mono (by omega)) (by rfl) pass0 (pa_cons (pv 1) (pa_cons (pe_df D__law_filling (hr.mono (by omega)) (by rfl) pass0 (pa_cons (pe_df D__law_cell_at (hr.mono (by omega)) (by rfl) pass0 (pa_cons (pv 0) (pa_cons pe_int pa_nil))) (pa_cons (pe_lst (pa_cons pe_int (pa_cons pe_int (pa_cons pe_int (pa_cons pe_int pa_nil))))) (pa_cons pe_int (pa_cons pe_int pa_nil))))) pa_nil))) pa_nil)))))))))), ?_⟩
  refine w_sbudget (c := cellAt ns 0 % 2147483647) (b := 10) (many := 4) (deep := 4) (ev_mod (ev_cell (k := 0) rfl hS) ev_int (by decide)) (Int.emod_nonneg _ (by decide)) (Int.emod_lt_of_pos _ (by decide)) (by decide) (by decide) (by decide) fun form vf H1 s1 rf gdf dpf sgf => ?_
  have hS1 := s1.seq hS
  have gF : Gd form 4 18 := ⟨Fm.gd_mono (by decide) gdf, dpf, by omega⟩
  refine w_sset (ev_mod (ev_cell (k := 1) rfl hS1) ev_int (by decide)) fun v H2 s2 r2 => ?_
  cases (show v = V.int (cellAt ns 1 % 3) from r2)
  have hS2 := s2.seq hS1
  have s02 := s1.trans s2
  have rf2 := rf.mono s2
  generalize cellAt ns 1 % 3 = way
  have wv : ∀ H', Rp H' (.int way) (.int way) := fun _ => rfl
  refine w_guard (et_test (ev_eq (ev_var (i := 2) rfl (wv _)) ev_int (okD_int _) (okD_int _))) (fun c' H3 s3 => ?_) (fun c' H3 s3 => ?_)
  · -- both drawn
    have hS3 := s3.seq hS2
    refine ⟨vf, rfl, ?_⟩
    refine ev_cell (i := 0) (k := 2) rfl hS3 H3 (Same.refl _) _ fun v4 H4 s4 r4 => ?_
    cases (show v4 = V.int (cellAt ns 2) from r4)
    refine ⟨cellAt ns 2, 4, 4, rfl, by decide, by decide, by decide, fun g v H5 s5 r gd dp sg => ?_⟩
    refine ⟨by show 2 ≤ sizeLine; decide, fun t ht => ?_⟩
    have s6 : Same H5 (upd H5 t (.tup [vf, v])) := Fx.Same.new ht
    have s35 := (s3.trans s4).trans s5
    exact q form g _ _ ((s02.trans s35).trans s6) ⟨t, _, rfl, upd_same, .cons ((rf2.mono s35).mono s6) (.cons (r.mono s6) .nil)⟩ ⟨gF.ok, Fm.gd_ok (show g.gd 1000 = true from Fm.gd_mono (by decide) gd), by omega, by omega, by omega, by omega, ShOk.four dpf dp⟩
  refine w_guard (et_test (ev_eq (ev_var (i := 2) rfl (wv _)) ev_int (okD_int _) (okD_int _))) (fun c' H4 s4 => ?_) (fun c' H4 s4 => ?_)
  · -- a looser one
    have hS4 := s4.seq (s3.seq hS2)
    refine ⟨vf, rfl, ?_⟩
    refine ⟨vf, rfl, ?_⟩
    refine ev_cell (i := 0) (k := 2) rfl hS4 H4 (Same.refl _) _ fun v5 H5 s5 r5 => ?_
    cases (show v5 = V.int (cellAt ns 2) from r5)
    have s35 := (s3.trans s4).trans s5
    refine ⟨vf, form, cellAt ns 2, 50, rfl, rf2.mono s35, gF.gd, by omega, by omega, by omega, by decide, by decide, fun g v H6 s6 r l => ?_⟩
    refine ⟨by show 2 ≤ sizeLine; decide, fun t ht => ?_⟩
    have s7 : Same H6 (upd H6 t (.tup [vf, v])) := Fx.Same.new ht
    have m4 : (cellAt ns 2 % 4).toNat ≤ 3 := by
      have h0 : 0 ≤ cellAt ns 2 % 4 := Int.emod_nonneg _ (by decide)
      have h1 : cellAt ns 2 % 4 < 4 := Int.emod_lt_of_pos _ (by decide)
      omega
    have gG := gF.loose l (by decide) (by omega)
    have d1 := gG.dep
    have d2 := gG.sg
    have s36 := s35.trans s6
    exact q form g _ _ ((s02.trans s36).trans s7) ⟨t, _, rfl, upd_same, .cons ((rf2.mono s36).mono s7) (.cons (r.mono s7) .nil)⟩ ⟨gF.ok, gG.ok, by omega, by omega, by omega, by omega, ShOk.four dpf d1⟩
  · -- two fillings of one form
    have s24 := s3.trans s4
    have hS4 := s24.seq hS2
    have rf4 := rf2.mono s24
    refine w_sff (ns := [0, 1, 2, 3]) (many := 3) (deep := 2) (ev_var (i := 1) rfl rf4) (ea_cons (ev_cell (k := 2) rfl hS4) (ea_cons (ev_lst (ea_cons ev_int (ea_cons ev_int (ea_cons ev_int (ea_cons ev_int ea_nil))))) (ea_cons ev_int (ea_cons ev_int ea_nil)))) (by decide) (by decide) (by decide) (by decide) (by decide) (by omega) gF.ok fun m1 v1 H5 s5 r1 d1 => ?_
    have hS5 := s5.seq hS4
    refine w_rff (ns := [0, 1, 2, 3]) (many := 3) (deep := 2) (ev_var (i := 3) rfl r1) (ev_var (i := 1) rfl (rf4.mono s5)) (ea_cons (ev_cell (k := 3) rfl hS5) (ea_cons (ev_lst (ea_cons ev_int (ea_cons ev_int (ea_cons ev_int (ea_cons ev_int ea_nil))))) (ea_cons ev_int (ea_cons ev_int ea_nil)))) (by decide) (by decide) (by decide) (by decide) (by decide) (by omega) gF.ok fun m2 v2 H6 s6 r2 d2 => ?_
    have gO : Gd (fill m1 form) 6 90 := gF.fill d1 (by decide) (k := 5) (by decide) fun p hp => gd_sg2 (d1.2 p hp).1 (d1.2 p hp).2.1
    have gT : Gd (fill m2 form) 6 90 := gF.fill d2 (by decide) (k := 5) (by decide) fun p hp => gd_sg2 (d2.2 p hp).1 (d2.2 p hp).2.1
    have e1 : fill m1 form = sub (lkd m1) form := fill_sub m1 form
    have e2 : fill m2 form = sub (lkd m2) form := fill_sub m2 form
    have k1 := d1.lkd_dep (by decide)
    have k2 := d2.lkd_dep (by decide)
    have sh12 : ShOk [] (fill m1 form) (fill m2 form) := by rw [e1, e2]; exact ShOk.fills fun k _ => ⟨by have := k1 k; omega, by have := k2 k; omega⟩
    have o1 := gO.dep
    have o2 := gO.sg
    have t1 := gT.dep
    have t2 := gT.sg
    exact q _ _ _ _ ((s02.trans s24).trans (s5.trans s6)) r2 ⟨gO.ok, gT.ok, o1, t1, by omega, by omega, sh12⟩
end
theorem law_fn {P : Program} {w : World} {K : PySem.W.Frag} {mg : Str → Option Value} {fa : Addr} (T : Tp K mg) (hfa : mg "law" = some (.ref fa)) :
    ∃ fd : FuncData, (∀ (s : Shared) (u : Value), BindsTo s fd ⟨[u], []⟩ [("script", u)]) ∧ ∀ base : Heap, K.In base → base.Ns mainGlobals mg → FnOk P w K mg base CX0 75 fa fd ["script"] (spLaw K) := by
  refine T.b_law.law hfa sc_law spLaw.len (fun base f0 cdv A outer s H vs Q E hr h => ?_)
  have D__law_two := ok_law_two (P := P) (w := w) (base := base) T
  have D__law_common := ok_law_common (P := P) (w := w) (base := base) T 50
  have D__law_is_form := ok_law_is_form (P := P) (w := w) (base := base) T 50
  have D__law_is_filling := ok_law_is_filling (P := P) (w := w) (base := base) T 50 (by decide)
  have D_common := ok_common (P := P) (w := w) (base := base) T 50
  obtain ⟨a, ns, rfl, hS, h63, q⟩ := h
  refine ⟨_, (pss_cons (ps_asg (pe_df D__law_two (hr.mono (by omega)) (by rfl) pass0 (pa_cons (pv 0) pa_nil)) (pg_tup (by rfl) (pgs_cons (pg_name (i := 1) sc_law.nd rfl (by first | exact Or.inl rfl | exact Or.inr rfl)) (pgs_cons (pg_name (i := 2) sc_law.nd rfl (by first | exact Or.inl rfl | exact Or.inr rfl)) pgs_nil)))) (pss_cons (ps_set (i := 3) sc_law.nd rfl (by first | exact Or.inl rfl | exact Or.inr rfl) (pe_lst pa_nil)) (pss_cons (ps_set (i := 4) sc_law.nd rfl (by first | exact Or.inl rfl | exact Or.inr rfl) (pe_df D__law_common (hr.mono (by omega)) (by rfl) pass0 (pa_cons (pv 1) (pa_cons (pv 2) (pa_cons (pv 3) pa_nil))))) (pss_cons (ps_set (i := 5) sc_law.nd rfl (by first | exact Or.inl rfl | exact Or.inr rfl) pe_dnewK) (pss_cons (ps_set (i := 6) sc_law.nd rfl (by first | exact Or.inl rfl | exact Or.inr rfl) pe_dnewK) (pss_cons (ps_for PassesOwn.never rfl (pi_range1 (by rfl) T.z_range (pa_cons (pe_callB cr_len (by rfl) T.z_len (by decide +kernel) (pa_cons (pv 3) pa_nil)) pa_nil)) (pg_name (i := 7) sc_law.nd rfl (by first | exact Or.inl rfl | exact Or.inr rfl)) (pss_cons (ps_dput (hu_of hr) (pv 5) (pv 7) (pe_ix ix_tup (pe_ix ix_list (pv 3) (pv 7) (fun _ _ => rfl)) pe_int (fun _ _ => rfl)) rfl) (pss_one (ps_dput (hu_of hr) (pv 6) (pv 7) (pe_ix ix_tup (pe_ix ix_list (pv 3) (pv 7) (fun _ _ => rfl)) pe_int (fun _ _ => rfl)) rfl)))) (pss_cons (ps_for PassesOwn.never rfl (pi_range1 (by rfl) T.z_range (pa_cons pe_int pa_nil)) (pg_name (i := 8) sc_law.nd rfl (by first | exact Or.inl rfl | exact Or.inr rfl)) (pss_cons (ps_set (i := 9) sc_law.nd rfl (by first | exact Or.inl rfl | exact Or.inr rfl) (pe_df D_common (hr.mono (by omega)) (by rfl) pass0 (pa_cons (pv 1) (pa_cons (pv 2) pa_nil)))) (pss_cons (ps_if (PW.pt (pw_or (pt_not (pt_val (pe_callB call_isi (by rfl) T.z_isinstance (by decide +kernel) (pa_cons (pv 9) (pa_cons (pe_bltn (v := .ty "tuple") (by rfl) T.z_tuple (by decide +kernel) rfl) pa_nil))))) (pw_or (pt_cmpR (op_neP (un_of hr)) (pe_callB cr_len (by rfl) T.z_len (by decide +kernel) (pa_cons (pv 9) pa_nil)) pe_int (nomark _)) (pw_or (pt_not (pt_val (pe_df D__law_is_form (hr.mono (by omega)) (by rfl) pass0 (pa_cons (pe_ix ix_tup (pv 9) pe_int (fun _ _ => rfl)) pa_nil)))) (pw_or1 (pt_cmpR (op_neP (un_of hr)) (pe_ix ix_tup (pv 9) pe_int (fun _ _ => rfl)) (pv 4) (nomark _))))))) (pss_one (ps_ret pe_bl)) pss_nil) (pss_cons (ps_if (PW.pt (pw_or (pt_not (pt_val (pe_df D__law_is_filling (hr.mono (by omega)) (by rfl) pass0 (pa_cons (pe_ix ix_tup (pv 9) pe_int (fun _ _ => rfl)) (pa_cons (pv 5) pa_nil))))) (pw_or1 (pt_not (pt_val (pe_df D__law_is_filling (hr.mono (by omega)) (by rfl) pass0 (pa_cons (pe_ix ix_tup (pv 9) pe_int (fun _ _ => rfl)) (pa_cons (pv 6) pa_nil)))))))) (pss_one (ps_ret pe_bl)) pss_nil) (pss_cons (ps_expr (pe_bm0 PySem.F.plainAttrs_dict PySem.F.slot_dict_clear PySem.F.type_dict_clear mtd_clear (pe_ix ix_tup (pv 9) pe_int (fun _ _ => rfl)))) (pss_one (ps_expr (pe_bm0 PySem.F.plainAttrs_dict PySem.F.slot_dict_clear PySem.F.type_dict_clear mtd_clear (pe_ix ix_tup (pv 9) pe_int (fun _ _ => rfl)))))))))) (pss_one (ps_ret pe_bl))))))))), ?_⟩
  refine ⟨.ref a, rfl, a, ns, rfl, hS, fun f g v H1 s1 r1 tw => ?_⟩
  refine w_gtup2 r1 fun vf vg rf rg => ?_
  have tf := tw.df
  have tg := tw.dg
  have tsf := tw.sf
  have tsg := tw.sg
  have cm : CmOk 50 f g := ⟨tw.okf, tw.okg, by omega, by omega, tw.sh⟩
  have okl := lgg_ok (g := g) tw.okf
  have dl := lgg_dep f g
  have hTl : (lgT f g).length ≤ 200 := by
    have h1 := sh_len f g []
    simp only [List.length_nil] at h1
    show (sh f g []).2.length ≤ 200
    omega
  have dL := Fm.okD okl (by omega)
  refine w_slnew fun l hl => ?_
  have s2 : Same H1 (upd H1 l (.lst [])) := Fx.Same.new hl
  have el2 : (upd H1 l (.lst [])) l = some (.lst []) := upd_same
  generalize upd H1 l (.lst []) = H2 at s2 el2
  refine w_sasg ⟨vf, rfl, vg, rfl, .ref l, rfl, vf, vg, l, [], f, g, [], rfl, rf.mono s2, rg.mono s2, el2, (show RpL H2 [] [] from rfl), tw.okf, tw.okg, by omega, by omega, by omega, (fun p hp => by cases hp), by simp; omega, fun vd H3 ys kb3 el3 rL3 rd3 => ?_⟩
  have s13 : Same H1 H3 := fun b o hb => kb3 b o (ne_of_none hb hl) (s2 _ _ hb)
  have rd3 : Rp H3 (lgg f g).d vd := rd3
  have rL3 : RpL H3 ((lgT f g).map encK) ys := rL3
  have rf3 := rf.mono s13
  have rg3 := rg.mono s13
  refine w_sdnew fun pl hpl => ?_
  have s4 : Same H3 (upd H3 pl (.dK [])) := Fx.Same.new hpl
  have e4 : (upd H3 pl (.dK [])) pl = some (.dK []) := upd_same
  generalize upd H3 pl (.dK []) = H4 at s4 e4
  refine w_sdnew fun pr hpr => ?_
  have s5 : Same H4 (upd H4 pr (.dK [])) := Fx.Same.new hpr
  have e5 : (upd H4 pr (.dK [])) pr = some (.dK []) := upd_same
  have hplr : pl ≠ pr := ne_of_none e4 hpr
  have el5 := s5 _ _ e4
  generalize upd H4 pr (.dK []) = H5 at s5 e5 el5
  have hprH : H3 pr = none := s4.free hpr
  have s35 := s4.trans s5
  have rL5 := rL3.mono s35
  have e35 := s35 _ _ el3
  refine w_sfor (ei_range1 (n := (lgT f g).length) ((ev_cb (ea_cons (ev_var (i := 3) (d := .list ((lgT f g).map encK)) rfl ⟨l, ys, rfl, e35, rL5⟩) ea_nil) cd_lenL).to (by simp)) (by omega)) fun H6 s6 => ?_
  have s36 := s35.trans s6
  refine ⟨fun i σ' H' => i ≤ (lgT f g).length ∧ ∃ (xl xr : List (Key × V)) (x : Option V), σ' = [some (.ref a), some vf, some vg, some (.ref l), some vd, some (.ref pl), some (.ref pr), x, none, none] ∧ Same H3 H' ∧ H' pl = some (.dK xl) ∧ RpI H' (imF (fiF Prod.fst 0 ((lgT f g).take i))) xl ∧ H' pr = some (.dK xr) ∧ RpI H' (imF (fiF Prod.snd 0 ((lgT f g).take i))) xr, ?_, ?_, ?_⟩
  · exact ⟨Nat.zero_le _, [], [], none, rfl, s36, s6 _ _ el5, rfl, s6 _ _ e5, rfl⟩
  · rintro i d x σ' H' H7 ed kt0 ⟨hi, xl, xr, x0, rfl, sH, el, rl, er, rr⟩ s7 rx
    obtain ⟨rfl, hi'⟩ : d = .int (i : Int) ∧ i < (lgT f g).length := by
      have h := (List.getElem?_eq_some_iff.mp ed).1
      simp only [List.length_map, List.length_range] at h
      rw [List.getElem?_map, List.getElem?_range (by simpa using h)] at ed
      exact ⟨(Option.some.inj ed).symm, h⟩
    cases (show x = V.int i from rx)
    obtain ⟨pq, epr⟩ : ∃ pq, (lgT f g)[i]? = some pq := ⟨_, List.getElem?_eq_getElem hi'⟩
    have tk : (lgT f g).take (i + 1) = (lgT f g).take i ++ [pq] := by rw [List.take_add_one, epr]; rfl
    have hti : ((lgT f g).take i).length = i := by rw [List.length_take]; omega
    have key : ∀ (h : Fm × Fm → Fm), pt (fiF h 0 ((lgT f g).take i)) (i : Int) (h pq) = fiF h 0 ((lgT f g).take (i + 1)) := fun h => by
      rw [tk, fiF_snoc, pt_new fun z => by have := fiF_key h _ _ _ z; omega, hti, Nat.zero_add]
    have sH7 := sH.trans s7
    have el7 := s7 _ _ el
    have er7 := s7 _ _ er
    have pk : ∀ {H' : Hp} {y z : Option V}, Same H3 H' → EvD (tOp (rIxL K) (tVar 3) (tVar 7)) [some (.ref a), some vf, some vg, some (.ref l), some vd, some (.ref pl), some (.ref pr), some (.int (i : Int)), y, z] H' (.tuple [pq.1.d, pq.2.d]) := fun s => ev_ixL (ds := (lgT f g).map encK) (ev_var (i := 3) rfl ⟨l, ys, rfl, s _ _ el3, rL3.mono s⟩) (ev_var (i := 7) (d := .int (i : Int)) rfl rfl) (atI_nat (by rw [List.getElem?_map, epr]; rfl))
    refine w_sdput (i := 5) (xs := xl) (k := (i : Int)) (d := pq.1.d) rfl el7 (ev_ixT (pk sH7) ev_int rfl) (ev_var (i := 7) (d := .int (i : Int)) rfl rfl) ?_ fun v8 H8 s8 r8 => ?_
    · rw [rl.length, imF, List.length_map, fiF_len, hti]; omega
    have el8 := s8 _ _ el7
    have kt9 : KT H8 (upd H8 pl (.dK (putK xl (.inl (i : Int)) v8))) := KT.upd fun ts => by rw [el8]; intro z; cases z
    have rl9 := RpI.put (d := pq.1.d) ((rl.mono s7).mono s8) r8 (k := (i : Int))
    rw [putI_imF, key Prod.fst] at rl9
    have rl9 := RpI.kt kt9 (imF_imm _) rl9
    have rr9 := RpI.kt kt9 (imF_imm _) ((rr.mono s7).mono s8)
    have er9 : (upd H8 pl (.dK (putK xl (.inl (i : Int)) v8))) pr = some (.dK xr) := by rw [upd_ne (Ne.symm hplr)]; exact s8 _ _ er7
    have el9 : (upd H8 pl (.dK (putK xl (.inl (i : Int)) v8))) pl = some (.dK (putK xl (.inl (i : Int)) v8)) := upd_same
    have sH9 : Same H3 (upd H8 pl (.dK (putK xl (.inl (i : Int)) v8))) := Fx.Same.put (sH7.trans s8) hpl
    have ktA := ((KT.of s7).trans (KT.of s8)).trans kt9
    generalize upd H8 pl (.dK (putK xl (.inl (i : Int)) v8)) = H9 at kt9 rl9 rr9 er9 el9 sH9 ktA
    refine w_dput (i := 6) (xs := xr) (k := (i : Int)) (d := pq.2.d) rfl er9 (ev_ixT (pk sH9) ev_int rfl) (ev_var (i := 7) (d := .int (i : Int)) rfl rfl) ?_ fun v10 H10 s10 r10 => ?_
    · rw [rr.length, imF, List.length_map, fiF_len, hti]; omega
    have er10 := s10 _ _ er9
    have kt11 : KT H10 (upd H10 pr (.dK (putK xr (.inl (i : Int)) v10))) := KT.upd fun ts => by rw [er10]; intro z; cases z
    have rr11 := RpI.put (d := pq.2.d) (rr9.mono s10) r10 (k := (i : Int))
    rw [putI_imF, key Prod.snd] at rr11
    exact ⟨kt0.trans ((ktA.trans (KT.of s10)).trans kt11), hi', _, _, _, rfl, Fx.Same.put (sH9.trans s10) hprH, by rw [upd_ne hplr]; exact s10 _ _ el9, RpI.kt kt11 (imF_imm _) (rl9.mono s10), upd_same, RpI.kt kt11 (imF_imm _) rr11⟩
  · rintro σ' H' kt0 ⟨hi, xl, xr, x0, rfl, sH, el, rl, er, rr⟩
    have hzl : ((List.range (lgT f g).length).map fun (i : Nat) => PyData.int (i : Int)).length = (lgT f g).length := by simp
    rw [hzl, List.take_length] at rl rr
    have rfH := rf3.mono sH
    have rgH := rg3.mono sH
    have rdH := rd3.mono sH
    clear kt0 hi
    refine w_sfor (ei_range1 (n := 2) ev_int (by decide)) fun H7 s7 => ?_
    refine ⟨fun i σ' H8 => ∃ (y z : Option V), σ' = [some (.ref a), some vf, some vg, some (.ref l), some vd, some (.ref pl), some (.ref pr), x0, y, z] ∧ Same H' H8, ?_, ?_, ?_⟩
    · exact ⟨none, none, rfl, s7⟩
    · rintro i d x σ' H8 H9 ed kt8 ⟨y0, z0, rfl, sH8⟩ s9 rx
      have s09 := sH8.trans s9
      refine w_sasg ⟨vf, rfl, vg, rfl, vf, vg, f, g, rfl, rfH.mono s09, rgH.mono s09, cm, fun t vc p1 p2 xs1 xs2 H10 s10 et rc hp1 hp2 hp12 e1 q1 e2 q2 => ?_⟩
      have s0A := s09.trans s10
      have rF : Rp H10 (.tuple [(lgg f g).d, dF (fiF Prod.fst 0 (lgT f g)), dF (fiF Prod.snd 0 (lgT f g))]) (.ref t) := ⟨t, _, rfl, et, .cons rc (.cons ⟨p1, xs1, rfl, .inl e1, q1⟩ (.cons ⟨p2, xs2, rfl, .inl e2, q2⟩ .nil))⟩
      have rd10 := rdH.mono s0A
      refine w_pass ((et_or (et_not (et_B (ev_isi (ev_var (i := 9) rfl rF)))) fun _ => et_or (et_test (ev_ne (ev_cb (ea_cons (ev_var (i := 9) rfl rF) ea_nil) cd_lenT) ev_int (okD_int _) (okD_int _))) fun _ =>
        et_or (et_not (et_B (ev_call (d := .bool true) (ea_cons (ev_ixT (d := (lgg f g).d) (ev_var (i := 9) rfl rF) ev_int rfl) ea_nil) (spP.d ⟨lgg f g, rfl, rfl, by omega, okl⟩)))) fun _ =>
        et_test (ev_ne (d := (lgg f g).d) (e := (lgg f g).d) (ev_ixT (ev_var (i := 9) rfl rF) ev_int rfl) (ev_var (i := 4) rfl rd10) dL dL)).to (by rw [(Fm.eqv_iff _ _).mpr rfl]; rfl)) fun H11 s11 => ?_
      have s0B := s0A.trans s11
      have et11 := s11 _ _ et
      have e11 := s11 _ _ e1
      have e12 := s11 _ _ e2
      have k1 : OkFI (fiF Prod.fst 0 (lgT f g)) 50 := (okFI_fst tw.okf tw.okg).mono (by omega)
      have k2 : OkFI (fiF Prod.snd 0 (lgT f g)) 50 := (okFI_snd tw.okf tw.okg).mono (by omega)
      refine w_pass ((et_or (et_not (et_B (ev_isfilling (et_ix1 (i := 9) rfl et11 e11 (q1.mono s11)) (ev_var (i := 5) (d := dF (fiF Prod.fst 0 (lgT f g))) rfl ⟨pl, xl, rfl, .inl (s0B _ _ el), rl.mono s0B⟩) k1 k1 (fiF_nodup _ _ _) (deq_self _ _)))) fun _ =>
        et_not (et_B (ev_isfilling (et_ix2 (i := 9) rfl et11 e12 (q2.mono s11)) (ev_var (i := 6) (d := dF (fiF Prod.snd 0 (lgT f g))) rfl ⟨pr, xr, rfl, .inl (s0B _ _ er), rr.mono s0B⟩) k2 k2 (fiF_nodup _ _ _) (deq_self _ _)))).to rfl) fun H12 s12 => ?_
      have et12 := s12 _ _ et11
      have e121 := s12 _ _ e11
      have e122 := s12 _ _ e12
      have s0C := s0B.trans s12
      have h1' : H' p1 = none := s09.free hp1
      have h2' : H' p2 = none := s09.free hp2
      have t1 : p1 ≠ t := fun z => by rw [z, et12] at e121; cases e121
      have ktC : KT H12 (upd H12 p1 (.dK [])) := KT.upd fun ts => by rw [e121]; intro z; cases z
      refine w_sclear1 (i := 9) rfl et12 e121 ?_
      have et13 : (upd H12 p1 (.dK [])) t = some (.tup [vc, .ref p1, .ref p2]) := by rw [upd_ne (Ne.symm t1)]; exact et12
      have e132 : (upd H12 p1 (.dK [])) p2 = some (.dK xs2) := by rw [upd_ne (Ne.symm hp12)]; exact e122
      have s0D : Same H' (upd H12 p1 (.dK [])) := Fx.Same.put s0C h1'
      generalize upd H12 p1 (.dK []) = H13 at ktC et13 e132 s0D
      have ktD : KT H13 (upd H13 p2 (.dK [])) := KT.upd fun ts => by rw [e132]; intro z; cases z
      refine w_clear2 (i := 9) rfl et13 e132 ?_
      exact ⟨kt8.trans ((KT.of (s9.trans (s10.trans (s11.trans s12)))).trans (ktC.trans ktD)), _, _, rfl, Fx.Same.put s0D h2'⟩
    · rintro σ' H8 kt8 ⟨y0, z0, rfl, sH8⟩
      refine w_ret ev_bl fun v12 H12 _ r12 => ?_
      cases (show v12 = V.bl true from r12)
      exact q H12
theorem tp_mk {K : PySem.W.Frag} {h : Heap} {mg : Str → Option Value} (X : K.In h) (G : h.Ns mainGlobals mg)
    {od_0 an_0 : Option Addr} {sl_0 : Array (Option Value)} {oc_0 kV_0 dc_0 pm_0 cd_0 ct_0 : Value} {f_0 : Addr}
    {od_1 an_1 : Option Addr} {sl_1 : Array (Option Value)} {oc_1 kV_1 dc_1 pm_1 cd_1 ct_1 : Value} {f_1 : Addr}
    {od_2 an_2 : Option Addr} {sl_2 : Array (Option Value)} {oc_2 kV_2 dc_2 pm_2 cd_2 ct_2 : Value} {f_2 : Addr}
    {od_3 an_3 : Option Addr} {sl_3 : Array (Option Value)} {oc_3 kV_3 dc_3 pm_3 cd_3 ct_3 : Value} {f_3 : Addr}
    {od_4 an_4 : Option Addr} {sl_4 : Array (Option Value)} {oc_4 kV_4 dc_4 pm_4 cd_4 ct_4 : Value} {f_4 : Addr}
    {od_5 an_5 : Option Addr} {sl_5 : Array (Option Value)} {oc_5 kV_5 dc_5 pm_5 cd_5 ct_5 : Value} {f_5 : Addr}
    {od_6 an_6 : Option Addr} {sl_6 : Array (Option Value)} {oc_6 kV_6 dc_6 pm_6 cd_6 ct_6 : Value} {f_6 : Addr}
    {od_7 an_7 : Option Addr} {sl_7 : Array (Option Value)} {oc_7 kV_7 dc_7 pm_7 cd_7 ct_7 : Value} {f_7 : Addr}
    {od_8 an_8 : Option Addr} {sl_8 : Array (Option Value)} {oc_8 kV_8 dc_8 pm_8 cd_8 ct_8 : Value} {f_8 : Addr}
    {od_9 an_9 : Option Addr} {sl_9 : Array (Option Value)} {oc_9 kV_9 dc_9 pm_9 cd_9 ct_9 : Value} {f_9 : Addr}
    {od_10 an_10 : Option Addr} {sl_10 : Array (Option Value)} {oc_10 kV_10 dc_10 pm_10 cd_10 ct_10 : Value} {f_10 : Addr}
    {od_11 an_11 : Option Addr} {sl_11 : Array (Option Value)} {oc_11 kV_11 dc_11 pm_11 cd_11 ct_11 : Value} {f_11 : Addr}
    {od_12 an_12 : Option Addr} {sl_12 : Array (Option Value)} {oc_12 kV_12 dc_12 pm_12 cd_12 ct_12 : Value} {f_12 : Addr}
    {od_13 an_13 : Option Addr} {sl_13 : Array (Option Value)} {oc_13 kV_13 dc_13 pm_13 cd_13 ct_13 : Value} {f_13 : Addr}
    {od_14 an_14 : Option Addr} {sl_14 : Array (Option Value)} {oc_14 kV_14 dc_14 pm_14 cd_14 ct_14 : Value} {f_14 : Addr}
    {od_15 an_15 : Option Addr} {sl_15 : Array (Option Value)} {oc_15 kV_15 dc_15 pm_15 cd_15 ct_15 : Value} {f_15 : Addr}
    {od_16 an_16 : Option Addr} {sl_16 : Array (Option Value)} {oc_16 kV_16 dc_16 pm_16 cd_16 ct_16 : Value} {f_16 : Addr}
    (a_0 : PySem.W.nsIn K mainGlobals "same_kind" = some (some (.ref f_0))) (l_0 : K.lookup f_0 = some ⟨oc_0, od_0, .func (PySem.W.fnOf "same_kind" "same_kind" (defArgs s_same_kind) (defBody s_same_kind) (defScope s_same_kind) .none kV_0 dc_0 pm_0 an_0 cd_0 ct_0), sl_0⟩) (c_0 : PySem.W.codeIn K cd_0 "same_kind" = true) (k_0 : PySem.W.keepIn K (.ref f_0) = true)
    (a_1 : PySem.W.nsIn K mainGlobals "shared" = some (some (.ref f_1))) (l_1 : K.lookup f_1 = some ⟨oc_1, od_1, .func (PySem.W.fnOf "shared" "shared" (defArgs s_shared) (defBody s_shared) (defScope s_shared) .none kV_1 dc_1 pm_1 an_1 cd_1 ct_1), sl_1⟩) (c_1 : PySem.W.codeIn K cd_1 "shared" = true) (k_1 : PySem.W.keepIn K (.ref f_1) = true)
    (a_2 : PySem.W.nsIn K mainGlobals "common" = some (some (.ref f_2))) (l_2 : K.lookup f_2 = some ⟨oc_2, od_2, .func (PySem.W.fnOf "common" "common" (defArgs s_common) (defBody s_common) (defScope s_common) .none kV_2 dc_2 pm_2 an_2 cd_2 ct_2), sl_2⟩) (c_2 : PySem.W.codeIn K cd_2 "common" = true) (k_2 : PySem.W.keepIn K (.ref f_2) = true)
    (a_3 : PySem.W.nsIn K mainGlobals "_law_cell_at" = some (some (.ref f_3))) (l_3 : K.lookup f_3 = some ⟨oc_3, od_3, .func (PySem.W.fnOf "_law_cell_at" "_law_cell_at" (defArgs s__law_cell_at) (defBody s__law_cell_at) (defScope s__law_cell_at) .none kV_3 dc_3 pm_3 an_3 cd_3 ct_3), sl_3⟩) (c_3 : PySem.W.codeIn K cd_3 "_law_cell_at" = true) (k_3 : PySem.W.keepIn K (.ref f_3) = true)
    (a_4 : PySem.W.nsIn K mainGlobals "_law_whole" = some (some (.ref f_4))) (l_4 : K.lookup f_4 = some ⟨oc_4, od_4, .func (PySem.W.fnOf "_law_whole" "_law_whole" (defArgs s__law_whole) (defBody s__law_whole) (defScope s__law_whole) .none kV_4 dc_4 pm_4 an_4 cd_4 ct_4), sl_4⟩) (c_4 : PySem.W.codeIn K cd_4 "_law_whole" = true) (k_4 : PySem.W.keepIn K (.ref f_4) = true)
    (a_5 : PySem.W.nsIn K mainGlobals "_law_form" = some (some (.ref f_5))) (l_5 : K.lookup f_5 = some ⟨oc_5, od_5, .func (PySem.W.fnOf "_law_form" "_law_form" (defArgs s__law_form) (defBody s__law_form) (defScope s__law_form) .none kV_5 dc_5 pm_5 an_5 cd_5 ct_5), sl_5⟩) (c_5 : PySem.W.codeIn K cd_5 "_law_form" = true) (k_5 : PySem.W.keepIn K (.ref f_5) = true)
    (a_6 : PySem.W.nsIn K mainGlobals "_law_drawn" = some (some (.ref f_6))) (l_6 : K.lookup f_6 = some ⟨oc_6, od_6, .func (PySem.W.fnOf "_law_drawn" "_law_drawn" (defArgs s__law_drawn) (defBody s__law_drawn) (defScope s__law_drawn) .none kV_6 dc_6 pm_6 an_6 cd_6 ct_6), sl_6⟩) (c_6 : PySem.W.codeIn K cd_6 "_law_drawn" = true) (k_6 : PySem.W.keepIn K (.ref f_6) = true)
    (a_7 : PySem.W.nsIn K mainGlobals "_law_filled" = some (some (.ref f_7))) (l_7 : K.lookup f_7 = some ⟨oc_7, od_7, .func (PySem.W.fnOf "_law_filled" "_law_filled" (defArgs s__law_filled) (defBody s__law_filled) (defScope s__law_filled) .none kV_7 dc_7 pm_7 an_7 cd_7 ct_7), sl_7⟩) (c_7 : PySem.W.codeIn K cd_7 "_law_filled" = true) (k_7 : PySem.W.keepIn K (.ref f_7) = true)
    (a_8 : PySem.W.nsIn K mainGlobals "_law_filling" = some (some (.ref f_8))) (l_8 : K.lookup f_8 = some ⟨oc_8, od_8, .func (PySem.W.fnOf "_law_filling" "_law_filling" (defArgs s__law_filling) (defBody s__law_filling) (defScope s__law_filling) .none kV_8 dc_8 pm_8 an_8 cd_8 ct_8), sl_8⟩) (c_8 : PySem.W.codeIn K cd_8 "_law_filling" = true) (k_8 : PySem.W.keepIn K (.ref f_8) = true)
    (a_9 : PySem.W.nsIn K mainGlobals "_law_is_form" = some (some (.ref f_9))) (l_9 : K.lookup f_9 = some ⟨oc_9, od_9, .func (PySem.W.fnOf "_law_is_form" "_law_is_form" (defArgs s__law_is_form) (defBody s__law_is_form) (defScope s__law_is_form) .none kV_9 dc_9 pm_9 an_9 cd_9 ct_9), sl_9⟩) (c_9 : PySem.W.codeIn K cd_9 "_law_is_form" = true) (k_9 : PySem.W.keepIn K (.ref f_9) = true)
    (a_10 : PySem.W.nsIn K mainGlobals "_law_is_filling" = some (some (.ref f_10))) (l_10 : K.lookup f_10 = some ⟨oc_10, od_10, .func (PySem.W.fnOf "_law_is_filling" "_law_is_filling" (defArgs s__law_is_filling) (defBody s__law_is_filling) (defScope s__law_is_filling) .none kV_10 dc_10 pm_10 an_10 cd_10 ct_10), sl_10⟩) (c_10 : PySem.W.codeIn K cd_10 "_law_is_filling" = true) (k_10 : PySem.W.keepIn K (.ref f_10) = true)
    (a_11 : PySem.W.nsIn K mainGlobals "_law_common" = some (some (.ref f_11))) (l_11 : K.lookup f_11 = some ⟨oc_11, od_11, .func (PySem.W.fnOf "_law_common" "_law_common" (defArgs s__law_common) (defBody s__law_common) (defScope s__law_common) .none kV_11 dc_11 pm_11 an_11 cd_11 ct_11), sl_11⟩) (c_11 : PySem.W.codeIn K cd_11 "_law_common" = true) (k_11 : PySem.W.keepIn K (.ref f_11) = true)
    (a_12 : PySem.W.nsIn K mainGlobals "_law_spots" = some (some (.ref f_12))) (l_12 : K.lookup f_12 = some ⟨oc_12, od_12, .func (PySem.W.fnOf "_law_spots" "_law_spots" (defArgs s__law_spots) (defBody s__law_spots) (defScope s__law_spots) .none kV_12 dc_12 pm_12 an_12 cd_12 ct_12), sl_12⟩) (c_12 : PySem.W.codeIn K cd_12 "_law_spots" = true) (k_12 : PySem.W.keepIn K (.ref f_12) = true)
    (a_13 : PySem.W.nsIn K mainGlobals "_law_opened" = some (some (.ref f_13))) (l_13 : K.lookup f_13 = some ⟨oc_13, od_13, .func (PySem.W.fnOf "_law_opened" "_law_opened" (defArgs s__law_opened) (defBody s__law_opened) (defScope s__law_opened) .none kV_13 dc_13 pm_13 an_13 cd_13 ct_13), sl_13⟩) (c_13 : PySem.W.codeIn K cd_13 "_law_opened" = true) (k_13 : PySem.W.keepIn K (.ref f_13) = true)
    (a_14 : PySem.W.nsIn K mainGlobals "_law_looser" = some (some (.ref f_14))) (l_14 : K.lookup f_14 = some ⟨oc_14, od_14, .func (PySem.W.fnOf "_law_looser" "_law_looser" (defArgs s__law_looser) (defBody s__law_looser) (defScope s__law_looser) .none kV_14 dc_14 pm_14 an_14 cd_14 ct_14), sl_14⟩) (c_14 : PySem.W.codeIn K cd_14 "_law_looser" = true) (k_14 : PySem.W.keepIn K (.ref f_14) = true)
    (a_15 : PySem.W.nsIn K mainGlobals "_law_two" = some (some (.ref f_15))) (l_15 : K.lookup f_15 = some ⟨oc_15, od_15, .func (PySem.W.fnOf "_law_two" "_law_two" (defArgs s__law_two) (defBody s__law_two) (defScope s__law_two) .none kV_15 dc_15 pm_15 an_15 cd_15 ct_15), sl_15⟩) (c_15 : PySem.W.codeIn K cd_15 "_law_two" = true) (k_15 : PySem.W.keepIn K (.ref f_15) = true)
    (a_16 : PySem.W.nsIn K mainGlobals "law" = some (some (.ref f_16))) (l_16 : K.lookup f_16 = some ⟨oc_16, od_16, .func (PySem.W.fnOf "law" "law" (defArgs s_law) (defBody s_law) (defScope s_law) .none kV_16 dc_16 pm_16 an_16 cd_16 ct_16), sl_16⟩) (c_16 : PySem.W.codeIn K cd_16 "law" = true) (k_16 : PySem.W.keepIn K (.ref f_16) = true)
    (z_len : PySem.W.nsIn K mainGlobals "len" = some none)
    (z_tuple : PySem.W.nsIn K mainGlobals "tuple" = some none)
    (z_isinstance : PySem.W.nsIn K mainGlobals "isinstance" = some none)
    (z_dict : PySem.W.nsIn K mainGlobals "dict" = some none)
    (z_list : PySem.W.nsIn K mainGlobals "list" = some none)
    (z_str : PySem.W.nsIn K mainGlobals "str" = some none)
    (z_int : PySem.W.nsIn K mainGlobals "int" = some none)
    (z_sum : PySem.W.nsIn K mainGlobals "sum" = some none)
    (z_range : PySem.W.nsIn K mainGlobals "range" = some none)
    (z_zip : PySem.W.nsIn K mainGlobals "zip" = some none)
    (z_bool : PySem.W.nsIn K mainGlobals "bool" = some none) : Tp K mg := by
  exact ⟨PySem.W.mg_none_of X G z_len,
    PySem.W.mg_none_of X G z_tuple,
    PySem.W.mg_none_of X G z_isinstance,
    PySem.W.mg_none_of X G z_dict,
    PySem.W.mg_none_of X G z_list,
    PySem.W.mg_none_of X G z_str,
    PySem.W.mg_none_of X G z_int,
    PySem.W.mg_none_of X G z_sum,
    PySem.W.mg_none_of X G z_range,
    PySem.W.mg_none_of X G z_zip,
    PySem.W.mg_none_of X G z_bool,
    ⟨f_0, _, fun_mk (st := s_same_kind) l_0 c_0 k_0, fun us hl => match us, hl with | [_, _], _ => rfl, PySem.W.mg_of X G a_0⟩,
    ⟨f_1, _, fun_mk (st := s_shared) l_1 c_1 k_1, fun us hl => match us, hl with | [_, _, _], _ => rfl, PySem.W.mg_of X G a_1⟩,
    ⟨f_2, _, fun_mk (st := s_common) l_2 c_2 k_2, fun us hl => match us, hl with | [_, _], _ => rfl, PySem.W.mg_of X G a_2⟩,
    ⟨f_3, _, fun_mk (st := s__law_cell_at) l_3 c_3 k_3, fun us hl => match us, hl with | [_, _], _ => rfl, PySem.W.mg_of X G a_3⟩,
    ⟨f_4, _, fun_mk (st := s__law_whole) l_4 c_4 k_4, fun us hl => match us, hl with | [_], _ => rfl, PySem.W.mg_of X G a_4⟩,
    ⟨f_5, _, fun_mk (st := s__law_form) l_5 c_5 k_5, fun us hl => match us, hl with | [_, _, _], _ => rfl, PySem.W.mg_of X G a_5⟩,
    ⟨f_6, _, fun_mk (st := s__law_drawn) l_6 c_6 k_6, fun us hl => match us, hl with | [_, _, _], _ => rfl, PySem.W.mg_of X G a_6⟩,
    ⟨f_7, _, fun_mk (st := s__law_filled) l_7 c_7 k_7, fun us hl => match us, hl with | [_, _], _ => rfl, PySem.W.mg_of X G a_7⟩,
    ⟨f_8, _, fun_mk (st := s__law_filling) l_8 c_8 k_8, fun us hl => match us, hl with | [_, _, _, _], _ => rfl, PySem.W.mg_of X G a_8⟩,
    ⟨f_9, _, fun_mk (st := s__law_is_form) l_9 c_9 k_9, fun us hl => match us, hl with | [_], _ => rfl, PySem.W.mg_of X G a_9⟩,
    ⟨f_10, _, fun_mk (st := s__law_is_filling) l_10 c_10 k_10, fun us hl => match us, hl with | [_, _], _ => rfl, PySem.W.mg_of X G a_10⟩,
    ⟨f_11, _, fun_mk (st := s__law_common) l_11 c_11 k_11, fun us hl => match us, hl with | [_, _, _], _ => rfl, PySem.W.mg_of X G a_11⟩,
    ⟨f_12, _, fun_mk (st := s__law_spots) l_12 c_12 k_12, fun us hl => match us, hl with | [_, _, _], _ => rfl, PySem.W.mg_of X G a_12⟩,
    ⟨f_13, _, fun_mk (st := s__law_opened) l_13 c_13 k_13, fun us hl => match us, hl with | [_, _, _], _ => rfl, PySem.W.mg_of X G a_13⟩,
    ⟨f_14, _, fun_mk (st := s__law_looser) l_14 c_14 k_14, fun us hl => match us, hl with | [_, _, _], _ => rfl, PySem.W.mg_of X G a_14⟩,
    ⟨f_15, _, fun_mk (st := s__law_two) l_15 c_15 k_15, fun us hl => match us, hl with | [_], _ => rfl, PySem.W.mg_of X G a_15⟩,
    ⟨f_16, _, fun_mk (st := s_law) l_16 c_16 k_16, fun us hl => match us, hl with | [_], _ => rfl, PySem.W.mg_of X G a_16⟩⟩

theorem walk {l : PySem.W.OpenLaw} {q : Program} {loose : List Str} {XP : (Str → Option Value) → Heap → Prop} {YP : World → Heap → Prop} {d : DefRec} {K : Params → PySem.W.Frag} (hn : l.most = some 63) (hdf : d.params.defaults = [])
    (hY : ∀ (w : World) (h : Heap), YP w h → (K w.params).In h)
    (F : ∀ (w : World) (mg : Str → Option Value) (fa : Addr) (h : Heap), (K w.params).In h → h.Ns mainGlobals mg → mg d.name = some (.ref fa) →
      ∃ fd : FuncData, (∀ (s : Shared) (u : Value), BindsTo s fd ⟨[u], []⟩ [("script", u)]) ∧ ∀ base : Heap, (K w.params).In base → base.Ns mainGlobals mg → FnOk l.prog w (K w.params) mg base CX0 75 fa fd ["script"] (spLaw (K w.params))) :
    PySem.W.WalkO q loose XP YP l.row.toRowW d [] (fun f vs => PySem.call f vs) :=
  L2.walk_of (n := 63) (k := 75) (x := "script") (CX := fun _ => CX0) (sp := fun w => spLaw (K w.params)) hn (by decide) hdf ⟨rfl, by decide, by decide⟩ hY F (fun _ _ a ns hl _ hS => ⟨a, ns, rfl, hS, hl, fun _ => rfl⟩) fun _ _ _ _ _ z => z
end Fx
open PySem PySem.W PyProof.Rows
set_option maxRecDepth 100000 in
set_option maxHeartbeats 0 in
theorem PySem.Challenge.cw_commonforms_k07_the_least_common_form_holds : PySem.Challenge.rw_commonforms_k07_the_least_common_form.Holds := by
  w_on; o_law; k_head; (case hw => w_witness2)
  k_fill
  refine Fx.walk (l := PySem.Challenge.rw_commonforms_k07_the_least_common_form) rfl rfl (fun w h Y => PySem.W.kIn_of Y) ?F
  case F =>
    intro w mg fa h KX G hmg
    refine' Fx.law_fn (Fx.tp_mk KX G ?a_0 ?l_0 ?c_0 ?k_0 ?a_1 ?l_1 ?c_1 ?k_1 ?a_2 ?l_2 ?c_2 ?k_2 ?a_3 ?l_3 ?c_3 ?k_3 ?a_4 ?l_4 ?c_4 ?k_4 ?a_5 ?l_5 ?c_5 ?k_5 ?a_6 ?l_6 ?c_6 ?k_6 ?a_7 ?l_7 ?c_7 ?k_7 ?a_8 ?l_8 ?c_8 ?k_8 ?a_9 ?l_9 ?c_9 ?k_9 ?a_10 ?l_10 ?c_10 ?k_10 ?a_11 ?l_11 ?c_11 ?k_11 ?a_12 ?l_12 ?c_12 ?k_12 ?a_13 ?l_13 ?c_13 ?k_13 ?a_14 ?l_14 ?c_14 ?k_14 ?a_15 ?l_15 ?c_15 ?k_15 ?a_16 ?l_16 ?c_16 ?k_16 ?z_len ?z_tuple ?z_isinstance ?z_dict ?z_list ?z_str ?z_int ?z_sum ?z_range ?z_zip ?z_bool) hmg
    (case a_0 => k_is); (case l_0 => k_is); (case c_0 => k_is); (case k_0 => k_is)
    (case a_1 => k_is); (case l_1 => k_is); (case c_1 => k_is); (case k_1 => k_is)
    (case a_2 => k_is); (case l_2 => k_is); (case c_2 => k_is); (case k_2 => k_is)
    (case a_3 => k_is); (case l_3 => k_is); (case c_3 => k_is); (case k_3 => k_is)
    (case a_4 => k_is); (case l_4 => k_is); (case c_4 => k_is); (case k_4 => k_is)
    (case a_5 => k_is); (case l_5 => k_is); (case c_5 => k_is); (case k_5 => k_is)
    (case a_6 => k_is); (case l_6 => k_is); (case c_6 => k_is); (case k_6 => k_is)
    (case a_7 => k_is); (case l_7 => k_is); (case c_7 => k_is); (case k_7 => k_is)
    (case a_8 => k_is); (case l_8 => k_is); (case c_8 => k_is); (case k_8 => k_is)
    (case a_9 => k_is); (case l_9 => k_is); (case c_9 => k_is); (case k_9 => k_is)
    (case a_10 => k_is); (case l_10 => k_is); (case c_10 => k_is); (case k_10 => k_is)
    (case a_11 => k_is); (case l_11 => k_is); (case c_11 => k_is); (case k_11 => k_is)
    (case a_12 => k_is); (case l_12 => k_is); (case c_12 => k_is); (case k_12 => k_is)
    (case a_13 => k_is); (case l_13 => k_is); (case c_13 => k_is); (case k_13 => k_is)
    (case a_14 => k_is); (case l_14 => k_is); (case c_14 => k_is); (case k_14 => k_is)
    (case a_15 => k_is); (case l_15 => k_is); (case c_15 => k_is); (case k_15 => k_is)
    (case a_16 => k_is); (case l_16 => k_is); (case c_16 => k_is); (case k_16 => k_is)
    (case z_len => k_is)
    (case z_tuple => k_is)
    (case z_isinstance => k_is)
    (case z_dict => k_is)
    (case z_list => k_is)
    (case z_str => k_is)
    (case z_int => k_is)
    (case z_sum => k_is)
    (case z_range => k_is)
    (case z_zip => k_is)
    (case z_bool => k_is)
