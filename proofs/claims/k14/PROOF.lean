import PyProof.Rows.All
import Wide.All
import OpenK.AllK
import Wide.FinOn
import HandS.ForMost
import HandS.ForExc
import HandS.Finally
import HandS.IsInst
import HandS.Deep
import HandS.TupAny
import HandS.Zip
import HandS.Conv
import HandS.Flow
import HandS.More
import HandS.ListEq
import HandS.SortKw
import HandS.ExcOwn
import HandS.ExcIs
import HandS.Text
import KE.RegKIsAll
import HandS.Codes
import HandS.SuiteRaise
import PySem.Challenge.RW_commonforms_k14_texts_refused
set_option Elab.async false
set_option linter.all false
set_option maxRecDepth 100000
set_option maxHeartbeats 4000000
/-! FxA: values as data (PyData): what stands at a value in a heap, what evaluates to which data. -/
namespace Fx
open PySem L2

def keyD : Key → PyData
  | .inl i => .int i
  | .inr s => .str s

mutual
/-- the value v, in the heap H, is the data d -/
def Rp (H : Hp) : PyData → V → Prop
  | .none, v => v = .non
  | .bool b, v => v = .bl b
  | .int i, v => v = .int i
  | .str s, v => v = .str s
  | .list ds, v => ∃ a xs, v = .ref a ∧ H a = some (.lst xs) ∧ RpL H ds xs
  | .tuple ds, v => ∃ a xs, v = .ref a ∧ H a = some (.tup xs) ∧ RpL H ds xs
  | .dict kvs, v => ∃ a xs, v = .ref a ∧ Rd H a (.dK xs) ∧ RpK H kvs xs
def RpL (H : Hp) : List PyData → List V → Prop
  | [], vs => vs = []
  | d :: ds, vs => ∃ v r, vs = v :: r ∧ Rp H d v ∧ RpL H ds r
def RpK (H : Hp) : List (PyData × PyData) → List (Key × V) → Prop
  | [], vs => vs = []
  | (k, d) :: ds, vs => ∃ p r, vs = p :: r ∧ k = keyD p.1 ∧ Rp H d p.2 ∧ RpK H ds r
end

/-- what may be read is as it was -/
structure Le (H H' : Hp) : Prop where
  ls : ∀ a xs, H a = some (.lst xs) → H' a = some (.lst xs)
  dk : ∀ a xs, Rd H a (.dK xs) → Rd H' a (.dK xs)
  tp : ∀ a xs, H a = some (.tup xs) → H' a = some (.tup xs)
/-- tuples are kept -/
def KT (H H' : Hp) : Prop := ∀ a xs, H a = some (.tup xs) → H' a = some (.tup xs)
theorem Le.refl (H : Hp) : Le H H := ⟨fun _ _ h => h, fun _ _ h => h, fun _ _ h => h⟩
theorem Le.trans {H H1 H2 : Hp} (a : Le H H1) (b : Le H1 H2) : Le H H2 := ⟨fun x u h => b.ls x u (a.ls x u h), fun x u h => b.dk x u (a.dk x u h), fun x u h => b.tp x u (a.tp x u h)⟩
theorem rd_same {H H' : Hp} (s : Same H H') {a : Addr} {u : HO} (h : Rd H a u) : Rd H' a u := by
  rcases h with h | ⟨o, h⟩
  · exact .inl (s _ _ h)
  · exact .inr ⟨o, s _ _ h⟩
theorem Le.of {H H' : Hp} (s : Same H H') : Le H H' := ⟨fun a u h => s _ _ h, fun a u h => rd_same s h, fun a xs h => s _ _ h⟩
theorem KT.refl (H : Hp) : KT H H := fun _ _ h => h
theorem KT.trans {H H1 H2 : Hp} (a : KT H H1) (b : KT H1 H2) : KT H H2 := fun x u h => b x u (a x u h)
theorem KT.of {H H' : Hp} (s : Same H H') : KT H H' := fun a xs h => s _ _ h
theorem KT.upd {H : Hp} {a : Addr} {o : HO} (h : ∀ xs, H a ≠ some (.tup xs)) : KT H (upd H a o) := fun b xs q => by
  rw [upd_ne (fun e => h xs (by rw [← e]; exact q))]; exact q
theorem rd_ne {H : Hp} {a d : Addr} {u o : HO} (e : a ≠ d) (h : Rd H a u) : Rd (upd H d o) a u := by
  rcases h with q | ⟨o', q⟩
  · exact .inl (by rw [upd_ne e]; exact q)
  · exact .inr ⟨o', by rw [upd_ne e]; exact q⟩
theorem Le.lock {H : Hp} {d : Addr} {kvs : List (Key × V)} (h : H d = some (.dK kvs)) (od : Obj) : Le H (upd H d (.frz od (.dK kvs))) := by
  refine ⟨fun a xs q => ?_, fun a xs q => ?_, fun a xs q => ?_⟩
  · rw [upd_ne (fun e => by subst e; rw [h] at q; cases q)]; exact q
  · by_cases e : a = d
    · subst e
      rcases q with q | ⟨_, q⟩
      · rw [h] at q; cases q; exact .inr ⟨od, upd_same⟩
      · rw [h] at q; cases q
    · exact rd_ne e q
  · rw [upd_ne (fun e => by subst e; rw [h] at q; cases q)]; exact q
theorem Le.unlock {H : Hp} {d : Addr} {kvs : List (Key × V)} {od : Obj} (h : H d = some (.frz od (.dK kvs))) : Le H (upd H d (.dK kvs)) := by
  refine ⟨fun a xs q => ?_, fun a xs q => ?_, fun a xs q => ?_⟩
  · rw [upd_ne (fun e => by subst e; rw [h] at q; cases q)]; exact q
  · by_cases e : a = d
    · subst e
      rcases q with q | ⟨_, q⟩
      · rw [h] at q; cases q
      · rw [h] at q; cases q; exact .inl upd_same
    · exact rd_ne e q
  · rw [upd_ne (fun e => by subst e; rw [h] at q; cases q)]; exact q
theorem Same.new {H : Hp} {p : Addr} {o : HO} (h : H p = none) : Same H (upd H p o) := fun b u q => by rw [upd_ne (ne_of_none q h)]; exact q
/-- a fresh address may be written -/
theorem Same.put {H H' : Hp} {p : Addr} {o : HO} (s : Same H H') (h : H p = none) : Same H (upd H' p o) := fun b u q => by rw [upd_ne (ne_of_none q h)]; exact s b u q

mutual
theorem Rp.le {H H' : Hp} (l : Le H H') : ∀ (d : PyData) (v : V), Rp H d v → Rp H' d v
  | .none, _, h => h
  | .bool _, _, h => h
  | .int _, _, h => h
  | .str _, _, h => h
  | .list ds, _, ⟨a, xs, e, r, q⟩ => ⟨a, xs, e, l.ls a xs r, RpL.le l ds xs q⟩
  | .tuple ds, _, ⟨a, xs, e, r, q⟩ => ⟨a, xs, e, l.tp a xs r, RpL.le l ds xs q⟩
  | .dict kvs, _, ⟨a, xs, e, r, q⟩ => ⟨a, xs, e, l.dk a xs r, RpK.le l kvs xs q⟩
theorem RpL.le {H H' : Hp} (l : Le H H') : ∀ (ds : List PyData) (vs : List V), RpL H ds vs → RpL H' ds vs
  | [], _, h => h
  | d :: ds, _, ⟨v, r, e, h, q⟩ => ⟨v, r, e, Rp.le l d v h, RpL.le l ds r q⟩
theorem RpK.le {H H' : Hp} (l : Le H H') : ∀ (ds : List (PyData × PyData)) (vs : List (Key × V)), RpK H ds vs → RpK H' ds vs
  | [], _, h => h
  | (k, d) :: ds, _, ⟨p, r, e, ek, h, q⟩ => ⟨p, r, e, ek, Rp.le l d p.2 h, RpK.le l ds r q⟩
end
theorem Rp.mono {H H' : Hp} {d : PyData} {v : V} (h : Rp H d v) (s : Same H H') : Rp H' d v := Rp.le (Le.of s) d v h
theorem RpL.mono {H H' : Hp} {d : List PyData} {v : List V} (h : RpL H d v) (s : Same H H') : RpL H' d v := RpL.le (Le.of s) d v h
theorem RpK.mono {H H' : Hp} {d : List (PyData × PyData)} {v : List (Key × V)} (h : RpK H d v) (s : Same H H') : RpK H' d v := RpK.le (Le.of s) d v h

/-! data without lists and dicts -/
mutual
def imm : PyData → Bool
  | .none | .bool _ | .int _ | .str _ => true
  | .list _ => false
  | .tuple ds => immL ds
  | .dict _ => false
def immL : List PyData → Bool
  | [] => true
  | d :: ds => imm d && immL ds
end
mutual
theorem Rp.kt {H H' : Hp} (l : KT H H') : ∀ (d : PyData) (v : V), imm d = true → Rp H d v → Rp H' d v
  | .none, _, _, h => h
  | .bool _, _, _, h => h
  | .int _, _, _, h => h
  | .str _, _, _, h => h
  | .list ds, _, i, _ => by simp [imm] at i
  | .tuple ds, _, i, ⟨a, xs, e, r, q⟩ => ⟨a, xs, e, l a xs r, RpL.kt l ds xs (by simpa [imm] using i) q⟩
  | .dict kvs, _, i, _ => by simp [imm] at i
theorem RpL.kt {H H' : Hp} (l : KT H H') : ∀ (ds : List PyData) (vs : List V), immL ds = true → RpL H ds vs → RpL H' ds vs
  | [], _, _, h => h
  | d :: ds, _, i, ⟨v, r, e, h, q⟩ => by
    simp only [immL, Bool.and_eq_true] at i
    exact ⟨v, r, e, Rp.kt l d v i.1 h, RpL.kt l ds r i.2 q⟩
end

theorem RpL.length {H : Hp} : ∀ {ds : List PyData} {vs : List V}, RpL H ds vs → vs.length = ds.length
  | [], _, h => by rw [show _ = [] from h]; rfl
  | d :: ds, _, ⟨v, r, e, h, q⟩ => by subst e; simp [RpL.length q]
theorem RpL.nil {H : Hp} : RpL H [] [] := rfl
theorem RpL.cons {H : Hp} {d : PyData} {ds : List PyData} {v : V} {vs : List V} (h : Rp H d v) (t : RpL H ds vs) : RpL H (d :: ds) (v :: vs) := ⟨v, vs, rfl, h, t⟩
theorem RpL.get {H : Hp} : ∀ {ds : List PyData} {vs : List V} {i : Nat} {d : PyData}, RpL H ds vs → ds[i]? = some d → ∃ v, vs[i]? = some v ∧ Rp H d v
  | [], _, _, _, _, e => by simp at e
  | d :: ds, _, 0, _, ⟨v, r, ev, h, q⟩, e => by subst ev; simp at e; subst e; exact ⟨v, rfl, h⟩
  | d :: ds, _, i + 1, _, ⟨v, r, ev, h, q⟩, e => by
    subst ev
    obtain ⟨w, h1, h2⟩ := RpL.get (i := i) q (by simpa using e)
    exact ⟨w, by simpa using h1, h2⟩
theorem RpL.get' {H : Hp} {ds : List PyData} {vs : List V} {i : Nat} {v : V} (h : RpL H ds vs) (e : vs[i]? = some v) : ∃ d, ds[i]? = some d ∧ Rp H d v := by
  have hl := h.length
  have hi : i < vs.length := (List.getElem?_eq_some_iff.mp e).1
  obtain ⟨w, h1, h2⟩ := h.get (i := i) (d := ds[i]'(by omega)) (by simp)
  rw [e] at h1; cases h1
  exact ⟨_, by simp, h2⟩
theorem RpL.snoc {H : Hp} : ∀ {ds : List PyData} {vs : List V} {d : PyData} {v : V}, RpL H ds vs → Rp H d v → RpL H (ds ++ [d]) (vs ++ [v])
  | [], _, d, v, h, q => by rw [show _ = [] from h]; exact ⟨v, [], rfl, q, rfl⟩
  | d :: ds, _, _, _, ⟨v, r, e, h, q⟩, t => by subst e; exact ⟨v, r ++ [_], rfl, h, RpL.snoc q t⟩
theorem RpL.append {H : Hp} : ∀ {ds es : List PyData} {vs ws : List V}, RpL H ds vs → RpL H es ws → RpL H (ds ++ es) (vs ++ ws)
  | [], _, _, _, h, q => by rw [show _ = [] from h]; exact q
  | d :: ds, _, _, _, ⟨v, r, e, h, q⟩, t => by subst e; exact ⟨v, r ++ _, rfl, h, RpL.append q t⟩
theorem RpL.ints {H : Hp} : ∀ (ns : List Int), RpL H (ns.map PyData.int) (ns.map V.int)
  | [] => rfl
  | n :: ns => ⟨.int n, _, rfl, rfl, RpL.ints ns⟩
theorem RpL.strs {H : Hp} : ∀ (ns : List Str), RpL H (ns.map PyData.str) (ns.map V.str)
  | [] => rfl
  | n :: ns => ⟨.str n, _, rfl, rfl, RpL.strs ns⟩
theorem RpL.ints_inv {H : Hp} : ∀ {ns : List Int} {vs : List V}, RpL H (ns.map PyData.int) vs → vs = ns.map V.int
  | [], _, h => h
  | n :: ns, _, ⟨v, r, e, h, q⟩ => by subst e; rw [show v = V.int n from h, RpL.ints_inv q]; rfl
theorem RpL.strs_inv {H : Hp} : ∀ {ns : List Str} {vs : List V}, RpL H (ns.map PyData.str) vs → vs = ns.map V.str
  | [], _, h => h
  | n :: ns, _, ⟨v, r, e, h, q⟩ => by subst e; rw [show v = V.str n from h, RpL.strs_inv q]; rfl
theorem RpL.bools_inv {H : Hp} : ∀ {ns : List Bool} {vs : List V}, RpL H (ns.map PyData.bool) vs → vs = ns.map V.bl
  | [], _, h => h
  | n :: ns, _, ⟨v, r, e, h, q⟩ => by subst e; rw [show v = V.bl n from h, RpL.bools_inv q]; rfl

/-! ### dicts with whole numbers as keys -/
abbrev IM := List (Int × PyData)
def dI (m : IM) : PyData := .dict (m.map fun p => (.int p.1, p.2))
def look (m : IM) (k : Int) : Option PyData := (m.find? fun p => decide (p.1 = k)).map (·.2)
def putI (m : IM) (k : Int) (d : PyData) : IM := if (m.any fun p => decide (p.1 = k)) then m.map (fun p => if p.1 = k then (p.1, d) else p) else m ++ [(k, d)]
/-- the pairs of a dict at values -/
def RpI (H : Hp) (m : IM) (xs : List (Key × V)) : Prop := RpK H (m.map fun p => (.int p.1, p.2)) xs
theorem keyD_int {k : Key} {i : Int} (h : PyData.int i = keyD k) : k = .inl i := by
  cases k with
  | inl j => simp [keyD] at h; rw [h]
  | inr s => simp [keyD] at h
theorem RpI.nil {H : Hp} : RpI H [] [] := rfl
theorem RpI.inv {H : Hp} {k : Int} {d : PyData} {m : IM} {xs : List (Key × V)} (h : RpI H ((k, d) :: m) xs) : ∃ v r, xs = (.inl k, v) :: r ∧ Rp H d v ∧ RpI H m r := by
  obtain ⟨⟨k', v⟩, r, e, ek, h1, h2⟩ := h
  have := keyD_int ek
  subst this
  exact ⟨v, r, e, h1, h2⟩
theorem RpI.cons {H : Hp} {k : Int} {d : PyData} {m : IM} {v : V} {r : List (Key × V)} (h : Rp H d v) (t : RpI H m r) : RpI H ((k, d) :: m) ((.inl k, v) :: r) := ⟨(.inl k, v), r, rfl, rfl, h, t⟩
theorem RpI.length {H : Hp} : ∀ {m : IM} {xs : List (Key × V)}, RpI H m xs → xs.length = m.length
  | [], _, h => by rw [show _ = [] from h]; rfl
  | (k, d) :: m, _, h => by obtain ⟨v, r, rfl, _, q⟩ := h.inv; simp [RpI.length q]
theorem RpI.look {H : Hp} : ∀ {m : IM} {xs : List (Key × V)} (k : Int), RpI H m xs → (∃ d v, look m k = some d ∧ valV xs (.inl k) = some v ∧ Rp H d v) ∨ (look m k = none ∧ valV xs (.inl k) = none)
  | [], _, k, h => by rw [show _ = [] from h]; exact .inr ⟨rfl, rfl⟩
  | (j, d) :: m, _, k, h => by
    obtain ⟨v, r, rfl, h1, q⟩ := h.inv
    by_cases e : j = k
    · subst e
      exact .inl ⟨d, v, by simp [Fx.look], by simp [valV], h1⟩
    · have e' : ¬ (Sum.inl j : Key) = Sum.inl k := fun z => e (Sum.inl.inj z)
      rcases RpI.look k q with ⟨d', v', a, b, c⟩ | ⟨a, b⟩
      · exact .inl ⟨d', v', by simpa [Fx.look, e] using a, by simpa [valV, e'] using b, c⟩
      · exact .inr ⟨by simpa [Fx.look, e] using a, by simpa [valV, e'] using b⟩
theorem RpI.any {H : Hp} : ∀ {m : IM} {xs : List (Key × V)} (k : Int), RpI H m xs → (xs.any fun p => decide (p.1 = Sum.inl k)) = m.any fun p => decide (p.1 = k)
  | [], _, k, h => by rw [show _ = [] from h]; rfl
  | (j, d) :: m, _, k, h => by
    obtain ⟨v, r, rfl, h1, q⟩ := h.inv
    simp only [List.any_cons, RpI.any k q]
    by_cases e : j = k
    · subst e; simp
    · simp [e]
theorem RpI.map {H : Hp} {k : Int} {d : PyData} {v : V} (hv : Rp H d v) : ∀ {m : IM} {xs : List (Key × V)}, RpI H m xs →
    RpI H (m.map fun p => if p.1 = k then (p.1, d) else p) (xs.map fun p => if p.1 = Sum.inl k then (p.1, v) else p)
  | [], _, h => by rw [show _ = [] from h]; exact .nil
  | (j, e) :: m, _, h => by
    obtain ⟨w, r, rfl, h1, q⟩ := h.inv
    by_cases z : j = k
    · subst z
      simp only [List.map_cons, if_true]
      exact .cons hv (RpI.map hv q)
    · have z' : ¬ (Sum.inl j : Key) = Sum.inl k := fun y => z (Sum.inl.inj y)
      simp only [List.map_cons, if_neg z, if_neg z']
      exact .cons h1 (RpI.map hv q)
theorem RpI.snoc {H : Hp} {k : Int} {d : PyData} {v : V} (hv : Rp H d v) : ∀ {m : IM} {xs : List (Key × V)}, RpI H m xs → RpI H (m ++ [(k, d)]) (xs ++ [(Sum.inl k, v)])
  | [], _, h => by rw [show _ = [] from h]; exact .cons hv .nil
  | (j, e) :: m, _, h => by
    obtain ⟨w, r, rfl, h1, q⟩ := h.inv
    exact .cons h1 (RpI.snoc hv q)
theorem RpI.put {H : Hp} {k : Int} {d : PyData} {v : V} {m : IM} {xs : List (Key × V)} (h : RpI H m xs) (hv : Rp H d v) : RpI H (putI m k d) (putK xs (Sum.inl k) v) := by
  unfold putI putK
  rw [RpI.any k h]
  split
  · exact RpI.map hv h
  · exact RpI.snoc hv h
theorem RpI.mono {H H' : Hp} {m : IM} {xs : List (Key × V)} (h : RpI H m xs) (s : Same H H') : RpI H' m xs := RpK.mono h s
theorem RpI.kt {H H' : Hp} (l : KT H H') : ∀ {m : IM} {xs : List (Key × V)}, (m.all fun p => imm p.2) = true → RpI H m xs → RpI H' m xs
  | [], _, _, h => h
  | (j, e) :: m, _, i, h => by
    obtain ⟨w, r, rfl, h1, q⟩ := h.inv
    simp only [List.all_cons, Bool.and_eq_true] at i
    exact .cons (Rp.kt l e w i.1 h1) (RpI.kt l i.2 q)
end Fx
/-! FxB: what evaluates to which data. -/
namespace Fx
open PySem L2

/-! ### equality of data -/
mutual
theorem Rp.dp {K : PySem.W.Frag} {H : Hp} : ∀ (d : PyData) (v : V), d.canLay0 = true → Rp H d v → Dp K H v d
  | .none, _, _, h => by rw [show _ = V.non from h]; exact .non
  | .bool b, _, _, h => by rw [show _ = V.bl b from h]; exact .bl b
  | .int i, _, _, h => by rw [show _ = V.int i from h]; exact .int i
  | .str s, _, _, h => by rw [show _ = V.str s from h]; exact .str s
  | .list ds, _, c, ⟨a, xs, e, r, q⟩ => by subst e; exact .lst (.of r) (RpL.dp ds xs (by simpa [PyData.canLay0] using c) q)
  | .tuple ds, _, c, ⟨a, xs, e, r, q⟩ => by subst e; exact .tup (.of r) (RpL.dp ds xs (by simpa [PyData.canLay0] using c) q)
  | .dict _, _, c, _ => by simp [PyData.canLay0] at c
theorem RpL.dp {K : PySem.W.Frag} {H : Hp} : ∀ (ds : List PyData) (vs : List V), PyData.canLayAll0 ds = true → RpL H ds vs → DpAll K H vs ds
  | [], _, _, h => by rw [show _ = [] from h]; exact .nil
  | d :: ds, _, c, ⟨v, r, e, h, q⟩ => by
    subst e
    simp only [PyData.canLayAll0, Bool.and_eq_true] at c
    exact .cons (Rp.dp d v c.1 h) (RpL.dp ds r c.2 q)
end
/-- data that may be compared -/
def okD (d : PyData) : Bool := d.canLay0 && decide (d.depth ≤ 190)
theorem okD_lay {d : PyData} (h : okD d = true) : d.canLay0 = true := (Bool.and_eq_true_iff.mp h).1
theorem okD_dep {d : PyData} (h : okD d = true) : d.depth ≤ 190 := of_decide_eq_true (Bool.and_eq_true_iff.mp h).2
def rEqP : R2 := fun x y H Q => ∃ d e, Rp H d x ∧ Rp H e y ∧ okD d = true ∧ okD e = true ∧ Q (.bl (PyData.eqv d e)) H
def rNeP : R2 := fun x y H Q => ∃ d e, Rp H d x ∧ Rp H e y ∧ okD d = true ∧ okD e = true ∧ Q (.bl (!PyData.eqv d e)) H
section
variable {X : Cx}
theorem op_eqP (hu : X.A.units + 199 < cLine) : OpR X (compareOp .Eq) rEqP := by
  intro pins s σ H x y v u Q I rx ry h
  obtain ⟨d, e, hd, he, sd, se, q⟩ := h
  obtain ⟨as, r1⟩ := Dp.reads I d x v (Rp.dp d x (okD_lay sd) hd) rx
  obtain ⟨bs, r2⟩ := Dp.reads I e y u (Rp.dp e y (okD_lay se) he) ry
  refine SeqAt.compareEq_reads r1 r2 (okD_lay sd) (okD_lay se) ?_ ⟨.bl _, H, I, rfl, q⟩
  have := okD_dep sd
  have := Nat.min_le_left d.depth e.depth
  omega
theorem op_neP (hu : X.A.units + 199 < cLine) : OpR X (compareOp .NotEq) rNeP := by
  intro pins s σ H x y v u Q I rx ry h
  obtain ⟨d, e, hd, he, sd, se, q⟩ := h
  obtain ⟨as, r1⟩ := Dp.reads I d x v (Rp.dp d x (okD_lay sd) hd) rx
  obtain ⟨bs, r2⟩ := Dp.reads I e y u (Rp.dp e y (okD_lay se) he) ry
  refine SeqAt.compareNe_reads r1 r2 (okD_lay sd) (okD_lay se) ?_ ⟨.bl _, H, I, rfl, q⟩
  have := okD_dep sd
  have := Nat.min_le_left d.depth e.depth
  omega
theorem un65 {A : Around} {k : Nat} (hr : Room k A) : A.units + 65 < cLine := by have := hr.un; omega
theorem un_of {A : Around} {k : Nat} (hr : Room k A) : A.units + 199 < cLine := by have := hr.un; omega
end

/-! ### what evaluates to what -/
def EvD (te : TE) (σ : L2.St) (H : Hp) (d : PyData) : Prop := ∀ H1, Same H H1 → ∀ Q : VK, (∀ v H2, Same H1 H2 → Rp H2 d v → Q v H2) → te σ H1 Q
def EvB (tt : TT) (σ : L2.St) (H : Hp) (b : Bool) : Prop := ∀ H1, Same H H1 → ∀ Q : Bool → Hp → Prop, (∀ H2, Same H1 H2 → Q b H2) → tt σ H1 Q
def EvA (ta : TA) (σ : L2.St) (H : Hp) (ds : List PyData) : Prop := ∀ H1, Same H H1 → ∀ Q : List V → Hp → Prop, (∀ vs H2, Same H1 H2 → RpL H2 ds vs → Q vs H2) → ta σ H1 Q
/-- operations on values, calls of built-ins -/
def OpD (r : R2) (d e f : PyData) : Prop := ∀ H x y, Rp H d x → Rp H e y → ∀ Q : VK, (∀ v H2, Same H H2 → Rp H2 f v → Q v H2) → r x y H Q
def CallD (r : List V → Hp → VK → Prop) (ds : List PyData) (d : PyData) : Prop := ∀ H xs, RpL H ds xs → ∀ Q : VK, (∀ v H2, Same H H2 → Rp H2 d v → Q v H2) → r xs H Q
/-- a def's promise, of data -/
def SpD (sp : Sp) (ds : List PyData) (d : PyData) : Prop := ∀ H xs, RpL H ds xs → ∀ (Q : VK) (E : XK), (∀ v H2, Same H H2 → Rp H2 d v → Q v H2) → sp xs H Q E
/-- the promise of a def that only reckons: R tells which data it hands back -/
def spP (R : List PyData → PyData → Prop) : Sp := fun vs H Q _ => ∃ ds d, RpL H ds vs ∧ R ds d ∧ ∀ v H', Same H H' → Rp H' d v → Q v H'
theorem spP.d {R : List PyData → PyData → Prop} {ds : List PyData} {d : PyData} (h : R ds d) : SpD (spP R) ds d := fun H xs hx Q E q => ⟨ds, d, hx, h, q⟩
theorem spP.len {R : List PyData → PyData → Prop} {n : Nat} (h : ∀ ds d, R ds d → ds.length = n) : ∀ vs H Q E, spP R vs H Q E → vs.length = n := fun vs H Q E ⟨ds, d, hR, hr, _⟩ => by rw [hR.length, h ds d hr]

section
variable {K : PySem.W.Frag} {σ : L2.St} {H H' : Hp} {ta tb te tx td ty : TE} {t u : TT} {d e f : PyData} {ds es : List PyData} {a b : Bool} {v : V} {r : R2}
theorem EvD.mono (h : EvD te σ H d) (s : Same H H') : EvD te σ H' d := fun H1 e Q q => h H1 (s.trans e) Q q
theorem EvB.mono (h : EvB t σ H b) (s : Same H H') : EvB t σ H' b := fun H1 e Q q => h H1 (s.trans e) Q q
theorem EvA.mono {ta : TA} (h : EvA ta σ H ds) (s : Same H H') : EvA ta σ H' ds := fun H1 e Q q => h H1 (s.trans e) Q q
theorem EvD.to {d' : PyData} (h : EvD te σ H d) (e : d = d') : EvD te σ H d' := e ▸ h
theorem EvB.to {b' : Bool} (h : EvB t σ H b) (e : b = b') : EvB t σ H b' := e ▸ h
theorem ev_var {i : Nat} (h : σ[i]? = some (some v)) (r : Rp H d v) : EvD (tVar i) σ H d := fun H1 s Q q => ⟨v, h, q v H1 (Same.refl _) (r.mono s)⟩
theorem ev_int {i : Int} : EvD (tC (.int i)) σ H (.int i) := fun H1 s Q q => q _ H1 (Same.refl _) rfl
theorem ev_str {x : Str} : EvD (tC (.str x)) σ H (.str x) := fun H1 s Q q => q _ H1 (Same.refl _) rfl
theorem ev_bl {b : Bool} : EvD (tC (.bl b)) σ H (.bool b) := fun H1 s Q q => q _ H1 (Same.refl _) rfl
theorem ev_non : EvD (tC .non) σ H .none := fun H1 s Q q => q _ H1 (Same.refl _) rfl
theorem ea_nil : EvA tNil σ H [] := fun H1 s Q q => q _ H1 (Same.refl _) rfl
theorem ea_cons {t : TA} (h : EvD te σ H d) (ht : EvA t σ H ds) : EvA (tCons te t) σ H (d :: ds) := fun H1 s Q q =>
  h H1 s _ fun v H2 s2 r => ht H2 (s.trans s2) _ fun vs H3 s3 rs => q _ H3 (s2.trans s3) (.cons (r.mono s3) rs)
theorem le1000 {n : Nat} (h : n ≤ 1000) : n ≤ sizeLine := Nat.le_trans h (by decide)
theorem ev_tup {t : TA} (h : EvA t σ H ds) (hl : ds.length ≤ 1000 := by simp) : EvD (tTup t) σ H (.tuple ds) := fun H1 s Q q =>
  h H1 s _ fun vs H2 s2 rs => ⟨by rw [rs.length]; exact le1000 hl, fun p hp => q _ _ (s2.trans (Same.new hp)) ⟨p, vs, rfl, upd_same, rs.mono (Same.new hp)⟩⟩
theorem ev_lst {t : TA} (h : EvA t σ H ds) (hl : ds.length ≤ 1000 := by simp) : EvD (tLst t) σ H (.list ds) := fun H1 s Q q =>
  h H1 s _ fun vs H2 s2 rs => ⟨by rw [rs.length]; exact le1000 hl, fun p hp => q _ _ (s2.trans (Same.new hp)) ⟨p, vs, rfl, upd_same, rs.mono (Same.new hp)⟩⟩
theorem ev_op (ha : EvD ta σ H d) (hb : EvD tb σ H e) (hr : OpD r d e f) : EvD (tOp r ta tb) σ H f := fun H1 s Q q =>
  ha H1 s _ fun x H2 s2 r2 => hb H2 (s.trans s2) _ fun y H3 s3 r3 => hr H3 x y (r2.mono s3) r3 Q fun v H4 s4 r4 => q v H4 ((s2.trans s3).trans s4) r4
theorem ev_cb {r : List V → Hp → VK → Prop} {t : TA} (h : EvA t σ H ds) (hr : CallD r ds d) : EvD (tCB r t) σ H d := fun H1 s Q q =>
  h H1 s _ fun vs H2 s2 rs => hr H2 vs rs Q fun v H3 s3 r3 => q v H3 (s2.trans s3) r3
theorem ev_call {sp : Sp} {E : XK} {t : TA} (h : EvA t σ H ds) (hc : SpD sp ds d) : EvD (tCall sp [] E t) σ H d := fun H1 s Q q =>
  h H1 s _ fun vs H2 s2 rs => by
    rw [List.append_nil]
    exact hc H2 vs rs Q E fun v H3 s3 r3 => q v H3 (s2.trans s3) r3

/-! ### tests -/
theorem et_test (h : EvD te σ H (.bool b)) : EvB (tTest te) σ H b := fun H1 s Q q => h H1 s _ fun v H2 s2 r => ⟨b, r, q H2 s2⟩
theorem et_B (h : EvD te σ H (.bool b)) : EvB (tB te) σ H b := fun H1 s Q q => h H1 s _ fun v H2 s2 r => ⟨b, r, q H2 s2⟩
theorem et_not (h : EvB t σ H b) : EvB (tNot t) σ H (!b) := fun H1 s Q q => h H1 s _ fun H2 s2 => q H2 s2
theorem et_and (h1 : EvB t σ H a) (h2 : a = true → EvB u σ H b) : EvB (tAnd t u) σ H (a && b) := fun H1 s Q q => h1 H1 s _ fun H2 s2 => by
  cases a with
  | true => exact iteT (h2 rfl H2 (s.trans s2) Q fun H3 s3 => q H3 (s2.trans s3))
  | false => exact iteF (q H2 s2)
theorem et_or (h1 : EvB t σ H a) (h2 : a = false → EvB u σ H b) : EvB (tOr t u) σ H (a || b) := fun H1 s Q q => h1 H1 s _ fun H2 s2 => by
  cases a with
  | true => exact iteT (q H2 s2)
  | false => exact iteF (h2 rfl H2 (s.trans s2) Q fun H3 s3 => q H3 (s2.trans s3))
/-! .. as values -/
theorem ev_and (h1 : EvD ta σ H (.bool a)) (h2 : a = true → EvD tb σ H (.bool b)) : EvD (tAndV ta tb) σ H (.bool (a && b)) := fun H1 s Q q => h1 H1 s _ fun v H2 s2 r => by
  refine ⟨a, r, ?_⟩
  cases a with
  | true => exact iteT (h2 rfl H2 (s.trans s2) Q fun v H3 s3 r3 => q v H3 (s2.trans s3) r3)
  | false => exact iteF (q _ H2 s2 rfl)
theorem ev_or (h1 : EvD ta σ H (.bool a)) (h2 : a = false → EvD tb σ H (.bool b)) : EvD (tOrV ta tb) σ H (.bool (a || b)) := fun H1 s Q q => h1 H1 s _ fun v H2 s2 r => by
  refine ⟨a, r, ?_⟩
  cases a with
  | true => exact iteT (q _ H2 s2 rfl)
  | false => exact iteF (h2 rfl H2 (s.trans s2) Q fun v H3 s3 r3 => q v H3 (s2.trans s3) r3)
theorem ev_not (h : EvD ta σ H (.bool b)) : EvD (tNotV ta) σ H (.bool (!b)) := fun H1 s Q q => h H1 s _ fun v H2 s2 r => ⟨b, r, q _ H2 s2 rfl⟩
theorem ev_ifT (hc : EvB t σ H true) (h : EvD ta σ H d) : EvD (tIf t ta tb) σ H d := fun H1 s Q q => hc H1 s _ fun H2 s2 => iteT (h H2 (s.trans s2) Q fun v H3 s3 r3 => q v H3 (s2.trans s3) r3)
theorem ev_ifF (hc : EvB t σ H false) (h : EvD tb σ H d) : EvD (tIf t ta tb) σ H d := fun H1 s Q q => hc H1 s _ fun H2 s2 => iteF (h H2 (s.trans s2) Q fun v H3 s3 r3 => q v H3 (s2.trans s3) r3)
theorem ev_isN (h : EvD ta σ H d) : EvD (tIsN ta) σ H (.bool (match d with | .none => true | _ => false)) := fun H1 s Q q => h H1 s _ fun v H2 s2 r => by
  refine q _ H2 s2 ?_
  cases d with
  | none => rw [show v = V.non from r]; rfl
  | bool _ => rw [show v = V.bl _ from r]; rfl
  | int _ => rw [show v = V.int _ from r]; rfl
  | str _ => rw [show v = V.str _ from r]; rfl
  | list _ => obtain ⟨a, xs, rfl, _⟩ := r; rfl
  | tuple _ => obtain ⟨a, xs, rfl, _⟩ := r; rfl
  | dict _ => obtain ⟨a, xs, rfl, _⟩ := r; rfl
theorem ev_notN (h : EvD ta σ H d) : EvD (tNotN ta) σ H (.bool (match d with | .none => false | _ => true)) := fun H1 s Q q => h H1 s _ fun v H2 s2 r => by
  refine q _ H2 s2 ?_
  cases d with
  | none => rw [show v = V.non from r]; rfl
  | bool _ => rw [show v = V.bl _ from r]; rfl
  | int _ => rw [show v = V.int _ from r]; rfl
  | str _ => rw [show v = V.str _ from r]; rfl
  | list _ => obtain ⟨a, xs, rfl, _⟩ := r; rfl
  | tuple _ => obtain ⟨a, xs, rfl, _⟩ := r; rfl
  | dict _ => obtain ⟨a, xs, rfl, _⟩ := r; rfl

/-! ### operations -/
theorem at_get {xs : List V} {ds : List PyData} {i : Int} (h : RpL H ds xs) (e : atI ds i = some d) : ∃ v, atI xs i = some v ∧ Rp H d v := by
  unfold atI at e ⊢
  rw [h.length]
  cases q : ixN ds.length i with
  | none => rw [q] at e; cases e
  | some j =>
    rw [q] at e
    exact h.get e
theorem od_ixT {i : Int} (e : atI ds i = some d) : OpD (rIxT K) (.tuple ds) (.int i) d := fun H x y hx hy Q q => by
  obtain ⟨a, xs, rfl, ha, hr⟩ := hx
  cases (show y = V.int i from hy)
  obtain ⟨v, e1, e2⟩ := at_get hr e
  exact ⟨a, xs, i, v, rfl, rfl, .of ha, e1, q v H (Same.refl _) e2⟩
theorem od_ixL {i : Int} (e : atI ds i = some d) : OpD (rIxL K) (.list ds) (.int i) d := fun H x y hx hy Q q => by
  obtain ⟨a, xs, rfl, ha, hr⟩ := hx
  cases (show y = V.int i from hy)
  obtain ⟨v, e1, e2⟩ := at_get hr e
  exact ⟨a, xs, i, v, rfl, rfl, .of ha, e1, q v H (Same.refl _) e2⟩
theorem od_ixS {z : Str} {i : Int} {c : Nat} (hz : z.length ≤ sizeLine) (e : atI z.cps.toList i = some c) : OpD rIxS (.str z) (.int i) (.str ⟨#[c]⟩) := fun H x y hx hy Q q => by
  cases (show x = V.str z from hx)
  cases (show y = V.int i from hy)
  exact ⟨z, i, c, rfl, rfl, hz, e, q _ H (Same.refl _) rfl⟩
theorem od_I0 {g : Int → Int → V} {i j : Int} (e : ∀ H, Rp H f (g i j)) : OpD (rI0 g) (.int i) (.int j) f := fun H x y hx hy Q q => by
  cases (show x = V.int i from hx)
  cases (show y = V.int j from hy)
  exact ⟨i, j, rfl, rfl, q _ H (Same.refl _) (e H)⟩
theorem od_I {C : Int → Int → Prop} {g : Int → Int → V} {i j : Int} (c : C i j) (e : ∀ H, Rp H f (g i j)) : OpD (rI C g) (.int i) (.int j) f := fun H x y hx hy Q q => by
  cases (show x = V.int i from hx)
  cases (show y = V.int j from hy)
  exact ⟨i, j, rfl, rfl, c, q _ H (Same.refl _) (e H)⟩
theorem od_eqP (h1 : okD d = true) (h2 : okD e = true) : OpD rEqP d e (.bool (PyData.eqv d e)) := fun H x y hx hy Q q => ⟨d, e, hx, hy, h1, h2, q _ H (Same.refl _) rfl⟩
theorem od_neP (h1 : okD d = true) (h2 : okD e = true) : OpD rNeP d e (.bool (!PyData.eqv d e)) := fun H x y hx hy Q q => ⟨d, e, hx, hy, h1, h2, q _ H (Same.refl _) rfl⟩

/-! ### dicts -/
theorem ev_din {m : IM} {k : Int} (hy : EvD ty σ H (.int k)) (hd : EvD td σ H (dI m)) : EvD (tDIn ty td) σ H (.bool (look m k).isSome) := fun H1 s Q q =>
  hy H1 s _ fun y H2 s2 r2 => hd H2 (s.trans s2) _ fun x H3 s3 r3 => by
    obtain ⟨a, xs, rfl, ha, hr⟩ := r3
    cases (show y = V.int k from r2)
    refine ⟨a, valV xs (.inl k), rfl, .inl ⟨xs, .inl k, ha, rfl, rfl⟩, q _ H3 (s2.trans s3) ?_⟩
    rcases RpI.look k hr with ⟨d, v, e1, e2, _⟩ | ⟨e1, e2⟩ <;> rw [e1, e2] <;> rfl
theorem ev_dnotin {m : IM} {k : Int} (hy : EvD ty σ H (.int k)) (hd : EvD td σ H (dI m)) : EvD (tDNotIn ty td) σ H (.bool (!(look m k).isSome)) := fun H1 s Q q =>
  hy H1 s _ fun y H2 s2 r2 => hd H2 (s.trans s2) _ fun x H3 s3 r3 => by
    obtain ⟨a, xs, rfl, ha, hr⟩ := r3
    cases (show y = V.int k from r2)
    refine ⟨a, valV xs (.inl k), rfl, .inl ⟨xs, .inl k, ha, rfl, rfl⟩, q _ H3 (s2.trans s3) ?_⟩
    rcases RpI.look k hr with ⟨d, v, e1, e2, _⟩ | ⟨e1, e2⟩ <;> rw [e1, e2] <;> rfl
theorem ev_dget {m : IM} {k : Int} (hd : EvD td σ H (dI m)) (hy : EvD ty σ H (.int k)) (e : look m k = some d) : EvD (tDGet td ty) σ H d := fun H1 s Q q =>
  hd H1 s _ fun x H2 s2 r2 => hy H2 (s.trans s2) _ fun y H3 s3 r3 => by
    obtain ⟨a, xs, rfl, ha, hr⟩ := r2.mono s3
    cases (show y = V.int k from r3)
    rcases RpI.look k hr with ⟨d', v, e1, e2, e3⟩ | ⟨e1, e2⟩
    · rw [e] at e1; cases e1
      exact ⟨a, v, rfl, .inl ⟨xs, .inl k, ha, rfl, e2.symm⟩, q v H3 (s2.trans s3) e3⟩
    · rw [e] at e1; cases e1
theorem ev_dget2 {m : IM} {k : Int} (hd : EvD td σ H (dI m)) (hy : EvD ty σ H (.int k)) (hx : EvD tx σ H e) : EvD (tDGet2 td ty tx) σ H ((look m k).getD e) := fun H1 s Q q =>
  hd H1 s _ fun x H2 s2 r2 => by
    obtain ⟨a, xs, rfl, ha, hr⟩ := r2
    refine ⟨a, rfl, .inl ⟨xs, ha⟩, hy H2 (s.trans s2) _ fun y H3 s3 r3 => hx H3 ((s.trans s2).trans s3) _ fun z H4 s4 r4 => ?_⟩
    cases (show y = V.int k from r3)
    have s24 := s3.trans s4
    rcases RpI.look k (RpI.mono hr s24) with ⟨d', v, e1, e2, e3⟩ | ⟨e1, e2⟩
    · exact ⟨_, .inl ⟨xs, .inl k, rd_same s24 ha, rfl, rfl⟩, by rw [e2]; exact q v H4 (s2.trans s24) (by rw [e1]; exact e3)⟩
    · exact ⟨_, .inl ⟨xs, .inl k, rd_same s24 ha, rfl, rfl⟩, by rw [e2]; exact q z H4 (s2.trans s24) (by rw [e1]; exact r4)⟩
end

/-! ### calls of built-ins -/
def rTupleOf (K : PySem.W.Frag) : List V → Hp → VK → Prop := fun xs H Q => ∃ p ys, xs = [.ref p] ∧ ((SqL K H p ys ∧ ∀ l, H l = none → Q (.ref l) (upd H l (.tup ys))) ∨ (SqT K H p ys ∧ Q (.ref p) H))
def rListOf (K : PySem.W.Frag) : List V → Hp → VK → Prop := fun xs H Q => ∃ p ys, xs = [.ref p] ∧ (SqL K H p ys ∨ SqT K H p ys) ∧ ∀ l, H l = none → Q (.ref l) (upd H l (.lst ys))
def rLen (K : PySem.W.Frag) : List V → Hp → VK → Prop := fun xs H Q => ∃ x n, xs = [x] ∧ LenV K x H n ∧ Q (.int n) H
def rStrI : List V → Hp → VK → Prop := fun xs H Q => ∃ i : Int, xs = [.int i] ∧ i.natAbs.log2 < 1920 ∧ Q (.str (toString i)) H
def rIntS : List V → Hp → VK → Prop := fun xs H Q => ∃ a n, xs = [.str a] ∧ PySem.intText? a = some n ∧ a.length ≤ 640 ∧ Q (.int n) H
def rDictD : List V → Hp → VK → Prop := fun xs H Q => ∃ (a : Addr) (kvs : List (Key × V)), xs = [.ref a] ∧ Rd H a (.dK kvs) ∧ ∀ p, H p = none → Q (.ref p) (upd H p (.dK kvs))
def rListD : List V → Hp → VK → Prop := fun xs H Q => ∃ (a : Addr) (kvs : List (Key × V)), xs = [.ref a] ∧ Rd H a (.dK kvs) ∧ ∀ p, H p = none → Q (.ref p) (upd H p (.lst (kvs.map fun kv => kV kv.1)))
section
variable {X : Cx}
theorem cr_tuple : CallR X (.type "tuple") (rTupleOf X.K) := call_tuple_of
theorem cr_list : CallR X (.type "list") (rListOf X.K) := call_list_of
theorem cr_len : CallR X (.builtin "len") (rLen X.K) := call_len
theorem cr_strI : CallR X (.type "str") rStrI := call_str_int
theorem cr_intS : CallR X (.type "int") rIntS := call_int_str
theorem cr_dictD : CallR X (.type "dict") rDictD := call_dictD
theorem cr_listD (hc : X.calm = true) : CallR X (.type "list") rListD := call_listD hc
end
section
variable {K : PySem.W.Frag} {ds : List PyData}
theorem cd_tupleL : CallD (rTupleOf K) [.list ds] (.tuple ds) := fun H xs hx Q q => by
  obtain ⟨v, r, rfl, ⟨a, ys, rfl, ha, hr⟩, hn⟩ := hx
  cases (show r = [] from hn)
  exact ⟨a, ys, rfl, .inl ⟨.of ha, fun l hl => q _ _ (Same.new hl) ⟨l, ys, rfl, upd_same, hr.mono (Same.new hl)⟩⟩⟩
theorem cd_listL : CallD (rListOf K) [.list ds] (.list ds) := fun H xs hx Q q => by
  obtain ⟨v, r, rfl, ⟨a, ys, rfl, ha, hr⟩, hn⟩ := hx
  cases (show r = [] from hn)
  exact ⟨a, ys, rfl, .inl (.of ha), fun l hl => q _ _ (Same.new hl) ⟨l, ys, rfl, upd_same, hr.mono (Same.new hl)⟩⟩
theorem cd_listT : CallD (rListOf K) [.tuple ds] (.list ds) := fun H xs hx Q q => by
  obtain ⟨v, r, rfl, ⟨a, ys, rfl, ha, hr⟩, hn⟩ := hx
  cases (show r = [] from hn)
  exact ⟨a, ys, rfl, .inr (.of ha), fun l hl => q _ _ (Same.new hl) ⟨l, ys, rfl, upd_same, hr.mono (Same.new hl)⟩⟩
theorem cd_lenL : CallD (rLen K) [.list ds] (.int ds.length) := fun H xs hx Q q => by
  obtain ⟨v, r, rfl, ⟨a, ys, rfl, ha, hr⟩, hn⟩ := hx
  cases (show r = [] from hn)
  exact ⟨_, ys.length, rfl, .inl ⟨ys, .of ha, rfl⟩, q _ H (Same.refl _) (by rw [hr.length]; rfl)⟩
theorem cd_lenT : CallD (rLen K) [.tuple ds] (.int ds.length) := fun H xs hx Q q => by
  obtain ⟨v, r, rfl, ⟨a, ys, rfl, ha, hr⟩, hn⟩ := hx
  cases (show r = [] from hn)
  exact ⟨_, ys.length, rfl, .inr ⟨ys, .of ha, rfl⟩, q _ H (Same.refl _) (by rw [hr.length]; rfl)⟩
theorem cd_lenS {z : Str} (hz : z.length ≤ sizeLine) : CallD (rLen K) [.str z] (.int z.length) := fun H xs hx Q q => by
  obtain ⟨v, r, rfl, hv, hn⟩ := hx
  cases (show r = [] from hn)
  cases (show v = V.str z from hv)
  exact ⟨_, z.length, rfl, ⟨hz, rfl⟩, q _ H (Same.refl _) rfl⟩
theorem cd_sum {ns : List Int} : CallD (rSum K) [.list (ns.map PyData.int)] (.int ns.sum) := fun H xs hx Q q => by
  obtain ⟨v, r, rfl, ⟨a, ys, rfl, ha, hr⟩, hn⟩ := hx
  cases (show r = [] from hn)
  exact ⟨a, ns, rfl, by rw [← RpL.ints_inv hr]; exact .of ha, q _ H (Same.refl _) rfl⟩
theorem cd_all {bs : List Bool} : CallD (rAll K) [.list (bs.map PyData.bool)] (.bool (bs.all id)) := fun H xs hx Q q => by
  obtain ⟨v, r, rfl, ⟨a, ys, rfl, ha, hr⟩, hn⟩ := hx
  cases (show r = [] from hn)
  exact ⟨a, bs, rfl, by rw [← RpL.bools_inv hr]; exact .of ha, q _ H (Same.refl _) rfl⟩
theorem cd_strI {i : Int} (h : i.natAbs.log2 < 1920) : CallD rStrI [.int i] (.str (toString i)) := fun H xs hx Q q => by
  obtain ⟨v, r, rfl, hv, hn⟩ := hx
  cases (show r = [] from hn)
  cases (show v = V.int i from hv)
  exact ⟨i, rfl, h, q _ H (Same.refl _) rfl⟩
theorem cd_intS {z : Str} {n : Int} (h : PySem.intText? z = some n) (hz : z.length ≤ 640) : CallD rIntS [.str z] (.int n) := fun H xs hx Q q => by
  obtain ⟨v, r, rfl, hv, hn⟩ := hx
  cases (show r = [] from hn)
  cases (show v = V.str z from hv)
  exact ⟨z, n, rfl, h, hz, q _ H (Same.refl _) rfl⟩
theorem cd_dictD {m : List (PyData × PyData)} : CallD rDictD [.dict m] (.dict m) := fun H xs hx Q q => by
  obtain ⟨v, r, rfl, ⟨a, ys, rfl, ha, hr⟩, hn⟩ := hx
  cases (show r = [] from hn)
  exact ⟨a, ys, rfl, ha, fun l hl => q _ _ (Same.new hl) ⟨l, ys, rfl, .inl upd_same, hr.mono (Same.new hl)⟩⟩
theorem rpI_keys {H : Hp} : ∀ {m : IM} {xs : List (Key × V)}, RpI H m xs → (xs.map fun kv => kV kv.1) = (m.map (·.1)).map V.int
  | [], _, h => by rw [show _ = [] from h]; rfl
  | (k, d) :: m, _, h => by obtain ⟨v, r, rfl, _, q⟩ := h.inv; simp only [List.map_cons, rpI_keys q]; rfl
theorem cd_listD {m : IM} : CallD rListD [dI m] (.list ((m.map (·.1)).map PyData.int)) := fun H xs hx Q q => by
  obtain ⟨v, r, rfl, ⟨a, ys, rfl, ha, hr⟩, hn⟩ := hx
  cases (show r = [] from hn)
  exact ⟨a, ys, rfl, ha, fun l hl => q _ _ (Same.new hl) ⟨l, _, rfl, upd_same, by rw [rpI_keys hr]; exact RpL.ints _⟩⟩
end

/-! ### statements that hand back data -/
/-- the block ends by handing back d, leaving all as it was -/
def EvR (t : TS) (σ : L2.St) (H : Hp) (d : PyData) : Prop := ∀ H1, Same H H1 → ∀ D : Ends, (∀ v H2, Same H1 H2 → Rp H2 d v → D.rt v H2) → t D σ H1
section
variable {K : PySem.W.Frag} {σ : L2.St} {H H' : Hp} {te : TE} {c : TT} {t u : TS} {d e f : PyData} {D : Ends} {i : Nat} {b : Bool}
theorem EvR.mono (h : EvR t σ H d) (s : Same H H') : EvR t σ H' d := fun H1 e D q => h H1 (s.trans e) D q
theorem EvR.run (h : EvR t σ H d) (q : ∀ v H2, Same H H2 → Rp H2 d v → D.rt v H2) : t D σ H := h H (Same.refl _) D q
theorem er_ret (h : EvD te σ H d) : EvR (tRet te) σ H d := fun H1 s D q => h H1 s _ q
theorem er_retN : EvR tRetN σ H .none := fun H1 s D q => q _ H1 (Same.refl _) rfl
theorem er_ifT (hc : EvB c σ H true) (h : EvR t σ H d) : EvR (tIfS c t u) σ H d := fun H1 s D q => hc H1 s _ fun H2 s2 => iteT (h H2 (s.trans s2) D fun v H3 s3 r3 => q v H3 (s2.trans s3) r3)
theorem er_ifF (hc : EvB c σ H false) (h : EvR u σ H d) : EvR (tIfS c t u) σ H d := fun H1 s D q => hc H1 s _ fun H2 s2 => iteF (h H2 (s.trans s2) D fun v H3 s3 r3 => q v H3 (s2.trans s3) r3)
/-- the first statement of a block hands back -/
theorem er_here (h : EvR t σ H d) : EvR (tSeq t u) σ H d := fun H1 s D q => h H1 s { D with nx := u D } q
/-- an if that is not taken -/
theorem er_skip (hc : EvB c σ H false) (h : EvR u σ H d) : EvR (tSeq (tIfS c t tNext) u) σ H d := fun H1 s D q => hc H1 s _ fun H2 s2 => iteF (h H2 (s.trans s2) D fun v H3 s3 r3 => q v H3 (s2.trans s3) r3)
theorem er_set (h : EvD te σ H d) (k : ∀ v H1, Same H H1 → Rp H1 d v → EvR u (σ.set i (some v)) H1 e) : EvR (tSeq (tAsg te (gName i)) u) σ H e := fun H1 s D q =>
  h H1 s _ fun v H2 s2 r2 => k v H2 (s.trans s2) r2 H2 (Same.refl _) D fun w H3 s3 r3 => q w H3 (s2.trans s3) r3
theorem er_drop (h : EvD te σ H d) (k : EvR u σ H e) : EvR (tSeq (tDrop te) u) σ H e := fun H1 s D q =>
  h H1 s _ fun v H2 s2 r2 => k H2 (s.trans s2) D fun w H3 s3 r3 => q w H3 (s2.trans s3) r3

/-! ### statements, by what is wanted behind them -/
theorem w_seq (h : t { D with nx := u D } σ H) : tSeq t u D σ H := h
theorem w_next (q : D.nx σ H) : tNext D σ H := q
theorem w_ret (h : EvD te σ H d) (q : ∀ v H1, Same H H1 → Rp H1 d v → D.rt v H1) : tRet te D σ H := h H (Same.refl _) _ q
theorem w_set (h : EvD te σ H d) (q : ∀ v H1, Same H H1 → Rp H1 d v → D.nx (σ.set i (some v)) H1) : tAsg te (gName i) D σ H := h H (Same.refl _) _ q
theorem w_drop (h : EvD te σ H d) (q : ∀ H1, Same H H1 → D.nx σ H1) : tDrop te D σ H := h H (Same.refl _) _ fun v H1 s r => q H1 s
theorem w_ifT (h : EvB c σ H true) (q : ∀ H1, Same H H1 → t D σ H1) : tIfS c t u D σ H := h H (Same.refl _) _ fun H1 s => iteT (q H1 s)
theorem w_ifF (h : EvB c σ H false) (q : ∀ H1, Same H H1 → u D σ H1) : tIfS c t u D σ H := h H (Same.refl _) _ fun H1 s => iteF (q H1 s)
theorem w_if (h : EvB c σ H b) (q1 : b = true → ∀ H1, Same H H1 → t D σ H1) (q2 : b = false → ∀ H1, Same H H1 → u D σ H1) : tIfS c t u D σ H := by
  cases b with
  | true => exact w_ifT h (q1 rfl)
  | false => exact w_ifF h (q2 rfl)
end

/-! ### recursion by the number of calls -/
/-- if c: t (hands back), else what follows -/
theorem w_guard {σ : L2.St} {H : Hp} {c : TT} {t u : TS} {D : Ends} {b : Bool} (h : EvB c σ H b) (q1 : b = true → ∀ H1, Same H H1 → t { D with nx := u D } σ H1) (q2 : b = false → ∀ H1, Same H H1 → u D σ H1) : tSeq (tIfS c t tNext) u D σ H := by
  show tIfS c t tNext { D with nx := u D } σ H
  cases b with
  | true => exact w_ifT h (q1 rfl)
  | false => exact w_ifF h fun H1 s => q2 rfl H1 s
/-- c is false -/
theorem w_pass {σ : L2.St} {H : Hp} {c : TT} {t u : TS} {D : Ends} (h : EvB c σ H false) (q : ∀ H1, Same H H1 → u D σ H1) : tSeq (tIfS c t tNext) u D σ H := w_guard h (fun z => by cases z) fun _ => q
theorem w_sset {σ : L2.St} {H : Hp} {te : TE} {i : Nat} {u : TS} {D : Ends} {d : PyData} (h : EvD te σ H d) (q : ∀ v H1, Same H H1 → Rp H1 d v → u D (σ.set i (some v)) H1) : tSeq (tAsg te (gName i)) u D σ H := h H (Same.refl _) _ q

section
variable {P : Program} {w : World} {K : PySem.W.Frag} {mg : Str → Option Value} {base : Heap} {CX : CXT} {f : Addr} {fd : FuncData} {ps : List Str}
theorem none_ok {sp : Sp} (no : ∀ vs H Q E, ¬ sp vs H Q E) : FnOk P w K mg base CX 0 f fd ps sp :=
  ⟨fun vs H Q E h => absurd h (no vs H Q E), fun A outer s H args us vs Q E _ _ _ _ h => absurd h (no vs H Q E)⟩
theorem rec_ok {sp : Nat → Sp} (no : ∀ vs H Q E, ¬ sp 0 vs H Q E) (step : ∀ n, FnOk P w K mg base CX n f fd ps (sp n) → FnOk P w K mg base CX (n + 1) f fd ps (sp (n + 1))) : ∀ n, FnOk P w K mg base CX n f fd ps (sp n)
  | 0 => none_ok no
  | n + 1 => step n (rec_ok no step n)
end
end Fx
/-! FxC: what is walked: comprehensions and loops over data. -/
namespace Fx
open PySem L2 RZ

/-- while Ok holds, J gives the items ds, one behind the other -/
structure Yl (J : It) (Ok : Hp → Prop) (ds : List PyData) : Prop where
  go : ∀ i H, Ok H → i < ds.length → J.go i H
  stop : ∀ i H, Ok H → ds.length ≤ i → J.stop i H
  yld : ∀ i H x H', Ok H → i < ds.length → J.yld i H x H' → Same H H' ∧ ∃ d, ds[i]? = some d ∧ Rp H' d x
/-- the walked thing's items, as long as tuples are kept -/
def EvI (wi : TI) (σ : L2.St) (H : Hp) (ds : List PyData) : Prop := ∀ H1, Same H H1 → ∀ R : It → Hp → Prop,
  (∀ J H2 Ok, Same H1 H2 → Ok H2 → (∀ H3 H4, Ok H3 → KT H3 H4 → Ok H4) → Yl J Ok ds → R J H2) → wi σ H1 R
/-- .. as long as nothing changes -/
def EvJ (wi : TI) (σ : L2.St) (H : Hp) (ds : List PyData) : Prop := ∀ H1, Same H H1 → ∀ R : It → Hp → Prop,
  (∀ J H2 Ok, Same H1 H2 → Ok H2 → (∀ H3 H4, Ok H3 → Same H3 H4 → Ok H4) → Yl J Ok ds → R J H2) → wi σ H1 R
theorem EvI.j {wi : TI} {σ : L2.St} {H : Hp} {ds : List PyData} (h : EvI wi σ H ds) : EvJ wi σ H ds := fun H1 s R q => h H1 s R fun J H2 Ok s2 o c y => q J H2 Ok s2 o (fun H3 H4 o3 s3 => c H3 H4 o3 (.of s3)) y
section
variable {K : PySem.W.Frag} {σ : L2.St} {H : Hp} {te : TE} {ds es : List PyData}
theorem ei_tup (h : EvD te σ H (.tuple ds)) (hi : immL ds = true) : EvI (iTup K te) σ H ds := fun H1 s R q => h H1 s _ fun v H2 s2 r => by
  obtain ⟨a, xs, rfl, ha, hr⟩ := r
  refine ⟨a, rfl, ⟨xs, .of ha⟩, q _ H2 (fun H' => H' a = some (.tup xs) ∧ RpL H' ds xs) s2 ⟨ha, hr⟩ (fun H3 H4 o k => ⟨k a xs o.1, RpL.kt k ds xs hi o.2⟩) ⟨fun i H' o hlt => ?_, fun i H' o hle => ?_, fun i H' x H'' o hlt y => ?_⟩⟩
  · rw [← o.2.length] at hlt
    exact ⟨xs, xs[i], .of o.1, by simp [hlt]⟩
  · exact ⟨xs, .of o.1, by rw [o.2.length]; exact hle⟩
  · obtain ⟨rfl, y⟩ := y
    obtain ⟨d, e1, e2⟩ := o.2.get' (y xs (.of o.1))
    exact ⟨Same.refl _, d, e1, e2⟩
theorem ej_list (h : EvD te σ H (.list ds)) : EvJ (iList K te) σ H ds := fun H1 s R q => h H1 s _ fun v H2 s2 r => by
  obtain ⟨a, xs, rfl, ha, hr⟩ := r
  refine ⟨a, rfl, ⟨xs, .of ha⟩, q _ H2 (fun H' => H' a = some (.lst xs) ∧ RpL H' ds xs) s2 ⟨ha, hr⟩ (fun H3 H4 o k => ⟨k _ _ o.1, o.2.mono k⟩) ⟨fun i H' o hlt => ?_, fun i H' o hle => ?_, fun i H' x H'' o hlt y => ?_⟩⟩
  · rw [← o.2.length] at hlt
    exact ⟨xs, xs[i], .of o.1, by simp [hlt]⟩
  · exact ⟨xs, .of o.1, by rw [o.2.length]; exact hle⟩
  · obtain ⟨rfl, y⟩ := y
    obtain ⟨d, e1, e2⟩ := o.2.get' (y xs (.of o.1))
    exact ⟨Same.refl _, d, e1, e2⟩
theorem ei_str {z : Str} (h : EvD te σ H (.str z)) : EvI (iStr te) σ H (z.cps.toList.map fun c => .str ⟨#[c]⟩) := fun H1 s R q => h H1 s _ fun v H2 s2 r => by
  cases (show v = V.str z from r)
  refine ⟨z, rfl, q _ H2 (fun _ => True) s2 trivial (fun _ _ _ _ => trivial) ⟨fun i H' _ hlt => ?_, fun i H' _ hle => ?_, fun i H' x H'' _ hlt y => ?_⟩⟩
  · show i < z.cps.size
    simpa using hlt
  · show z.cps.size ≤ i
    simpa using hle
  · obtain ⟨rfl, c, e, rfl⟩ := y
    refine ⟨Same.refl _, .str ⟨#[c]⟩, ?_, rfl⟩
    rw [List.getElem?_map, Array.getElem?_toList, e]; rfl
theorem ei_range1 {n : Nat} (h : EvD te σ H (.int n)) (h2 : n < 2 ^ 62) : EvI (iRng1 (tCons te tNil)) σ H ((List.range n).map fun (i : Nat) => .int (i : Int)) := fun H1 s R q => h H1 s _ fun v H2 s2 r => by
  cases (show v = V.int n from r)
  refine ⟨n, rfl, by omega, by omega, q _ H2 (fun _ => True) s2 trivial (fun _ _ _ _ => trivial) ⟨fun i H' _ hlt => ?_, fun i H' _ hle => ?_, fun i H' x H'' _ hlt y => ?_⟩⟩
  · show i < (n : Int).toNat
    simpa using hlt
  · show (n : Int).toNat ≤ i
    simpa using hle
  · obtain ⟨rfl, rfl⟩ := y
    refine ⟨Same.refl _, .int (i : Int), ?_, ?_⟩
    · rw [List.getElem?_map, List.getElem?_range (by simpa using hlt)]; rfl
    · show V.int (0 + (i : Int)) = V.int i
      rw [Int.zero_add]
/-- zip of two tuples -/
theorem ei_zipT {ta tb : TE} {ds es : List PyData} (ha : EvD ta σ H (.tuple ds)) (hb : EvD tb σ H (.tuple es)) (hi : immL ds = true) (hj : immL es = true) :
    EvI (iZipA K (tCons ta (tCons tb tNil))) σ H (List.zipWith (fun a b => .tuple [a, b]) ds es) := fun H1 s R q => ha H1 s _ fun v H2 s2 r => hb H2 (s.trans s2) _ fun w H3 s3 r' => by
  obtain ⟨a, xs, rfl, ha, hr⟩ := r.mono s3
  obtain ⟨b, ys, rfl, hb, hr'⟩ := r'
  refine ⟨a, b, xs, ys, rfl, .inr ⟨.of ha, .of hb, q _ H3 (fun H' => (H' a = some (.tup xs) ∧ RpL H' ds xs) ∧ (H' b = some (.tup ys) ∧ RpL H' es ys)) (s2.trans s3) ⟨⟨ha, hr⟩, ⟨hb, hr'⟩⟩ (fun H3 H4 o k => ⟨⟨k a xs o.1.1, RpL.kt k ds xs hi o.1.2⟩, ⟨k b ys o.2.1, RpL.kt k es ys hj o.2.2⟩⟩) ⟨fun i H' o hlt => ?_, fun i H' o hle => ?_, fun i H' x H'' o hlt y => ?_⟩⟩⟩
  · rw [List.length_zipWith, ← o.1.2.length, ← o.2.2.length] at hlt
    exact ⟨xs, ys, xs[i]'(by omega), ys[i]'(by omega), .of o.1.1, .of o.2.1, by simp, by simp⟩
  · rw [List.length_zipWith, ← o.1.2.length, ← o.2.2.length] at hle
    exact ⟨xs, ys, .of o.1.1, .of o.2.1, by omega⟩
  · obtain ⟨T, x', y', rfl, hT, rfl, f1, f2⟩ := y
    obtain ⟨d, e1, e2⟩ := o.1.2.get' (f1 xs (.of o.1.1))
    obtain ⟨d', e1', e2'⟩ := o.2.2.get' (f2 ys (.of o.2.1))
    have sm : Same H' (upd H' T (.tup [x', y'])) := Same.new hT
    exact ⟨sm, .tuple [d, d'], by simp [List.getElem?_zipWith, e1, e1'], T, [x', y'], rfl, upd_same, .cons (e2.mono sm) (.cons (e2'.mono sm) .nil)⟩

theorem immL_of : ∀ {ds : List PyData}, (∀ d, d ∈ ds → imm d = true) → immL ds = true
  | [], _ => rfl
  | d :: ds, h => by simp only [immL, Bool.and_eq_true]; exact ⟨h d (by simp), immL_of fun e he => h e (by simp [he])⟩
theorem imm_of : ∀ {ds : List PyData}, immL ds = true → ∀ d, d ∈ ds → imm d = true
  | [], _, _, h => by cases h
  | e :: ds, i, d, h => by
    simp only [immL, Bool.and_eq_true] at i
    rcases List.mem_cons.mp h with rfl | h
    · exact i.1
    · exact imm_of i.2 d h
/-! ### comprehensions -/
theorem et_yes : EvB tYes σ H true := fun H1 s Q q => q H1 (Same.refl _)
theorem wipe1 {j : Nat} {x : Option V} : wipe ((wipe σ [j]).set j x) [j] = wipe σ [j] := by
  show (((σ.set j none).set j x).set j none) = σ.set j none
  rw [List.set_set, List.set_set]
theorem ev_lc {α : Type} {wi : TI} {tt : TT} {te : TE} {j : Nat} (xs : List α) (enc : α → PyData) (hi : EvJ wi σ H (xs.map enc)) (p : α → Bool) (g : α → PyData)
    (hs : ∀ x, x ∈ xs → ∀ v H1, Same H H1 → Rp H1 (enc x) v → EvB tt ((σ.set j none).set j (some v)) H1 (p x) ∧ (p x = true → EvD te ((σ.set j none).set j (some v)) H1 (g x)))
    (hg : ∀ x, x ∈ xs → imm (g x) = true) (hz : xs.length ≤ 1000) : EvD (tLc wi (gName j) tt te [j]) σ H (.list ((xs.filter p).map g)) := fun H1 s Q q => by
  refine hi H1 s _ fun J H2 Ok s2 ok cl Y => fun D hD => ?_
  have zl : ∀ i, (((xs.take i).filter p).map g).length ≤ 1000 := fun i => by
    rw [List.length_map]
    refine Nat.le_trans (List.length_filter_le _ _) ?_
    rw [List.length_take]; omega
  refine ⟨fun i m H' => m = xs.length - i ∧ i ≤ xs.length ∧ Same H2 H' ∧ ∃ acc, H' D = some (.lst acc) ∧ RpL H' (((xs.take i).filter p).map g) acc, ⟨_, rfl, Nat.zero_le _, Same.new hD, [], upd_same, rfl⟩, ?_⟩
  rintro i m H' ⟨rfl, hle, s3, acc, hA, hR⟩
  have ok' : Ok H' := cl _ _ ok s3
  by_cases hlt : i < xs.length
  · refine .inr ⟨Y.go i H' ok' (by simpa using hlt), fun H' => i + 1 ≤ xs.length ∧ Same H2 H' ∧ ∃ acc, H' D = some (.lst acc) ∧ RpL H' (((xs.take (i + 1)).filter p).map g) acc, fun H'' h => ⟨_, by omega, rfl, h⟩, fun v H4 y => ?_⟩
    obtain ⟨s4, d, ed, rd⟩ := Y.yld i H' v H4 ok' (by simpa using hlt) y
    obtain ⟨x, ex, rfl⟩ : ∃ x, xs[i]? = some x ∧ enc x = d := by
      rw [List.getElem?_map] at ed
      exact Option.map_eq_some_iff.mp ed
    have hx : x ∈ xs := List.mem_of_getElem? ex
    have s14 : Same H H4 := (s.trans s2).trans (s3.trans s4)
    obtain ⟨k1, k2⟩ := hs x hx v H4 s14 rd
    have tk : xs.take (i + 1) = xs.take i ++ [x] := by rw [List.take_add_one, ex]; rfl
    refine ⟨wipe1, ?_⟩
    refine k1 H4 (Same.refl _) _ fun H5 s5 => ?_
    refine ite2 (fun c => ?_) (fun c => ?_)
    · refine k2 c H5 s5 _ fun w H6 s6 r6 => ?_
      have a6 : H6 D = some (.lst acc) := s6 _ _ (s5 _ _ (s4 _ _ hA))
      have r6' : RpL H6 (((xs.take i).filter p).map g) acc := hR.mono ((s4.trans s5).trans s6)
      have hl : acc.length < sizeLine := by
        rw [hR.length]
        exact Nat.lt_of_le_of_lt (zl i) (by decide)
      have ss : Same H2 H6 := s3.trans ((s4.trans s5).trans s6)
      refine ⟨acc, a6, hl, by omega, Fx.Same.put ss hD, acc ++ [w], upd_same, ?_⟩
      have ls : RpL H6 (((xs.take (i + 1)).filter p).map g) (acc ++ [w]) := by
        rw [tk, List.filter_append, List.map_append]
        have : List.map g (List.filter p [x]) = [g x] := by simp [c]
        rw [this]
        exact r6'.snoc r6
      exact RpL.kt (KT.upd fun ys e => by rw [a6] at e; cases e) _ _ (immL_of fun d hd => by
        obtain ⟨x, hx, rfl⟩ := List.mem_map.mp hd
        exact hg x (List.mem_of_mem_take (List.mem_filter.mp hx).1)) ls
    · refine ⟨by omega, s3.trans (s4.trans s5), acc, s5 _ _ (s4 _ _ hA), ?_⟩
      rw [tk, List.filter_append, List.map_append]
      have : List.map g (List.filter p [x]) = [] := by simp [c]
      rw [this, List.append_nil]
      exact hR.mono (s4.trans s5)
  · have e : i = xs.length := by omega
    subst e
    refine .inl ⟨Y.stop _ H' ok' (by simp), ?_⟩
    rw [List.take_length] at hR
    exact q _ H' (s2.trans s3) ⟨D, acc, rfl, hA, hR⟩
/-- without an if -/
theorem ev_lc1 {α : Type} {wi : TI} {te : TE} {j : Nat} (xs : List α) (enc : α → PyData) (g : α → PyData) (hi : EvJ wi σ H (xs.map enc))
    (hs : ∀ x, x ∈ xs → ∀ v H1, Same H H1 → Rp H1 (enc x) v → EvD te ((σ.set j none).set j (some v)) H1 (g x))
    (hg : ∀ x, x ∈ xs → imm (g x) = true) (hz : xs.length ≤ 1000) : EvD (tLc wi (gName j) tYes te [j]) σ H (.list (xs.map g)) := by
  have := ev_lc (tt := tYes) (te := te) (j := j) xs enc hi (fun _ => true) g (fun x hx v H1 s r => ⟨et_yes, fun _ => hs x hx v H1 s r⟩) hg hz
  rwa [List.filter_eq_self.mpr (fun _ _ => rfl)] at this

/-! ### loops -/
theorem w_for {wi : TI} {g : TG} {tb : TS} {D : Ends} (hi : EvI wi σ H ds) (body : ∀ H1, Same H H1 → ∃ Pv : Nat → L2.St → Hp → Prop, Pv 0 σ H1 ∧
      (∀ i d x σ' H' H2, ds[i]? = some d → KT H1 H' → Pv i σ' H' → Same H' H2 → Rp H2 d x → g x σ' H2 fun σ2 H3 => tb { D with nx := fun σ4 H4 => KT H1 H4 ∧ Pv (i + 1) σ4 H4, ct := fun σ4 H4 => KT H1 H4 ∧ Pv (i + 1) σ4 H4, bk := D.nx } σ2 H3) ∧
      (∀ σ' H', KT H1 H' → Pv ds.length σ' H' → D.nx σ' H')) : tFor wi g tb D σ H := by
  refine hi H (Same.refl _) _ fun J H2 Ok s2 ok cl Y => ?_
  obtain ⟨Pv, p0, ps, pd⟩ := body H2 s2
  refine ⟨fun i m σ' H' => m = ds.length - i ∧ i ≤ ds.length ∧ KT H2 H' ∧ Pv i σ' H', ⟨_, rfl, Nat.zero_le _, KT.refl _, p0⟩, ?_⟩
  rintro i m σ' H' ⟨rfl, hle, k, p⟩
  have ok' : Ok H' := cl _ _ ok k
  by_cases hlt : i < ds.length
  · refine .inr ⟨Y.go i H' ok' hlt, fun σ4 H4 => KT H2 H4 ∧ Pv (i + 1) σ4 H4, fun σ4 H4 h => ⟨_, by omega, rfl, hlt, h⟩, fun x H4 y => ?_⟩
    obtain ⟨s4, d, ed, rd⟩ := Y.yld i H' x H4 ok' hlt y
    exact ps i d x σ' H' H4 ed k p s4 rd
  · have e : i = ds.length := by omega
    subst e
    exact .inl ⟨Y.stop _ H' ok' (Nat.le_refl _), pd σ' H' k p⟩
/-- over a list that the body leaves as it is -/
theorem w_for_list {g : TG} {tb : TS} {D : Ends} (h : EvD te σ H (.list ds)) (body : ∀ H1 a xs, Same H H1 → H1 a = some (.lst xs) → RpL H1 ds xs → ∃ Pv : Nat → L2.St → Hp → Prop, Pv 0 σ H1 ∧ (∀ i σ' H', Pv i σ' H' → H' a = some (.lst xs)) ∧
      (∀ i d x σ' H', ds[i]? = some d → xs[i]? = some x → Pv i σ' H' → g x σ' H' fun σ2 H3 => tb { D with nx := Pv (i + 1), ct := Pv (i + 1), bk := D.nx } σ2 H3) ∧
      (∀ σ' H', Pv ds.length σ' H' → D.nx σ' H')) : tFor (iList K te) g tb D σ H := by
  refine h H (Same.refl _) _ fun v H2 s2 r => ?_
  obtain ⟨a, xs, rfl, ha, hr⟩ := r
  obtain ⟨Pv, p0, pl, ps, pd⟩ := body H2 a xs s2 ha hr
  refine ⟨a, rfl, ⟨xs, .of ha⟩, for_list (K := K) (xs := xs) Pv p0 (fun i σ' H' _ p => .of (pl i σ' H' p)) (fun i x σ' H' ex p => ?_) (fun σ' H' p => pd σ' H' (by rw [← hr.length]; exact p))⟩
  obtain ⟨d, ed, _⟩ := hr.get' ex
  exact ps i d x σ' H' ed ex p
/-- over a dict's keys: the dict is locked within -/
theorem w_for_keys {i0 : Nat} {a : Addr} {m : IM} {xs : List (Key × V)} {g : TG} {tb : TS} {D : Ends} (h : σ[i0]? = some (some (.ref a))) (ha : H a = some (.dK xs)) (hr : RpI H m xs)
    (body : ∀ od, ∃ Pv : Nat → L2.St → Hp → Prop, Pv 0 σ (upd H a (.frz od (.dK xs))) ∧ (∀ i σ' H', Pv i σ' H' → H' a = some (.frz od (.dK xs))) ∧
      (∀ i (k : Int) d σ' H', m[i]? = some (k, d) → Pv i σ' H' → g (.int k) σ' H' fun σ2 H3 => tb ⟨Pv (i + 1), fun v H' => H' a = some (.frz od (.dK xs)) ∧ D.rt v (upd H' a (.dK xs)), fun σ' H' => H' a = some (.frz od (.dK xs)) ∧ D.nx σ' (upd H' a (.dK xs)), Pv (i + 1)⟩ σ2 H3) ∧
      (∀ σ' H', H' a = some (.frz od (.dK xs)) → Pv m.length σ' H' → D.nx σ' (upd H' a (.dK xs)))) : tLock (tFor (iKeys (tVar i0)) g tb) D σ H := by
  refine ⟨a, .dK xs, ha, trivial, fun od => ?_⟩
  obtain ⟨Pv, p0, pl, ps, pd⟩ := body od
  refine ⟨.ref a, h, a, od, rfl, .inl ⟨xs, upd_same, fun i n σ' H' => n = xs.length - i ∧ i ≤ xs.length ∧ Pv i σ' H', ⟨_, rfl, Nat.zero_le _, p0⟩, ?_⟩⟩
  rintro i n σ' H' ⟨rfl, hle, p⟩
  have fz := pl i σ' H' p
  by_cases hlt : i < xs.length
  · refine .inr ⟨⟨fz, hlt⟩, Pv (i + 1), fun σ4 H4 h => ⟨_, by omega, rfl, hlt, h⟩, fun x H4 y => ?_⟩
    obtain ⟨rfl, k, v, ek, rfl⟩ := y
    have : ∃ kk d, m[i]? = some (kk, d) ∧ k = .inl kk := by
      have ks := rpI_keys hr
      have e1 : (xs.map fun kv => kV kv.1)[i]? = some (kV k) := by rw [List.getElem?_map, ek]; rfl
      rw [ks, List.getElem?_map, List.getElem?_map] at e1
      cases q : m[i]? with
      | none => rw [q] at e1; cases e1
      | some kd =>
        rw [q] at e1
        obtain ⟨kk, d⟩ := kd
        have e2 : V.int kk = kV k := Option.some.inj e1
        refine ⟨kk, d, rfl, ?_⟩
        cases k with
        | inl j => cases e2; rfl
        | inr s => cases e2
    obtain ⟨kk, d, em, rfl⟩ := this
    exact ps i kk d σ' _ em p
  · have e : i = xs.length := by omega
    subst e
    exact .inl ⟨⟨fz, Nat.le_refl _⟩, fz, pd σ' H' fz (by rw [← RpI.length hr]; exact p)⟩
/-- a pair is taken apart -/
theorem w_gtup2 {i j : Nat} {d1 d2 : PyData} {x : V} {Q : L2.St → Hp → Prop} (r : Rp H (.tuple [d1, d2]) x) (q : ∀ v1 v2, Rp H d1 v1 → Rp H d2 v2 → Q ((σ.set i (some v1)).set j (some v2)) H) : gTup K 2 (gCons (gName i) (gCons (gName j) gNil)) x σ H Q := by
  obtain ⟨a, xs, rfl, ha, v1, _, rfl, r1, v2, _, rfl, r2, rfl⟩ := r
  exact ⟨a, _, rfl, .of ha, rfl, v1, _, rfl, v2, _, rfl, rfl, q v1 v2 r1 r2⟩

/-! ### what is written -/
theorem w_append {i : Nat} {a : Addr} {xs : List V} {d : PyData} {te : TE} {D : Ends} (h : σ[i]? = some (some (.ref a))) (ha : H a = some (.lst xs)) (he : EvD te σ H d) (hl : xs.length ≤ 100000)
    (q : ∀ v H1, Same H H1 → Rp H1 d v → D.nx σ (upd H1 a (.lst (xs ++ [v])))) : tDrop (tBM K "list" rAppend (tVar i) (tCons te tNil)) D σ H := by
  refine ⟨.ref a, h, .inl ⟨rfl, xs, .of ha⟩, he H (Same.refl _) _ fun v H1 s r => ?_⟩
  exact ⟨a, xs, v, rfl, rfl, s _ _ ha, Nat.lt_of_le_of_lt hl (by decide), q v H1 s r⟩
theorem w_extend {i : Nat} {a : Addr} {xs : List V} {ds : List PyData} {te : TE} {D : Ends} (h : σ[i]? = some (some (.ref a))) (ha : H a = some (.lst xs)) (he : EvD te σ H (.list ds)) (hl : xs.length + ds.length ≤ 100000)
    (q : ∀ vs H1, Same H H1 → RpL H1 ds vs → D.nx σ (upd H1 a (.lst (xs ++ vs)))) : tDrop (tBM K "list" rExtend (tVar i) (tCons te tNil)) D σ H := by
  refine ⟨.ref a, h, .inl ⟨rfl, xs, .of ha⟩, he H (Same.refl _) _ fun v H1 s r => ?_⟩
  obtain ⟨b, ys, rfl, hb, hr⟩ := r
  exact ⟨a, b, xs, ys, rfl, rfl, s _ _ ha, hb, by rw [hr.length]; exact Nat.le_trans hl (by decide), q ys H1 s hr⟩
theorem w_setL {i : Nat} {a : Addr} {xs : List V} {d : PyData} {k : Int} {j : Nat} {te : TE} {D : Ends} (h : σ[i]? = some (some (.ref a))) (ha : H a = some (.lst xs)) (he : EvD te σ H d) (hk : ixN xs.length k = some j)
    (q : ∀ v H1, Same H H1 → Rp H1 d v → D.nx σ (upd H1 a (.lst (xs.set j v)))) : tAsg te (gSub (tVar i) (tC (.int k)) rSetL) D σ H := by
  refine he H (Same.refl _) _ fun v H1 s r => ?_
  exact ⟨.ref a, h, a, xs, k, j, rfl, rfl, s _ _ ha, hk, q v H1 s r⟩
theorem w_dput {i : Nat} {a : Addr} {xs : List (Key × V)} {d : PyData} {k : Int} {te ty : TE} {D : Ends} (h : σ[i]? = some (some (.ref a))) (ha : H a = some (.dK xs)) (he : EvD te σ H d) (hy : EvD ty σ H (.int k)) (hl : xs.length ≤ 100000)
    (q : ∀ v H1, Same H H1 → Rp H1 d v → D.nx σ (upd H1 a (.dK (putK xs (.inl k) v)))) : sDPut (tVar i) ty te D σ H := by
  refine he H (Same.refl _) _ fun v H1 s r => ?_
  refine ⟨.ref a, h, hy H1 s _ fun y H2 s2 r2 => ?_⟩
  cases (show y = V.int k from r2)
  exact ⟨a, _, rfl, .inl ⟨xs, .inl k, (s.trans s2) _ _ ha, rfl, Nat.lt_of_le_of_lt hl (by decide), rfl⟩, q v H2 (s.trans s2) (r.mono s2)⟩
theorem w_dnew {i : Nat} {D : Ends} (q : ∀ p, H p = none → D.nx (σ.set i (some (.ref p))) (upd H p (.dK []))) : tAsg tDNewK (gName i) D σ H := q
theorem w_lnew {i : Nat} {D : Ends} (q : ∀ p, H p = none → D.nx (σ.set i (some (.ref p))) (upd H p (.lst []))) : tAsg (tLst tNil) (gName i) D σ H := ⟨Nat.zero_le _, q⟩

/-! .. and what follows -/
theorem w_sfor {wi : TI} {g : TG} {tb u : TS} {D : Ends} (hi : EvI wi σ H ds) (body : ∀ H1, Same H H1 → ∃ Pv : Nat → L2.St → Hp → Prop, Pv 0 σ H1 ∧
      (∀ i d x σ' H' H2, ds[i]? = some d → KT H1 H' → Pv i σ' H' → Same H' H2 → Rp H2 d x → g x σ' H2 fun σ2 H3 => tb { D with nx := fun σ4 H4 => KT H1 H4 ∧ Pv (i + 1) σ4 H4, ct := fun σ4 H4 => KT H1 H4 ∧ Pv (i + 1) σ4 H4, bk := u D } σ2 H3) ∧
      (∀ σ' H', KT H1 H' → Pv ds.length σ' H' → u D σ' H')) : tSeq (tFor wi g tb) u D σ H := w_for (D := { D with nx := u D }) hi body
theorem w_sfor_list {g : TG} {tb u : TS} {D : Ends} (h : EvD te σ H (.list ds)) (body : ∀ H1 a xs, Same H H1 → H1 a = some (.lst xs) → RpL H1 ds xs → ∃ Pv : Nat → L2.St → Hp → Prop, Pv 0 σ H1 ∧ (∀ i σ' H', Pv i σ' H' → H' a = some (.lst xs)) ∧
      (∀ i d x σ' H', ds[i]? = some d → xs[i]? = some x → Pv i σ' H' → g x σ' H' fun σ2 H3 => tb { D with nx := Pv (i + 1), ct := Pv (i + 1), bk := u D } σ2 H3) ∧
      (∀ σ' H', Pv ds.length σ' H' → u D σ' H')) : tSeq (tFor (iList K te) g tb) u D σ H := w_for_list (D := { D with nx := u D }) h body
theorem w_sfor_keys {i0 : Nat} {a : Addr} {m : IM} {xs : List (Key × V)} {g : TG} {tb u : TS} {D : Ends} (h : σ[i0]? = some (some (.ref a))) (ha : H a = some (.dK xs)) (hr : RpI H m xs)
    (body : ∀ od, ∃ Pv : Nat → L2.St → Hp → Prop, Pv 0 σ (upd H a (.frz od (.dK xs))) ∧ (∀ i σ' H', Pv i σ' H' → H' a = some (.frz od (.dK xs))) ∧
      (∀ i (k : Int) d σ' H', m[i]? = some (k, d) → Pv i σ' H' → g (.int k) σ' H' fun σ2 H3 => tb ⟨Pv (i + 1), fun v H' => H' a = some (.frz od (.dK xs)) ∧ D.rt v (upd H' a (.dK xs)), fun σ' H' => H' a = some (.frz od (.dK xs)) ∧ u D σ' (upd H' a (.dK xs)), Pv (i + 1)⟩ σ2 H3) ∧
      (∀ σ' H', H' a = some (.frz od (.dK xs)) → Pv m.length σ' H' → u D σ' (upd H' a (.dK xs)))) : tSeq (tLock (tFor (iKeys (tVar i0)) g tb)) u D σ H := w_for_keys (D := { D with nx := u D }) h ha hr body
theorem w_slnew {i : Nat} {u : TS} {D : Ends} (q : ∀ p, H p = none → u D (σ.set i (some (.ref p))) (upd H p (.lst []))) : tSeq (tAsg (tLst tNil) (gName i)) u D σ H := ⟨Nat.zero_le _, q⟩
theorem w_sdnew {i : Nat} {u : TS} {D : Ends} (q : ∀ p, H p = none → u D (σ.set i (some (.ref p))) (upd H p (.dK []))) : tSeq (tAsg tDNewK (gName i)) u D σ H := q
theorem w_ssetL {i : Nat} {a : Addr} {xs : List V} {d : PyData} {k : Int} {j : Nat} {te : TE} {u : TS} {D : Ends} (h : σ[i]? = some (some (.ref a))) (ha : H a = some (.lst xs)) (he : EvD te σ H d) (hk : ixN xs.length k = some j)
    (q : ∀ v H1, Same H H1 → Rp H1 d v → u D σ (upd H1 a (.lst (xs.set j v)))) : tSeq (tAsg te (gSub (tVar i) (tC (.int k)) rSetL)) u D σ H := w_setL (D := { D with nx := u D }) h ha he hk q
theorem w_sappend {i : Nat} {a : Addr} {xs : List V} {d : PyData} {te : TE} {u : TS} {D : Ends} (h : σ[i]? = some (some (.ref a))) (ha : H a = some (.lst xs)) (he : EvD te σ H d) (hl : xs.length ≤ 100000)
    (q : ∀ v H1, Same H H1 → Rp H1 d v → u D σ (upd H1 a (.lst (xs ++ [v])))) : tSeq (tDrop (tBM K "list" rAppend (tVar i) (tCons te tNil))) u D σ H := w_append (D := { D with nx := u D }) h ha he hl q
theorem w_sextend {i : Nat} {a : Addr} {xs : List V} {ds : List PyData} {te : TE} {u : TS} {D : Ends} (h : σ[i]? = some (some (.ref a))) (ha : H a = some (.lst xs)) (he : EvD te σ H (.list ds)) (hl : xs.length + ds.length ≤ 100000)
    (q : ∀ vs H1, Same H H1 → RpL H1 ds vs → u D σ (upd H1 a (.lst (xs ++ vs)))) : tSeq (tDrop (tBM K "list" rExtend (tVar i) (tCons te tNil))) u D σ H := w_extend (D := { D with nx := u D }) h ha he hl q
theorem w_sdput {i : Nat} {a : Addr} {xs : List (Key × V)} {d : PyData} {k : Int} {te ty : TE} {u : TS} {D : Ends} (h : σ[i]? = some (some (.ref a))) (ha : H a = some (.dK xs)) (he : EvD te σ H d) (hy : EvD ty σ H (.int k)) (hl : xs.length ≤ 100000)
    (q : ∀ v H1, Same H H1 → Rp H1 d v → u D σ (upd H1 a (.dK (putK xs (.inl k) v)))) : tSeq (sDPut (tVar i) ty te) u D σ H := w_dput (D := { D with nx := u D }) h ha he hy hl q
theorem w_sif {c : TT} {t1 t2 u : TS} {D : Ends} {b : Bool} (h : EvB c σ H b) (q1 : b = true → ∀ H1, Same H H1 → t1 { D with nx := u D } σ H1) (q2 : b = false → ∀ H1, Same H H1 → t2 { D with nx := u D } σ H1) : tSeq (tIfS c t1 t2) u D σ H := w_if (D := { D with nx := u D }) h q1 q2
theorem w_sclear {i : Nat} {a : Addr} {xs : List (Key × V)} {u : TS} {D : Ends} (h : σ[i]? = some (some (.ref a))) (ha : H a = some (.dK xs)) (q : u D σ (upd H a (.dK []))) : tSeq (tDrop (tBM0 K "dict" rDClear (tVar i))) u D σ H :=
  ⟨.ref a, h, .inr (.inr (.inl ⟨rfl, .inl ⟨xs, ha⟩⟩)), a, xs, rfl, rfl, ha, q⟩
theorem w_scopy {i j : Nat} {a : Addr} {xs : List (Key × V)} {u : TS} {D : Ends} (h : σ[i]? = some (some (.ref a))) (ha : Rd H a (.dK xs)) (q : ∀ p, H p = none → u D (σ.set j (some (.ref p))) (upd H p (.dK xs))) : tSeq (tAsg (tCB rDictD (tCons (tVar i) tNil)) (gName j)) u D σ H :=
  ⟨.ref a, h, a, xs, rfl, ha, q⟩
end
end Fx
/-! FxD: defs by their names; forms. -/
namespace Fx
open PySem L2 PySem.Spec PyProof.Rows PySem.PyData

section
variable {P : Program} {w : World} {K : PySem.W.Frag} {mg : Str → Option Value} {base : Heap} {CX : CXT} {lv : Nat} {x : Str} {st : Stmt} {ps N : List Str} {sp : Sp}
/-- its arguments bind by their places -/
def Bd (fd : FuncData) (ps : List Str) : Prop := ∀ us : List Value, us.length = ps.length → bindArgs fd ⟨us, []⟩ = pure (ps.zip us)
/-- the def x of the text, as the top leaves it -/
def Bn (K : PySem.W.Frag) (mg : Str → Option Value) (x : Str) (st : Stmt) (ps : List Str) : Prop := ∃ f fd, Fun K x x st f fd ∧ Bd fd ps ∧ mg x = some (.ref f)
/-- the def x keeps a promise -/
def Df (P : Program) (w : World) (K : PySem.W.Frag) (mg : Str → Option Value) (base : Heap) (CX : CXT) (lv : Nat) (x : Str) (ps : List Str) (sp : Sp) : Prop :=
  ∃ f fd, FnOk P w K mg base CX lv f fd ps sp ∧ Bd fd ps ∧ PySem.W.keepIn K (.ref f) = true ∧ mg x = some (.ref f)
theorem Df.mono {j : Nat} (D : Df P w K mg base CX j x ps sp) (h : j ≤ lv) : Df P w K mg base CX lv x ps sp := let ⟨f, fd, F, r⟩ := D; ⟨f, fd, F.mono h, r⟩
theorem Df.imp {sp' : Sp} (D : Df P w K mg base CX lv x ps sp) (h : ∀ vs H Q E, sp' vs H Q E → sp vs H Q E) : Df P w K mg base CX lv x ps sp' := let ⟨f, fd, F, r⟩ := D; ⟨f, fd, F.imp h, r⟩
theorem Bn.ok (B : Bn K mg x st ps) (S : FnScope N ps (defScope st)) (len : ∀ vs H Q E, sp vs H Q E → vs.length = ps.length)
    (hbody : ∀ (f : Addr) (cdv : Value) (A : Around) (outer : List Env) (s : Shared) (H : Hp) (vs : List V) (Q : VK) (E : XK), Room lv (A.deeper (envOfC x (defScope st) s.heap.objs.size f cdv)) → sp vs H Q E →
      ∃ t, PSs (cxOf CX0 P w K mg base N x (defScope st) f cdv A outer s H E).nox (defBody st) t ∧ t { nx := fun _ H' => Q .non H', rt := Q } (start N vs) H) : Df P w K mg base CX0 (lv + 1) x ps sp := by
  obtain ⟨f, fd, F, hb, hm⟩ := B
  exact ⟨f, fd, F.ok S len fun cdv A outer s H vs Q E hr h => hbody f cdv A outer s H vs Q E hr h, hb, F.kp, hm⟩
theorem Bn.okX (B : Bn K mg x st ps) (S : FnScope N ps (defScope st)) (len : ∀ vs H Q E, sp vs H Q E → vs.length = ps.length)
    (hbody : ∀ (f : Addr) (cdv : Value) (A : Around) (outer : List Env) (s : Shared) (H : Hp) (vs : List V) (Q : VK) (E : XK), Room lv (A.deeper (envOfC x (defScope st) s.heap.objs.size f cdv)) → sp vs H Q E →
      ∃ t, PSs (cxOf (L2.CX P w) P w K mg base N x (defScope st) f cdv A outer s H E) (defBody st) t ∧ t { nx := fun _ H' => Q .non H', rt := Q } (start N vs) H) : Df P w K mg base (L2.CX P w) (lv + 1) x ps sp := by
  obtain ⟨f, fd, F, hb, hm⟩ := B
  exact ⟨f, fd, F.okX S len fun cdv A outer s H vs Q E hr h => hbody f cdv A outer s H vs Q E hr h, hb, F.kp, hm⟩
theorem Bn.none (B : Bn K mg x st ps) (no : ∀ vs H Q E, ¬ sp vs H Q E) : Df P w K mg base CX 0 x ps sp := by
  obtain ⟨f, fd, F, hb, hm⟩ := B
  exact ⟨f, fd, none_ok no, hb, F.kp, hm⟩
theorem Bn.rec {sp : Nat → Sp} (B : Bn K mg x st ps) (no : ∀ vs H Q E, ¬ sp 0 vs H Q E) (step : ∀ n, Df P w K mg base CX n x ps (sp n) → Df P w K mg base CX (n + 1) x ps (sp (n + 1))) : ∀ n, Df P w K mg base CX n x ps (sp n)
  | 0 => B.none no
  | n + 1 => step n (Bn.rec B no step n)
/-- .. c levels higher -/
theorem Bn.recK {sp : Nat → Sp} (c : Nat) (B : Bn K mg x st ps) (no : ∀ vs H Q E, ¬ sp 0 vs H Q E) (step : ∀ n, Df P w K mg base CX (n + c) x ps (sp n) → Df P w K mg base CX (n + c + 1) x ps (sp (n + 1))) : ∀ n, Df P w K mg base CX (n + c) x ps (sp n)
  | 0 => (B.none no).mono (Nat.zero_le _)
  | n + 1 => (step n (Bn.recK c B no step n)).mono (by omega)
end
section
variable {X : Cx} {CX : CXT} {lv : Nat} {x : Str} {ps : List Str} {sp : Sp} {E : XK} {e : Expr} {es : List Expr} {t : TA} {p pos : Pos}
theorem pe_df (D : Df X.prog X.w X.K X.mg X.base CX lv x ps sp) (hr : Room lv X.A) (hg : Gl X x) (hx : Passes CX X E)
    (ha : PA X (e :: es) t) (hdb : (x == ("__debug__" : Str)) = false := by decide) (he : starEach (e :: es) X.env = (false, eval e X.env) :: starEach es X.env := by rfl) (hpl : (backTo pos (starEach es X.env)).any (·.1) = false := by rfl) :
    PE X (.Call (.Name x p) (e :: es) [] pos) (tCall sp [] E t) := by
  obtain ⟨f, fd, F, hb, hk, hm⟩ := D
  exact pe_call F hr hg hm hk (Binds.all hb) .nil hx ha hdb he hpl
end

/-- law's own promise, as the walk wants it -/
theorem Bn.law {P : Program} {w : World} {K : PySem.W.Frag} {mg : Str → Option Value} {sp : Sp} {lv : Nat} {fa : Addr} {st : Stmt} {N : List Str} (B : Bn K mg "law" st ["script"]) (hfa : mg "law" = some (.ref fa)) (S : FnScope N ["script"] (defScope st)) (len : ∀ vs H Q E, sp vs H Q E → vs.length = 1)
    (hbody : ∀ (base : Heap) (f : Addr) (cdv : Value) (A : Around) (outer : List Env) (s : Shared) (H : Hp) (vs : List V) (Q : VK) (E : XK), Room lv (A.deeper (envOfC "law" (defScope st) s.heap.objs.size f cdv)) → sp vs H Q E →
      ∃ t, PSs (cxOf CX0 P w K mg base N "law" (defScope st) f cdv A outer s H E).nox (defBody st) t ∧ t { nx := fun _ H' => Q .non H', rt := Q } (start N vs) H) :
    ∃ fd : FuncData, (∀ (s : Shared) (u : Value), BindsTo s fd ⟨[u], []⟩ [("script", u)]) ∧ ∀ base : Heap, K.In base → base.Ns mainGlobals mg → FnOk P w K mg base CX0 (lv + 1) fa fd ["script"] sp := by
  obtain ⟨f, fd, F, hb, hm⟩ := B
  rw [hfa] at hm; cases hm
  exact ⟨fd, fun s u => .of_eq (hb [u] rfl), fun base _ _ => F.ok S len fun cdv A outer s H vs Q E hr h => hbody base _ cdv A outer s H vs Q E hr h⟩
/-! ### forms -/
inductive Fm where
  | gap (n : Int)
  | tie (w : Str) (ps : List Fm)
mutual
def Fm.d : Fm → PyData
  | .gap n => .tuple [.str "gap", .int n]
  | .tie w ps => .tuple [.str "tie", .str w, .tuple (Fm.dL ps)]
def Fm.dL : List Fm → List PyData
  | [] => []
  | f :: fs => f.d :: Fm.dL fs
end
theorem Fm.dL_map : ∀ fs : List Fm, Fm.dL fs = fs.map Fm.d
  | [] => rfl
  | f :: fs => by rw [Fm.dL, Fm.dL_map fs]; rfl
mutual

def Fm.dep : Fm → Nat
  | .gap _ => 1
  | .tie _ ps => 1 + Fm.depL ps
def Fm.depL : List Fm → Nat
  | [] => 0
  | f :: fs => max f.dep (Fm.depL fs)
end
theorem Fm.dep_pos : ∀ f : Fm, 1 ≤ f.dep
  | .gap _ => Nat.le_refl _
  | .tie _ _ => by simp only [Fm.dep]; omega
theorem Fm.dep_part : ∀ {ps : List Fm} {f : Fm}, f ∈ ps → f.dep ≤ Fm.depL ps
  | g :: ps, f, h => by
    simp only [Fm.depL]
    rcases List.mem_cons.mp h with rfl | h
    · omega
    · have := Fm.dep_part h; omega
theorem Fm.depL_le {ps : List Fm} {n : Nat} (h : ∀ f, f ∈ ps → f.dep ≤ n) : Fm.depL ps ≤ n := by
  induction ps with
  | nil => exact Nat.zero_le _
  | cons g ps ih =>
    simp only [Fm.depL]
    have := h g (by simp)
    have := ih fun f hf => h f (by simp [hf])
    omega
mutual

def Fm.sg : Fm → Nat
  | .gap _ => 1
  | .tie _ ps => 1 + Fm.sgL ps
def Fm.sgL : List Fm → Nat
  | [] => 0
  | f :: fs => f.sg + Fm.sgL fs
end
/-! the words are texts, there are not many parts -/
mutual
def Fm.ok : Fm → Bool
  | .gap _ => true
  | .tie w ps => strOk w && decide (ps.length ≤ 200) && Fm.okL ps
def Fm.okL : List Fm → Bool
  | [] => true
  | f :: fs => f.ok && Fm.okL fs
end

theorem Fm.ok_part : ∀ {fs : List Fm} {f : Fm}, Fm.okL fs = true → f ∈ fs → f.ok = true
  | g :: fs, f, h, m => by
    simp only [Fm.okL, Bool.and_eq_true] at h
    rcases List.mem_cons.mp m with rfl | m
    · exact h.1
    · exact Fm.ok_part h.2 m
theorem Fm.okL_of : ∀ {fs : List Fm}, (∀ f, f ∈ fs → f.ok = true) → Fm.okL fs = true
  | [], _ => rfl
  | f :: fs, h => by simp only [Fm.okL, Bool.and_eq_true]; exact ⟨h f (by simp), Fm.okL_of fun g hg => h g (by simp [hg])⟩

mutual
theorem Fm.imm_d : ∀ f : Fm, imm f.d = true
  | .gap _ => rfl
  | .tie w ps => by simp only [Fm.d, imm, immL, Bool.and_eq_true]; exact ⟨trivial, trivial, Fm.imm_dL ps, trivial⟩
theorem Fm.imm_dL : ∀ fs : List Fm, immL (Fm.dL fs) = true
  | [] => rfl
  | f :: fs => by simp only [Fm.dL, immL, Bool.and_eq_true]; exact ⟨Fm.imm_d f, Fm.imm_dL fs⟩
end
theorem Fm.immL_d {fs : List Fm} : immL (fs.map Fm.d) = true := by rw [← Fm.dL_map]; exact Fm.imm_dL fs
theorem strOk_gap : strOk ("gap" : Str) = true := by decide +kernel
theorem strOk_tie : strOk ("tie" : Str) = true := by decide +kernel
mutual
theorem Fm.lay : ∀ f : Fm, f.ok = true → f.d.canLay0 = true
  | .gap _, _ => by simp only [Fm.d, canLay0, canLayAll0, Bool.and_eq_true]; exact ⟨strOk_gap, trivial, trivial⟩
  | .tie w ps, h => by
    simp only [Fm.ok, Bool.and_eq_true] at h
    simp only [Fm.d, canLay0, canLayAll0, Bool.and_eq_true]
    exact ⟨strOk_tie, h.1.1, Fm.layL ps h.2, trivial⟩
theorem Fm.layL : ∀ fs : List Fm, Fm.okL fs = true → canLayAll0 (Fm.dL fs) = true
  | [], _ => rfl
  | f :: fs, h => by
    simp only [Fm.okL, Bool.and_eq_true] at h
    simp only [Fm.dL, canLayAll0, Bool.and_eq_true]
    exact ⟨Fm.lay f h.1, Fm.layL fs h.2⟩
end
mutual
theorem Fm.depth_d : ∀ f : Fm, f.d.depth ≤ 2 * f.dep
  | .gap _ => by simp [Fm.d, depth, depthAll, Fm.dep]
  | .tie w ps => by
    have := Fm.depth_dL ps
    simp only [Fm.d, depth, depthAll, Fm.dep]
    omega
theorem Fm.depth_dL : ∀ fs : List Fm, depthAll (Fm.dL fs) ≤ 2 * Fm.depL fs
  | [] => by simp [Fm.dL, depthAll]
  | f :: fs => by
    have := Fm.depth_d f
    have := Fm.depth_dL fs
    simp only [Fm.dL, depthAll, Fm.depL]
    omega
end
theorem Fm.okD {f : Fm} (h : f.ok = true) (hd : f.dep ≤ 95) : okD f.d = true := by
  unfold Fx.okD
  rw [Bool.and_eq_true]
  exact ⟨f.lay h, decide_eq_true (by have := f.depth_d; omega)⟩
theorem str_beq {x y : Str} : (x == y) = decide (x = y) := rfl
mutual
theorem Fm.eqv_iff : ∀ f g : Fm, f.d.eqv g.d = true ↔ f = g
  | .gap i, .gap j => by
    simp [Fm.d, eqv, eqvAll]
  | .gap i, .tie w ps => by simp [Fm.d, eqv, eqvAll]
  | .tie w ps, .gap j => by simp [Fm.d, eqv, eqvAll]
  | .tie w ps, .tie w' qs => by
    simp [Fm.d, eqv, eqvAll, Fm.eqv_iffL ps qs]
theorem Fm.eqv_iffL : ∀ fs gs : List Fm, eqvAll (Fm.dL fs) (Fm.dL gs) = true ↔ fs = gs
  | [], [] => by simp [Fm.dL, eqvAll]
  | [], g :: gs => by simp [Fm.dL, eqvAll]
  | f :: fs, [] => by simp [Fm.dL, eqvAll]
  | f :: fs, g :: gs => by simp [Fm.dL, eqvAll, Fm.eqv_iff f g, Fm.eqv_iffL fs gs]
end
instance : DecidableEq Fm := fun a b => if h : a.d.eqv b.d = true then .isTrue ((Fm.eqv_iff a b).mp h) else .isFalse fun e => h ((Fm.eqv_iff a b).mpr e)
theorem Fm.eqv {f g : Fm} : f.d.eqv g.d = decide (f = g) := by
  by_cases h : f = g
  · rw [decide_eq_true h]; exact (Fm.eqv_iff f g).mpr h
  · rw [decide_eq_false h]; exact Bool.eq_false_iff.mpr fun e => h ((Fm.eqv_iff f g).mp e)
end Fx
/-! FxE: isinstance of data; numbers; what a script is. -/
namespace Fx
open PySem L2 PySem.Spec PyProof.Rows PySem.PyData

/-- the type of data -/
def tyN : PyData → String
  | .none => "NoneType"
  | .bool _ => "bool"
  | .int _ => "int"
  | .str _ => "str"
  | .list _ => "list"
  | .tuple _ => "tuple"
  | .dict _ => "dict"
theorem tyX_of {K : PySem.W.Frag} {H : Hp} {d : PyData} {v : V} (h : Rp H d v) : TyX K H v (.type (tyN d)) := by
  cases d with
  | none => rw [show v = V.non from h]; exact .base .non
  | bool b => rw [show v = V.bl b from h]; exact .base (.bl b)
  | int i => rw [show v = V.int i from h]; exact .base (.int i)
  | str s => rw [show v = V.str s from h]; exact .base (.str s)
  | list ds => obtain ⟨a, xs, rfl, ha, _⟩ := h; exact .base (.lst ha)
  | tuple ds => obtain ⟨a, xs, rfl, ha, _⟩ := h; exact .base (.tup ha)
  | dict ds =>
    obtain ⟨a, xs, rfl, ha, _⟩ := h
    rcases ha with ha | ⟨o, ha⟩
    · exact .base (.dK ha)
    · exact .fDict ha
/-- isinstance, by the types' names -/
def isN (a b : String) : Bool := a == b || (a == "bool" && b == "int")
theorem kit_isN {K : PySem.W.Frag} (d : PyData) {b : String} (hb : b = "tuple" ∨ b = "int" ∨ b = "str" ∨ b = "bool" ∨ b = "dict" ∨ b = "list") : PySem.W.kitOne K (.type (tyN d)) (.type b) = some (isN (tyN d) b) := by
  cases d <;> (simp only [tyN]; rcases hb with rfl | rfl | rfl | rfl | rfl | rfl) <;> exact kit_ty (by decide +kernel)
theorem ev_isi {K : PySem.W.Frag} {σ : L2.St} {H : Hp} {ta : TE} {d : PyData} {b : String} (h : EvD ta σ H d) (hb : b = "tuple" ∨ b = "int" ∨ b = "str" ∨ b = "bool" ∨ b = "dict" ∨ b = "list" := by simp) :
    EvD (tCB (rIsi K) (tCons ta (tCons (tC (.ty b)) tNil))) σ H (.bool (isN (tyN d) b)) := fun H1 s Q q => h H1 s _ fun v H2 s2 r =>
  ⟨v, .ty b, _, _, _, rfl, .ty b, tyX_of r, kit_isN d hb, q _ H2 s2 rfl⟩

/-! ### numbers -/
section
variable {K : PySem.W.Frag} {σ : L2.St} {H : Hp} {ta tb : TE} {i j : Int} {r : R2}
theorem ev_add (ha : EvD ta σ H (.int i)) (hb : EvD tb σ H (.int j)) : EvD (tOp (rI0 fun i j => .int (i + j)) ta tb) σ H (.int (i + j)) := ev_op ha hb (od_I0 fun _ => rfl)
theorem ev_sub (ha : EvD ta σ H (.int i)) (hb : EvD tb σ H (.int j)) : EvD (tOp (rI0 fun i j => .int (i - j)) ta tb) σ H (.int (i - j)) := ev_op ha hb (od_I0 fun _ => rfl)
theorem ev_lt (ha : EvD ta σ H (.int i)) (hb : EvD tb σ H (.int j)) : EvD (tOp (rI0 fun i j => .bl (decide (i < j))) ta tb) σ H (.bool (decide (i < j))) := ev_op ha hb (od_I0 fun _ => rfl)
theorem ev_gt (ha : EvD ta σ H (.int i)) (hb : EvD tb σ H (.int j)) : EvD (tOp (rI0 fun i j => .bl (decide (j < i))) ta tb) σ H (.bool (decide (j < i))) := ev_op ha hb (od_I0 fun _ => rfl)
theorem ev_le (ha : EvD ta σ H (.int i)) (hb : EvD tb σ H (.int j)) : EvD (tOp (rI0 fun i j => .bl (decide (i ≤ j))) ta tb) σ H (.bool (decide (i ≤ j))) := ev_op ha hb (od_I0 fun _ => rfl)
theorem ev_ge (ha : EvD ta σ H (.int i)) (hb : EvD tb σ H (.int j)) : EvD (tOp (rI0 fun i j => .bl (decide (j ≤ i))) ta tb) σ H (.bool (decide (j ≤ i))) := ev_op ha hb (od_I0 fun _ => rfl)
theorem ev_mul (ha : EvD ta σ H (.int i)) (hb : EvD tb σ H (.int j)) (h : CMul i j) : EvD (tOp (rI CMul fun i j => .int (i * j)) ta tb) σ H (.int (i * j)) := ev_op ha hb (od_I h fun _ => rfl)
theorem ev_div (ha : EvD ta σ H (.int i)) (hb : EvD tb σ H (.int j)) (h : 0 < j ∧ j < 1073741824) : EvD (tOp (rI CDivN fun i j => .int (i.fdiv j)) ta tb) σ H (.int (i / j)) :=
  (ev_op ha hb (od_I (f := .int (i.fdiv j)) (C := CDivN) (g := fun i j => .int (i.fdiv j)) ⟨by omega, by omega⟩ fun _ => rfl)).to (by rw [Int.fdiv_eq_ediv_of_nonneg _ (by omega)])
theorem ev_mod (ha : EvD ta σ H (.int i)) (hb : EvD tb σ H (.int j)) (h : 0 < j) : EvD (tOp (rI (fun _ j => j ≠ 0) fun i j => .int (i.fmod j)) ta tb) σ H (.int (i % j)) :=
  (ev_op ha hb (od_I (f := .int (i.fmod j)) (C := fun _ j => j ≠ 0) (g := fun i j => .int (i.fmod j)) (by omega) fun _ => rfl)).to (by rw [Int.fmod_eq_emod_of_nonneg _ (by omega)])
theorem ev_eq {d e : PyData} (ha : EvD ta σ H d) (hb : EvD tb σ H e) (h1 : okD d = true) (h2 : okD e = true) : EvD (tOp rEqP ta tb) σ H (.bool (d.eqv e)) := ev_op ha hb (od_eqP h1 h2)
theorem ev_ne {d e : PyData} (ha : EvD ta σ H d) (hb : EvD tb σ H e) (h1 : okD d = true) (h2 : okD e = true) : EvD (tOp rNeP ta tb) σ H (.bool (!d.eqv e)) := ev_op ha hb (od_neP h1 h2)
theorem ev_ixT {ds : List PyData} {d : PyData} (ha : EvD ta σ H (.tuple ds)) (hb : EvD tb σ H (.int i)) (e : atI ds i = some d) : EvD (tOp (rIxT K) ta tb) σ H d := ev_op ha hb (od_ixT e)
theorem ev_ixL {ds : List PyData} {d : PyData} (ha : EvD ta σ H (.list ds)) (hb : EvD tb σ H (.int i)) (e : atI ds i = some d) : EvD (tOp (rIxL K) ta tb) σ H d := ev_op ha hb (od_ixL e)
end
theorem okD_int (i : Int) : okD (.int i) = true := rfl
theorem okD_bool (b : Bool) : okD (.bool b) = true := rfl
theorem okD_none : okD .none = true := rfl
theorem okD_str {s : Str} (h : strOk s = true) : okD (.str s) = true := by
  unfold okD; rw [Bool.and_eq_true]; exact ⟨h, decide_eq_true (Nat.zero_le _)⟩
theorem okD_gap : okD (.str "gap") = true := okD_str strOk_gap
theorem okD_tie : okD (.str "tie") = true := okD_str strOk_tie

/-! ### parts of a form -/
def Fm.tag : Fm → Str
  | .gap _ => "gap"
  | .tie _ _ => "tie"
def Fm.isGap : Fm → Bool
  | .gap _ => true
  | .tie _ _ => false
theorem k_gg : PyData.eqv (.str "gap") (.str "gap") = true := by decide +kernel
theorem k_tg : PyData.eqv (.str "tie") (.str "gap") = false := by decide +kernel
theorem k_gt : PyData.eqv (.str "gap") (.str "tie") = false := by decide +kernel
theorem k_tt : PyData.eqv (.str "tie") (.str "tie") = true := by decide +kernel
def Fm.snd : Fm → PyData
  | .gap n => .int n
  | .tie w _ => .str w
theorem okD_tag (f : Fm) : okD (.str f.tag) = true := by cases f; exact okD_gap; exact okD_tie
section
variable {K : PySem.W.Frag} {σ : L2.St} {H : Hp} {ta tb : TE} {w : Str} {ps : List Fm} {n : Int} {f : Fm}
theorem ev_f0 (h : EvD ta σ H f.d) : EvD (tOp (rIxT K) ta (tC (.int 0))) σ H (.str f.tag) := by
  cases f <;> exact ev_ixT h ev_int rfl
theorem ev_f1 (h : EvD ta σ H f.d) : EvD (tOp (rIxT K) ta (tC (.int 1))) σ H f.snd := by
  cases f <;> exact ev_ixT h ev_int rfl
theorem ev_f2 (h : EvD ta σ H (Fm.tie w ps).d) : EvD (tOp (rIxT K) ta (tC (.int 2))) σ H (.tuple (ps.map Fm.d)) := by
  rw [← Fm.dL_map]; exact ev_ixT h ev_int rfl
/-- form[0] == "gap" -/
theorem ev_isgap (h : EvD ta σ H (.str f.tag)) : EvD (tOp rEqP ta (tC (.str "gap"))) σ H (.bool f.isGap) := by
  refine (ev_eq h ev_str (okD_tag f) okD_gap).to ?_
  cases f
  · exact congrArg PyData.bool k_gg
  · exact congrArg PyData.bool k_tg
theorem ev_nottie (h : EvD ta σ H (.str f.tag)) : EvD (tOp rNeP ta (tC (.str "tie"))) σ H (.bool f.isGap) := by
  refine (ev_ne h ev_str (okD_tag f) okD_tie).to ?_
  cases f
  · exact congrArg (fun b => PyData.bool !b) k_gt
  · exact congrArg (fun b => PyData.bool !b) k_tt
theorem ev_istie (h : EvD ta σ H (.str f.tag)) : EvD (tOp rEqP ta (tC (.str "tie"))) σ H (.bool (!f.isGap)) := by
  refine (ev_eq h ev_str (okD_tag f) okD_tie).to ?_
  cases f
  · exact congrArg PyData.bool k_gt
  · exact congrArg PyData.bool k_tt
end

/-! ### the script -/
/-- len(script), script[k] -/
theorem ev_lenScript {K : PySem.W.Frag} {σ : L2.St} {H : Hp} {i : Nat} {a : Addr} {ns : List Int} (h : σ[i]? = some (some (.ref a))) (hS : SqL K H a (ns.map V.int)) : EvD (tCB (rLen K) (tCons (tVar i) tNil)) σ H (.int ns.length) := fun H1 s Q q =>
  ⟨.ref a, h, .ref a, ns.length, rfl, .inl ⟨_, s.seq hS, by simp⟩, q _ H1 (Same.refl _) rfl⟩
theorem ev_ixScript {K : PySem.W.Frag} {σ : L2.St} {H : Hp} {i : Nat} {a : Addr} {ns : List Int} {tb : TE} {k n : Int} (h : σ[i]? = some (some (.ref a))) (hS : SqL K H a (ns.map V.int)) (hb : EvD tb σ H (.int k)) (e : atI ns k = some n) :
    EvD (tOp (rIxL K) (tVar i) tb) σ H (.int n) := fun H1 s Q q =>
  ⟨.ref a, h, hb H1 s _ fun y H2 s2 r2 => by
    cases (show y = V.int k from r2)
    refine ⟨a, _, k, .int n, rfl, rfl, (s.trans s2).seq hS, ?_, q _ H2 s2 rfl⟩
    unfold atI at e ⊢
    rw [List.length_map]
    cases z : ixN ns.length k with
    | none => rw [z] at e; cases e
    | some j =>
      rw [z] at e
      show (ns.map V.int)[j]? = _
      rw [List.getElem?_map, show ns[j]? = some n from e]; rfl⟩
def cellAt (ns : List Int) (k : Nat) : Int := ns.getD k 0
/-- _law_cell_at(script, k) -/
def spCell (K : PySem.W.Frag) : Sp := fun vs H Q _ => ∃ (a : Addr) (ns : List Int) (k : Nat), vs = [.ref a, .int k] ∧ SqL K H a (ns.map V.int) ∧ ∀ H', Same H H' → Q (.int (cellAt ns k)) H'
end Fx
/-! FxF: fillings, their mathematics. -/
namespace Fx
open PySem L2 PySem.Spec PyProof.Rows PySem.PyData
abbrev FI := List (Int × Fm)
def imF (m : FI) : IM := m.map fun p => (p.1, p.2.d)
def lk (m : FI) (k : Int) : Option Fm := (m.find? fun p => decide (p.1 = k)).map (·.2)
def pt (m : FI) (k : Int) (f : Fm) : FI := if (m.any fun p => decide (p.1 = k)) then m.map (fun p => if p.1 = k then (p.1, f) else p) else m ++ [(k, f)]
/-- a filling as data -/
def dF (m : FI) : PyData := dI (imF m)
theorem look_imF (m : FI) (k : Int) : look (imF m) k = (lk m k).map Fm.d := by
  induction m with
  | nil => rfl
  | cons p m ih =>
    by_cases e : p.1 = k
    · simp [imF, look, lk, e]
    · have := ih
      simp only [imF, look, lk] at this
      simpa [imF, look, lk, e] using this
theorem putI_imF (m : FI) (k : Int) (f : Fm) : putI (imF m) k f.d = imF (pt m k f) := by
  have ha : ((imF m).any fun p => decide (p.1 = k)) = m.any fun p => decide (p.1 = k) := by
    unfold imF; rw [List.any_map]; rfl
  unfold putI pt
  rw [ha]
  split
  · unfold imF; rw [List.map_map, List.map_map]
    apply List.map_congr_left
    intro p _
    by_cases e : p.1 = k <;> simp [e]
  · unfold imF; simp
mutual

def fill (m : FI) : Fm → Fm
  | .gap k => (lk m k).getD (.gap k)
  | .tie w ps => .tie w (fillL m ps)
def fillL (m : FI) : List Fm → List Fm
  | [] => []
  | f :: fs => fill m f :: fillL m fs
end
theorem fillL_map (m : FI) : ∀ fs : List Fm, fillL m fs = fs.map (fill m)
  | [] => rfl
  | f :: fs => by rw [fillL, fillL_map m fs]; rfl
/-- filled(form, filling) -/
def spFill (n : Nat) : Sp := spP fun ds r => ∃ (f : Fm) (m : FI), ds = [f.d, dF m] ∧ r = (fill m f).d ∧ f.dep ≤ n ∧ f.ok = true
theorem spFill.no : ∀ vs H Q E, ¬ spFill 0 vs H Q E := fun vs H Q E ⟨ds, r, _, ⟨f, m, _, _, hd, _⟩, _⟩ => by have := f.dep_pos; omega
theorem spFill.len {n : Nat} : ∀ vs H Q E, spFill n vs H Q E → vs.length = 2 := spP.len fun ds d ⟨f, m, e, _⟩ => by rw [e]; rfl
end Fx
/-! FxG: drawn forms: what is known of them. -/
namespace Fx
open PySem L2 PySem.Spec PyProof.Rows
/-- all but what stands at p is kept -/
def KB (p : Addr) (H H' : Hp) : Prop := ∀ b o, b ≠ p → H b = some o → H' b = some o
theorem KB.refl {p : Addr} {H : Hp} : KB p H H := fun _ _ _ h => h
theorem KB.trans {p : Addr} {H H1 H2 : Hp} (a : KB p H H1) (b : KB p H1 H2) : KB p H H2 := fun c o n h => b c o n (a c o n h)
theorem KB.of {p : Addr} {H H' : Hp} (s : Same H H') : KB p H H' := fun b o _ h => s b o h
theorem KB.upd {p : Addr} {H : Hp} {o : HO} : KB p H (upd H p o) := fun b u n h => by rw [upd_ne n]; exact h
theorem KB.same {p : Addr} {H H' : Hp} (k : KB p H H') (h : H p = none) : Same H H' := fun b o q => k b o (ne_of_none q h) q
theorem KB.kt {p : Addr} {H H' : Hp} (k : KB p H H') (h : ∀ xs, H p ≠ some (.tup xs)) : KT H H' := fun b xs q => k b _ (fun e => h xs (by rw [← e]; exact q)) q
theorem KB.put {p q : Addr} {H H' : Hp} {o : HO} (k : KB p H H') (h : H q = none) : KB p H (L2.upd H' q o) := fun b u n e => by rw [upd_ne (ne_of_none e h)]; exact k b u n e

def wordsL : List Str := ["a", "ab", "f", "fg"]
mutual

def Fm.gd (many : Int) : Fm → Bool
  | .gap n => decide (0 ≤ n) && decide (n < many)
  | .tie w ps => decide (w ∈ wordsL) && decide (ps.length ≤ 4) && Fm.gdL many ps
def Fm.gdL (many : Int) : List Fm → Bool
  | [] => true
  | f :: fs => f.gd many && Fm.gdL many fs
end
theorem Fm.gd_part {many : Int} : ∀ {fs : List Fm} {f : Fm}, Fm.gdL many fs = true → f ∈ fs → f.gd many = true
  | g :: fs, f, h, m => by
    simp only [Fm.gdL, Bool.and_eq_true] at h
    rcases List.mem_cons.mp m with rfl | m
    · exact h.1
    · exact Fm.gd_part h.2 m
theorem Fm.gdL_of {many : Int} : ∀ {fs : List Fm}, (∀ f, f ∈ fs → f.gd many = true) → Fm.gdL many fs = true
  | [], _ => rfl
  | f :: fs, h => by simp only [Fm.gdL, Bool.and_eq_true]; exact ⟨h f (by simp), Fm.gdL_of fun g hg => h g (by simp [hg])⟩
theorem wordsL_ok : ∀ w, w ∈ wordsL → PyData.strOk w = true := by decide +kernel
mutual
theorem Fm.gd_ok {many : Int} : ∀ {f : Fm}, f.gd many = true → f.ok = true
  | .gap _, _ => rfl
  | .tie w ps, h => by
    simp only [Fm.gd, Bool.and_eq_true, decide_eq_true_eq] at h
    simp only [Fm.ok, Bool.and_eq_true, decide_eq_true_eq]
    exact ⟨⟨wordsL_ok w h.1.1, by omega⟩, Fm.gd_okL h.2⟩
theorem Fm.gd_okL {many : Int} : ∀ {fs : List Fm}, Fm.gdL many fs = true → Fm.okL fs = true
  | [], _ => rfl
  | f :: fs, h => by
    simp only [Fm.gdL, Bool.and_eq_true] at h
    simp only [Fm.okL, Bool.and_eq_true]
    exact ⟨Fm.gd_ok h.1, Fm.gd_okL h.2⟩
end
mutual
theorem Fm.gd_mono {m n : Int} (hmn : m ≤ n) : ∀ {f : Fm}, f.gd m = true → f.gd n = true
  | .gap _, h => by
    simp only [Fm.gd, Bool.and_eq_true, decide_eq_true_eq] at h ⊢
    omega
  | .tie w ps, h => by
    simp only [Fm.gd, Bool.and_eq_true] at h ⊢
    exact ⟨h.1, Fm.gdL_mono hmn h.2⟩
theorem Fm.gdL_mono {m n : Int} (hmn : m ≤ n) : ∀ {fs : List Fm}, Fm.gdL m fs = true → Fm.gdL n fs = true
  | [], _ => rfl
  | f :: fs, h => by
    simp only [Fm.gdL, Bool.and_eq_true] at h ⊢
    exact ⟨Fm.gd_mono hmn h.1, Fm.gdL_mono hmn h.2⟩
end
theorem Fm.sgL_append : ∀ fs gs : List Fm, Fm.sgL (fs ++ gs) = Fm.sgL fs + Fm.sgL gs
  | [], gs => by simp [Fm.sgL]
  | f :: fs, gs => by simp only [List.cons_append, Fm.sgL, Fm.sgL_append fs gs]; omega
/-- _law_form(spot, many, deep): some drawn form; spot[1] counts its signs down -/
def spForm (n : Nat) : Sp := fun vs H Q _ => ∃ (p : Addr) (a b many : Int) (deep : Nat), vs = [.ref p, .int many, .int deep] ∧ H p = some (.lst [.int a, .int b]) ∧ 0 ≤ a ∧ a < 2147483647 ∧ 0 ≤ many ∧ 1 ≤ deep ∧ deep ≤ n ∧
  ∀ (f : Fm) (v : V) (H' : Hp) (a' : Int), KB p H H' → H' p = some (.lst [.int a', .int (b - f.sg)]) → 0 ≤ a' → a' < 2147483647 → Rp H' f.d v → f.gd many = true → f.dep ≤ deep → (b < 5 → f.sg = 1) → (f.sg : Int) ≤ max 1 (b - 4) + 4 * (deep - 1) → Q v H'
theorem spForm.no : ∀ vs H Q E, ¬ spForm 0 vs H Q E := fun vs H Q E ⟨p, a, b, many, deep, _, _, _, _, _, h1, h2, _⟩ => by omega
theorem spForm.len {n : Nat} : ∀ vs H Q E, spForm n vs H Q E → vs.length = 3 := fun vs H Q E ⟨p, a, b, many, deep, e, _⟩ => by rw [e]; rfl
/-- _law_drawn(cell, many, deep) -/
def spDrawn (n : Nat) : Sp := fun vs H Q _ => ∃ (c many : Int) (deep : Nat), vs = [.int c, .int many, .int deep] ∧ 0 ≤ many ∧ 1 ≤ deep ∧ deep ≤ n ∧
  ∀ (f : Fm) (v : V) (H' : Hp), Same H H' → Rp H' f.d v → f.gd many = true → f.dep ≤ deep → (f.sg : Int) ≤ 20 + 4 * (deep - 1) → Q v H'
/-- a drawn filling: its numbers among those, its forms drawn -/
def Drawn (m : FI) (ns : List Int) (many : Int) (deep : Nat) : Prop := (m.map (·.1)).Sublist ns ∧ ∀ p, p ∈ m → p.2.gd many = true ∧ p.2.dep ≤ deep ∧ (p.2.sg : Int) ≤ 20 + 4 * (deep - 1)
def spFilling (n : Nat) : Sp := fun vs H Q _ => ∃ (c many : Int) (ns : List Int) (q : Addr) (deep : Nat), vs = [.int c, .ref q, .int many, .int deep] ∧ H q = some (.lst (ns.map V.int)) ∧ ns.Nodup ∧ ns.length ≤ 100 ∧ 0 ≤ many ∧ 1 ≤ deep ∧ deep ≤ n ∧
  ∀ (m : FI) (p : Addr) (xs : List (Key × V)) (H' : Hp), Same H H' → H p = none → H' p = some (.dK xs) → RpI H' (imF m) xs → Drawn m ns many deep → Q (.ref p) H'
theorem pt_new {m : FI} {k : Int} {f : Fm} (h : ¬ k ∈ m.map (·.1)) : pt m k f = m ++ [(k, f)] := by
  unfold pt
  rw [if_neg]
  intro e
  obtain ⟨p, hp, e⟩ := List.any_eq_true.mp e
  exact h (List.mem_map.mpr ⟨p, hp, of_decide_eq_true e⟩)
theorem imF_app (m n : FI) : imF (m ++ n) = imF m ++ imF n := by simp [imF]

def isWhole : PyData → Bool
  | .int _ => true
  | _ => false
def spWhole : Sp := spP fun ds r => ∃ d, ds = [d] ∧ r = .bool (isWhole d)
theorem spWhole.len : ∀ vs H Q E, spWhole vs H Q E → vs.length = 1 := spP.len fun ds d ⟨f, e, _⟩ => by rw [e]; rfl
/-- _law_is_form(form), asked of a form -/
def spIsForm (n : Nat) : Sp := spP fun ds r => ∃ f : Fm, ds = [f.d] ∧ r = .bool true ∧ f.dep ≤ n ∧ f.ok = true
theorem spIsForm.no : ∀ vs H Q E, ¬ spIsForm 0 vs H Q E := fun vs H Q E ⟨ds, r, _, ⟨f, _, _, hd, _⟩, _⟩ => by have := f.dep_pos; omega
theorem spIsForm.len {n : Nat} : ∀ vs H Q E, spIsForm n vs H Q E → vs.length = 1 := spP.len fun ds d ⟨f, e, _⟩ => by rw [e]; rfl
def Fm.arity : Fm → Nat
  | .gap _ => 2
  | .tie _ _ => 3
theorem Fm.tyN (f : Fm) : Fx.tyN f.d = "tuple" := by cases f <;> rfl
theorem cd_lenF {K : PySem.W.Frag} {f : Fm} : CallD (rLen K) [f.d] (.int f.arity) := by cases f <;> exact cd_lenT
theorem imF_imm (m : FI) : ((imF m).all fun p => imm p.2) = true := by
  rw [List.all_eq_true]
  intro p hp
  obtain ⟨q, _, rfl⟩ := List.mem_map.mp hp
  exact Fm.imm_d _
end Fx
/-! FxH: dicts compared. -/
namespace Fx
open PySem L2 PySem.Spec PyProof.Rows
/-- two dicts of whole numbers to data, compared -/
def hitM (m : IM) (p : Int × PyData) : Bool := match look m p.1 with
  | some e => p.2.eqv e
  | none => false
def deq (m m' : IM) : Bool := (m.length == m'.length) && m.all (hitM m')
def okM (m : IM) : Prop := ∀ p, p ∈ m → okD p.2 = true
def rEqX : R2 := fun x y H Q => ∃ m m' : IM, Rp H (dI m) x ∧ Rp H (dI m') y ∧ okM m ∧ okM m' ∧ Q (.bl (deq m m')) H
def rNeX : R2 := fun x y H Q => ∃ m m' : IM, Rp H (dI m) x ∧ Rp H (dI m') y ∧ okM m ∧ okM m' ∧ Q (.bl (!deq m m')) H
theorem look_mem {m : IM} {k : Int} {d : PyData} (h : look m k = some d) : (k, d) ∈ m := by
  unfold look at h
  obtain ⟨p, hp, rfl⟩ := Option.map_eq_some_iff.mp h
  have e := List.find?_some hp
  have hm := List.mem_of_find?_eq_some hp
  simp only [decide_eq_true_eq] at e
  subst e
  exact hm
section
variable {X : Cx} {pins : List (Addr × Obj)} {σ : L2.St} {H : Hp} {s : Shared}
theorem eqAt_data (I : L2.Inv X pins σ H s) {A : Around} (hu : A.units + 190 < cLine) {d e : PyData} {x y : V} {u v : Value} (hd : okD d = true) (he : okD e = true) (rd : Rp H d x) (re : Rp H e y) (rx : RelV x u) (ry : RelV y v) : SeqAt.EqAt A s u v (PyData.eqv d e) := by
  obtain ⟨as, r1⟩ := Dp.reads I d x u (Rp.dp d x (okD_lay hd) rd) rx
  obtain ⟨bs, r2⟩ := Dp.reads I e y v (Rp.dp e y (okD_lay he) re) ry
  refine SeqAt.eqAt_reads _ _ _ _ _ _ _ _ r1 r2 (okD_lay hd) (okD_lay he) ?_
  have := okD_dep hd
  have := Nat.min_le_left d.depth e.depth
  omega
theorem hits_data (I : L2.Inv X pins σ H s) {A : Around} (hu : A.units + 190 < cLine) {m' : IM} {ls : List (Key × V)} {vb : List (Key × Value)} (rm' : RpI H m' ls) (rb : KV ls vb) (ok' : okM m') : ∀ {m : IM} {ks : List (Key × V)} {va : List (Key × Value)}, RpI H m ks → KV ks va → okM m →
    PySem.W.KeqHits A s vb va (m.all (hitM m'))
  | [], _, va, hm, ra, ok => by
    rw [show _ = [] from hm] at ra
    cases ra
    exact .nil
  | (k, d) :: m, _, va, hm, ra, ok => by
    obtain ⟨x, r, rfl, rd, rm⟩ := hm.inv
    cases ra with
    | @cons p q ps qs h t =>
      obtain ⟨h1, h2⟩ := h
      obtain ⟨key, u⟩ := q
      have hk : (Sum.inl k : Key) = key := h1
      subst hk
      have hv := rb.val (Sum.inl k : Key)
      have ih := hits_data I hu rm' rb ok' rm t fun p hp => ok p (List.mem_cons_of_mem _ hp)
      simp only [List.all_cons]
      rcases RpI.look k rm' with ⟨e, y, e1, e2, e3⟩ | ⟨e1, e2⟩
      · rw [e2] at hv
        obtain ⟨w', hw, rw'⟩ := hv.some_of
        have q : hitM m' (k, d) = d.eqv e := by simp only [hitM, e1]
        rw [q]
        exact .hit hw (eqAt_data I hu (ok (k, d) (List.mem_cons_self)) (ok' _ (look_mem e1)) rd e3 h2 rw') ih
      · rw [e2] at hv
        have q : hitM m' (k, d) = false := by simp only [hitM, e1]
        rw [q, Bool.false_and]
        exact .miss (RelO.none_of hv)
theorem op_eqX (hu : X.A.units + 199 < cLine) : OpR X (compareOp .Eq) rEqX := by
  intro pins s σ H x y v u Q I rx ry h
  obtain ⟨m, m', ⟨a, ks, rfl, ea, ra'⟩, ⟨b, ls, rfl, eb, rb'⟩, ok, ok', q⟩ := h
  obtain rfl : v = Value.ref a := rx
  obtain rfl : u = Value.ref b := ry
  obtain ⟨_, ya, va, ra, da⟩ := dk_rd I.hok ea
  obtain ⟨_, yb, vb, rb, db⟩ := dk_rd I.hok eb
  refine PySem.W.keq_eq (knd := mixKind X.prog X.w) (r := m.all (hitM m')) ya yb da db (by omega) (fun _ => hits_data I (by show X.A.units + 1 + 190 < cLine; omega) rb' rb ok' ra' ra ok) ⟨.bl _, H, I, rfl, ?_⟩
  rw [← ra.length, ← rb.length, RpI.length ra', RpI.length rb']
  exact q
theorem op_neX (hu : X.A.units + 199 < cLine) : OpR X (compareOp .NotEq) rNeX := by
  intro pins s σ H x y v u Q I rx ry h
  obtain ⟨m, m', ⟨a, ks, rfl, ea, ra'⟩, ⟨b, ls, rfl, eb, rb'⟩, ok, ok', q⟩ := h
  obtain rfl : v = Value.ref a := rx
  obtain rfl : u = Value.ref b := ry
  obtain ⟨_, ya, va, ra, da⟩ := dk_rd I.hok ea
  obtain ⟨_, yb, vb, rb, db⟩ := dk_rd I.hok eb
  refine PySem.W.keq_ne (knd := mixKind X.prog X.w) (r := m.all (hitM m')) ya yb da db (by omega) (fun _ => hits_data I (by show X.A.units + 1 + 190 < cLine; omega) rb' rb ok' ra' ra ok) ⟨.bl _, H, I, rfl, ?_⟩
  rw [← ra.length, ← rb.length, RpI.length ra', RpI.length rb']
  exact q
end
theorem ev_eqX {σ : L2.St} {H : Hp} {ta tb : TE} {m m' : IM} (ha : EvD ta σ H (dI m)) (hb : EvD tb σ H (dI m')) (h1 : okM m) (h2 : okM m') : EvD (tOp rEqX ta tb) σ H (.bool (deq m m')) := ev_op ha hb fun H x y hx hy Q q => ⟨m, m', hx, hy, h1, h2, q _ H (Same.refl _) rfl⟩
theorem ev_neX {σ : L2.St} {H : Hp} {ta tb : TE} {m m' : IM} (ha : EvD ta σ H (dI m)) (hb : EvD tb σ H (dI m')) (h1 : okM m) (h2 : okM m') : EvD (tOp rNeX ta tb) σ H (.bool (!deq m m')) := ev_op ha hb fun H x y hx hy Q q => ⟨m, m', hx, hy, h1, h2, q _ H (Same.refl _) rfl⟩
/-! the same of fillings -/
theorem okM_imF {m : FI} (h : ∀ p, p ∈ m → p.2.ok = true ∧ p.2.dep ≤ 95) : okM (imF m) := by
  intro p hp
  obtain ⟨q, hq, rfl⟩ := List.mem_map.mp hp
  exact Fm.okD (h q hq).1 (h q hq).2
theorem lk_mem {m : FI} {k : Int} {f : Fm} (h : lk m k = some f) : (k, f) ∈ m := by
  unfold lk at h
  obtain ⟨p, hp, rfl⟩ := Option.map_eq_some_iff.mp h
  have e := List.find?_some hp
  have hm := List.mem_of_find?_eq_some hp
  simp only [decide_eq_true_eq] at e
  subst e
  exact hm
/-- fillings with the same numbers and forms are the same as dicts -/
theorem deq_imF {m m' : FI} (hl : m.length = m'.length) (h : ∀ p, p ∈ m → lk m' p.1 = some p.2) : deq (imF m) (imF m') = true := by
  unfold deq
  rw [Bool.and_eq_true, beq_iff_eq, List.all_eq_true]
  refine ⟨by simp [imF, hl], fun p hp => ?_⟩
  obtain ⟨q, hq, rfl⟩ := List.mem_map.mp hp
  unfold hitM
  simp only [look_imF, h q hq, Option.map_some]
  exact (Fm.eqv_iff _ _).mpr rfl
theorem lk_self {m : FI} (hn : (m.map (·.1)).Nodup) : ∀ p, p ∈ m → lk m p.1 = some p.2 := by
  induction m with
  | nil => intro p hp; cases hp
  | cons q m ih =>
    intro p hp
    have hn' : (q.1 :: m.map (·.1)).Nodup := hn
    obtain ⟨h1, h2⟩ := List.nodup_cons.mp hn'
    rcases List.mem_cons.mp hp with rfl | hp
    · simp [lk]
    · have ne : ¬ q.1 = p.1 := fun e => h1 (by rw [e]; exact List.mem_map.mpr ⟨p, hp, rfl⟩)
      have := ih h2 p hp
      simpa [lk, ne] using this
/-- what a law's own promise says: True, whatever the script -/
def spLaw (K : PySem.W.Frag) : Sp := fun vs H Q _ => ∃ (a : Addr) (ns : List Int), vs = [.ref a] ∧ SqL K H a (ns.map V.int) ∧ ns.length ≤ 63 ∧ ∀ H', Q (.bl true) H'
theorem spLaw.len {K : PySem.W.Frag} : ∀ vs H Q E, spLaw K vs H Q E → vs.length = 1 := fun vs H Q E ⟨a, ns, e, _⟩ => by rw [e]; rfl
/-- _law_cell_at as data -/
theorem ev_cell {K : PySem.W.Frag} {σ : L2.St} {H : Hp} {i : Nat} {a : Addr} {ns : List Int} {k : Nat} {E : XK} (h : σ[i]? = some (some (.ref a))) (hS : SqL K H a (ns.map V.int)) : EvD (tCall (spCell K) [] E (tCons (tVar i) (tCons (tC (.int k)) tNil))) σ H (.int (cellAt ns k)) := fun H1 s Q q =>
  ⟨.ref a, h, a, ns, k, rfl, s.seq hS, fun H' s' => q _ H' s' rfl⟩
end Fx
/-! FxI: calls of the drawing defs, as statements. -/
namespace Fx
open PySem L2 PySem.Spec PyProof.Rows
section
variable {K : PySem.W.Frag} {σ : L2.St} {H : Hp} {u : TS} {D : Ends} {i n : Nat} {t : TA} {E : XK} {c many : Int} {deep : Nat} {ns : List Int}
theorem w_sdrawn (h : EvA t σ H [.int c, .int many, .int deep]) (hm : 0 ≤ many) (h1 : 1 ≤ deep) (hn : deep ≤ n)
    (q : ∀ (f : Fm) v H1, Same H H1 → Rp H1 f.d v → f.gd many = true → f.dep ≤ deep → (f.sg : Int) ≤ 20 + 4 * (deep - 1) → u D (σ.set i (some v)) H1) : tSeq (tAsg (tCall (spDrawn n) [] E t) (gName i)) u D σ H := by
  refine h H (Same.refl _) _ fun vs H1 s1 rs => ?_
  obtain ⟨v1, _, rfl, r1, v2, _, rfl, r2, v3, _, rfl, r3, rfl⟩ := rs
  cases (show v1 = V.int c from r1)
  cases (show v2 = V.int many from r2)
  cases (show v3 = V.int deep from r3)
  exact ⟨c, many, deep, rfl, hm, h1, hn, fun f v H' s' r gd dp sg => q f v H' (s1.trans s') r gd dp sg⟩
theorem w_sfilling (h : EvA t σ H [.int c, .list (ns.map .int), .int many, .int deep]) (hnd : ns.Nodup) (hl : ns.length ≤ 100) (hm : 0 ≤ many) (h1 : 1 ≤ deep) (hn : deep ≤ n)
    (q : ∀ (m : FI) p xs H1, Same H H1 → H p = none → H1 p = some (.dK xs) → RpI H1 (imF m) xs → Drawn m ns many deep → u D (σ.set i (some (.ref p))) H1) : tSeq (tAsg (tCall (spFilling n) [] E t) (gName i)) u D σ H := by
  refine h H (Same.refl _) _ fun vs H1 s1 rs => ?_
  obtain ⟨v1, _, rfl, r1, v2, _, rfl, r2, v3, _, rfl, r3, v4, _, rfl, r4, rfl⟩ := rs
  cases (show v1 = V.int c from r1)
  cases (show v3 = V.int many from r3)
  cases (show v4 = V.int deep from r4)
  obtain ⟨a, xs, rfl, ha, hx⟩ := r2
  have hx' := RpL.ints_inv hx
  subst hx'
  exact ⟨c, many, ns, a, deep, rfl, ha, hnd, hl, hm, h1, hn, fun m p xs H' s' hp hp' rm dm => q m p xs H' (s1.trans s') (s1.free hp) hp' rm dm⟩
end
/-! small things of drawn fillings -/
theorem Drawn.nodup {m : FI} {ns : List Int} {many : Int} {deep : Nat} (h : Drawn m ns many deep) (hn : ns.Nodup) : (m.map (·.1)).Nodup := hn.sublist h.1
theorem Drawn.okM {m : FI} {ns : List Int} {many : Int} {deep : Nat} (h : Drawn m ns many deep) (hd : deep ≤ 95) : okM (imF m) := okM_imF fun p hp => ⟨Fm.gd_ok (h.2 p hp).1, Nat.le_trans (h.2 p hp).2.1 hd⟩
/-! a form filled is not much deeper -/
mutual
theorem fill_dep {m : FI} {k : Nat} (h : ∀ p, p ∈ m → p.2.dep ≤ k) : ∀ f : Fm, (fill m f).dep ≤ f.dep + k
  | .gap n => by
    rw [fill]
    cases e : lk m n with
    | none => simp only [Option.getD, Fm.dep]; omega
    | some g => simp only [Option.getD, Fm.dep]; have := h _ (lk_mem e); simp only at this; omega
  | .tie w ps => by
    have := fillL_dep h ps
    simp only [fill, Fm.dep]; omega
theorem fillL_dep {m : FI} {k : Nat} (h : ∀ p, p ∈ m → p.2.dep ≤ k) : ∀ fs : List Fm, Fm.depL (fillL m fs) ≤ Fm.depL fs + k
  | [] => by simp [fillL, Fm.depL]
  | f :: fs => by
    have := fill_dep h f
    have := fillL_dep h fs
    simp only [fillL, Fm.depL]; omega
end
theorem fillL_length (m : FI) (fs : List Fm) : (fillL m fs).length = fs.length := by rw [fillL_map, List.length_map]
mutual
theorem fill_ok {m : FI} (h : ∀ p, p ∈ m → p.2.ok = true) : ∀ f : Fm, f.ok = true → (fill m f).ok = true
  | .gap n, _ => by
    rw [fill]
    cases e : lk m n with
    | none => rfl
    | some g => exact h _ (lk_mem e)
  | .tie w ps, hf => by
    simp only [Fm.ok, Bool.and_eq_true, decide_eq_true_eq] at hf
    simp only [fill, Fm.ok, Bool.and_eq_true, decide_eq_true_eq, fillL_length]
    exact ⟨hf.1, fillL_ok h ps hf.2⟩
theorem fillL_ok {m : FI} (h : ∀ p, p ∈ m → p.2.ok = true) : ∀ fs : List Fm, Fm.okL fs = true → Fm.okL (fillL m fs) = true
  | [], _ => rfl
  | f :: fs, hf => by
    simp only [Fm.okL, Bool.and_eq_true] at hf
    simp only [fillL, Fm.okL, Bool.and_eq_true]
    exact ⟨fill_ok h f hf.1, fillL_ok h fs hf.2⟩
end
mutual
theorem fill_nil : ∀ f : Fm, fill [] f = f
  | .gap n => rfl
  | .tie w ps => by rw [fill, fillL_nil ps]
theorem fillL_nil : ∀ fs : List Fm, fillL [] fs = fs
  | [] => rfl
  | f :: fs => by rw [fillL, fill_nil f, fillL_nil fs]
end
theorem Drawn.mem_ok {m : FI} {ns : List Int} {many : Int} {deep : Nat} (h : Drawn m ns many deep) : ∀ p, p ∈ m → p.2.ok = true := fun p hp => Fm.gd_ok (h.2 p hp).1
end Fx
/-! FxJ: gaps, ranks, plain forms: their mathematics, the promises. -/
namespace Fx
open PySem L2 PySem.Spec PyProof.Rows
mutual
def ag : Fm → List Int
  | .gap n => [n]
  | .tie _ ps => agL ps
def agL : List Fm → List Int
  | [] => []
  | f :: fs => ag f ++ agL fs
end
theorem agL_append : ∀ fs gs : List Fm, agL (fs ++ gs) = agL fs ++ agL gs
  | [], gs => rfl
  | f :: fs, gs => by simp [agL, agL_append fs gs]
mutual
theorem ag_len : ∀ f : Fm, (ag f).length ≤ f.sg
  | .gap _ => by simp [ag, Fm.sg]
  | .tie _ ps => by have := agL_len ps; simp only [ag, Fm.sg]; omega
theorem agL_len : ∀ fs : List Fm, (agL fs).length ≤ Fm.sgL fs
  | [] => by simp [agL, Fm.sgL]
  | f :: fs => by have := ag_len f; have := agL_len fs; simp only [agL, Fm.sgL, List.length_append]; omega
end
/-- a number put at the end of a list where it isn't there -/
def ins (l : List Int) (n : Int) : List Int := if n ∈ l then l else l ++ [n]
def insL (l : List Int) (ns : List Int) : List Int := ns.foldl ins l
theorem insL_nil (l : List Int) : insL l [] = l := rfl
theorem insL_cons (l : List Int) (n : Int) (ns : List Int) : insL l (n :: ns) = insL (ins l n) ns := rfl
theorem insL_append (l ns ms : List Int) : insL l (ns ++ ms) = insL (insL l ns) ms := by unfold insL; rw [List.foldl_append]
theorem ins_in {l : List Int} {n : Int} (h : n ∈ l) : ins l n = l := if_pos h
theorem ins_out {l : List Int} {n : Int} (h : ¬ n ∈ l) : ins l n = l ++ [n] := if_neg h
theorem mem_ins {l : List Int} {n m : Int} : m ∈ ins l n ↔ m ∈ l ∨ m = n := by
  unfold ins; split
  · constructor
    · intro h; exact .inl h
    · rintro (h | rfl)
      · exact h
      · assumption
  · simp
theorem mem_insL {ns : List Int} : ∀ {l : List Int} {m : Int}, m ∈ insL l ns ↔ m ∈ l ∨ m ∈ ns := by
  induction ns with
  | nil => intro l m; simp [insL_nil]
  | cons n ns ih => intro l m; rw [insL_cons, ih, mem_ins]; simp [or_assoc]
theorem nodup_ins {l : List Int} {n : Int} (h : l.Nodup) : (ins l n).Nodup := by
  unfold ins; split
  · exact h
  · rename_i hn
    exact nd_snoc h hn
theorem nodup_insL {ns : List Int} : ∀ {l : List Int}, l.Nodup → (insL l ns).Nodup := by
  induction ns with
  | nil => intro l h; exact h
  | cons n ns ih => intro l h; exact ih (nodup_ins h)
theorem insL_all {ns : List Int} : ∀ {l : List Int}, (∀ n, n ∈ ns → n ∈ l) → insL l ns = l := by
  induction ns with
  | nil => intro l _; rfl
  | cons n ns ih => intro l h; rw [insL_cons, ins_in (h n (by simp))]; exact ih fun m hm => h m (by simp [hm])
/-- a list put in with its repeats or without them -/
theorem insL_insL {ns : List Int} : ∀ {k l : List Int}, insL k (insL l ns) = insL (insL k l) ns := by
  induction ns with
  | nil => intro k l; rfl
  | cons n ns ih =>
    intro k l
    rw [insL_cons, insL_cons, ih]
    congr 1
    by_cases h : n ∈ l
    · rw [ins_in h, ins_in (mem_insL.mpr (.inr h))]
    · rw [ins_out h, insL_append]; rfl
theorem insL_len {ns : List Int} : ∀ {l : List Int}, (insL l ns).length ≤ l.length + ns.length := by
  induction ns with
  | nil => intro l; simp [insL_nil]
  | cons n ns ih =>
    intro l
    rw [insL_cons]
    have h : (ins l n).length ≤ l.length + 1 := by unfold ins; split <;> simp
    have := ih (l := ins l n)
    simp only [List.length_cons]; omega
theorem insL_take {ns : List Int} {i : Nat} {n : Int} (h : ns[i]? = some n) : insL [] (ns.take (i + 1)) = ins (insL [] (ns.take i)) n := by
  rw [List.take_add_one, h, insL_append]; rfl
/-- the gaps, each once, in the order in which they first stand -/
def gp (f : Fm) : List Int := insL [] (ag f)
def gpL (fs : List Fm) : List Int := insL [] (agL fs)
theorem gp_nodup (f : Fm) : (gp f).Nodup := nodup_insL List.nodup_nil
theorem mem_gp {f : Fm} {n : Int} : n ∈ gp f ↔ n ∈ ag f := by unfold gp; rw [mem_insL]; simp
theorem gp_len (f : Fm) : (gp f).length ≤ f.sg := by
  have h := insL_len (ns := ag f) (l := [])
  have := ag_len f
  unfold gp; simp at h; omega
theorem gpL_snoc (fs : List Fm) (f : Fm) : gpL (fs ++ [f]) = insL (gpL fs) (gp f) := by
  unfold gpL gp
  rw [agL_append, insL_append, insL_insL, insL_nil]
  simp [agL]
mutual
def rn (r : Int → Int) : Fm → Fm
  | .gap n => .gap (r n)
  | .tie w ps => .tie w (rnL r ps)
def rnL (r : Int → Int) : List Fm → List Fm
  | [] => []
  | f :: fs => rn r f :: rnL r fs
end
theorem rnL_map (r : Int → Int) : ∀ fs : List Fm, rnL r fs = fs.map (rn r)
  | [] => rfl
  | f :: fs => by rw [rnL, rnL_map r fs]; rfl
/-- a gap's place among the gaps -/
def ix (l : List Int) (n : Int) : Int := (l.idxOf n : Int)
/-- the plain form -/
def pl (f : Fm) : Fm := rn (ix (gp f)) f
/-- a list with its places, counted from i -/
def enumF (i : Nat) : List Int → List (Int × Int)
  | [] => []
  | g :: r => (g, (i : Int)) :: enumF (i + 1) r
theorem enumF_snoc : ∀ (l : List Int) (i : Nat) (g : Int), enumF i (l ++ [g]) = enumF i l ++ [(g, ((i + l.length : Nat) : Int))]
  | [], i, g => rfl
  | a :: l, i, g => by
    have := enumF_snoc l (i + 1) g
    simp only [List.cons_append, enumF, this, List.length_cons]
    rw [show i + 1 + l.length = i + (l.length + 1) by omega]
theorem enumF_len : ∀ (l : List Int) (i : Nat), (enumF i l).length = l.length
  | [], _ => rfl
  | a :: l, i => by simp [enumF, enumF_len l]
theorem enumF_keys : ∀ (l : List Int) (i : Nat), (enumF i l).map (·.1) = l
  | [], _ => rfl
  | a :: l, i => by simp [enumF, enumF_keys l]
/-- .. as a dict of whole numbers, as a filling by gaps -/
def numI (m : List (Int × Int)) : IM := m.map fun p => (p.1, .int p.2)
def numG (m : List (Int × Int)) : FI := m.map fun p => (p.1, .gap p.2)
theorem look_numI : ∀ (l : List Int) (i : Nat) (g : Int), g ∈ l → look (numI (enumF i l)) g = some (.int (i + ix l g))
  | a :: l, i, g, h => by
    by_cases e : a = g
    · subst e
      simp [enumF, numI, look, ix]
    · have hg : g ∈ l := by rcases List.mem_cons.mp h with rfl | h; exact absurd rfl e; exact h
      have := look_numI l (i + 1) g hg
      simp only [enumF, numI, look, ix] at this ⊢
      simp only [List.map_cons, List.find?_cons, decide_eq_false e]
      rw [this]
      rw [List.idxOf_cons]
      have : (a == g) = false := by simpa using e
      simp only [this, cond_false]
      congr 2
      omega
theorem lk_numG : ∀ (l : List Int) (i : Nat) (g : Int), g ∈ l → lk (numG (enumF i l)) g = some (.gap (i + ix l g))
  | a :: l, i, g, h => by
    by_cases e : a = g
    · subst e
      simp [enumF, numG, lk, ix]
    · have hg : g ∈ l := by rcases List.mem_cons.mp h with rfl | h; exact absurd rfl e; exact h
      have := lk_numG l (i + 1) g hg
      simp only [enumF, numG, lk, ix] at this ⊢
      simp only [List.map_cons, List.find?_cons, decide_eq_false e]
      rw [this]
      rw [List.idxOf_cons]
      have : (a == g) = false := by simpa using e
      simp only [this, cond_false]
      congr 2
      omega
mutual
theorem fill_num {l : List Int} : ∀ f : Fm, (∀ g, g ∈ ag f → g ∈ l) → fill (numG (enumF 0 l)) f = rn (ix l) f
  | .gap n, h => by
    rw [fill, lk_numG l 0 n (h n (by simp [ag]))]
    simp [rn]
  | .tie w ps, h => by rw [fill, rn, fillL_num ps h]
theorem fillL_num {l : List Int} : ∀ fs : List Fm, (∀ g, g ∈ agL fs → g ∈ l) → fillL (numG (enumF 0 l)) fs = rnL (ix l) fs
  | [], _ => rfl
  | f :: fs, h => by
    rw [fillL, rnL, fill_num f fun g hg => h g (by simp [agL, hg]), fillL_num fs fun g hg => h g (by simp [agL, hg])]
end
theorem fill_plain (f : Fm) : fill (numG (enumF 0 (gp f))) f = pl f := fill_num f fun g hg => mem_gp.mpr hg
mutual
theorem rn_dep (r : Int → Int) : ∀ f : Fm, (rn r f).dep = f.dep
  | .gap _ => rfl
  | .tie _ ps => by simp only [rn, Fm.dep, rnL_dep r ps]
theorem rnL_dep (r : Int → Int) : ∀ fs : List Fm, Fm.depL (rnL r fs) = Fm.depL fs
  | [] => rfl
  | f :: fs => by simp only [rnL, Fm.depL, rn_dep r f, rnL_dep r fs]
end
mutual
theorem rn_sg (r : Int → Int) : ∀ f : Fm, (rn r f).sg = f.sg
  | .gap _ => rfl
  | .tie _ ps => by simp only [rn, Fm.sg, rnL_sg r ps]
theorem rnL_sg (r : Int → Int) : ∀ fs : List Fm, Fm.sgL (rnL r fs) = Fm.sgL fs
  | [] => rfl
  | f :: fs => by simp only [rnL, Fm.sgL, rn_sg r f, rnL_sg r fs]
end
mutual
theorem rn_ok (r : Int → Int) : ∀ f : Fm, (rn r f).ok = f.ok
  | .gap _ => rfl
  | .tie _ ps => by simp only [rn, Fm.ok, rnL_map, List.length_map, ← rnL_ok r ps]
theorem rnL_ok (r : Int → Int) : ∀ fs : List Fm, Fm.okL (rnL r fs) = Fm.okL fs
  | [] => rfl
  | f :: fs => by simp only [rnL, Fm.okL, rn_ok r f, rnL_ok r fs]
end
theorem pl_dep (f : Fm) : (pl f).dep = f.dep := rn_dep _ f
theorem pl_ok (f : Fm) : (pl f).ok = f.ok := rn_ok _ f
theorem pl_sg (f : Fm) : (pl f).sg = f.sg := rn_sg _ f

/-! ### promises: a new list, a new dict -/
def spFL (R : List PyData → List PyData → Prop) : Sp := fun vs H Q _ => ∃ ds es, RpL H ds vs ∧ R ds es ∧ ∀ p xs H', Same H H' → H p = none → H' p = some (.lst xs) → RpL H' es xs → Q (.ref p) H'
theorem spFL.d {R : List PyData → List PyData → Prop} {ds es : List PyData} (h : R ds es) : SpD (spFL R) ds (.list es) := fun H xs hx Q E q => ⟨ds, es, hx, h, fun p ys H' s _ hp hr => q _ H' s ⟨p, ys, rfl, hp, hr⟩⟩
theorem spFL.len {R : List PyData → List PyData → Prop} {n : Nat} (h : ∀ ds d, R ds d → ds.length = n) : ∀ vs H Q E, spFL R vs H Q E → vs.length = n := fun vs H Q E ⟨ds, d, hR, hr, _⟩ => by rw [hR.length, h ds d hr]
/-- evaluates to a new list -/
def EvF (te : TE) (σ : L2.St) (H : Hp) (es : List PyData) : Prop := ∀ H1, Same H H1 → ∀ Q : VK, (∀ p xs H2, Same H1 H2 → H1 p = none → H2 p = some (.lst xs) → RpL H2 es xs → Q (.ref p) H2) → te σ H1 Q
theorem EvF.d {te : TE} {σ : L2.St} {H : Hp} {es : List PyData} (h : EvF te σ H es) : EvD te σ H (.list es) := fun H1 s Q q => h H1 s Q fun p xs H2 s2 _ hp hr => q _ H2 s2 ⟨p, xs, rfl, hp, hr⟩
theorem ef_call {σ : L2.St} {H : Hp} {ds es : List PyData} {R : List PyData → List PyData → Prop} {E : XK} {t : TA} (h : EvA t σ H ds) (hc : R ds es) : EvF (tCall (spFL R) [] E t) σ H es := fun H1 s Q q =>
  h H1 s _ fun vs H2 s2 rs => by
    rw [List.append_nil]
    exact ⟨ds, es, rs, hc, fun p xs H3 s3 hp hp' hr => q p xs H3 (s2.trans s3) (s2.free hp) hp' hr⟩
theorem w_sflist {σ : L2.St} {H : Hp} {te : TE} {i : Nat} {u : TS} {D : Ends} {es : List PyData} (h : EvF te σ H es) (q : ∀ p xs H1, Same H H1 → H p = none → H1 p = some (.lst xs) → RpL H1 es xs → u D (σ.set i (some (.ref p))) H1) : tSeq (tAsg te (gName i)) u D σ H := h H (Same.refl _) _ q

def spAllGaps (n : Nat) : Sp := spFL fun ds es => ∃ f : Fm, ds = [f.d] ∧ es = (ag f).map .int ∧ f.dep ≤ n ∧ f.ok = true ∧ f.sg ≤ 5000
def spGaps (n : Nat) : Sp := spFL fun ds es => ∃ f : Fm, ds = [f.d] ∧ es = (gp f).map .int ∧ f.dep ≤ n ∧ f.ok = true ∧ f.sg ≤ 5000
theorem spAllGaps.no : ∀ vs H Q E, ¬ spAllGaps 0 vs H Q E := fun vs H Q E ⟨ds, es, _, ⟨f, _, _, hd, _⟩, _⟩ => by have := f.dep_pos; omega
theorem spGaps.no : ∀ vs H Q E, ¬ spGaps 0 vs H Q E := fun vs H Q E ⟨ds, es, _, ⟨f, _, _, hd, _⟩, _⟩ => by have := f.dep_pos; omega
theorem spAllGaps.len {n : Nat} : ∀ vs H Q E, spAllGaps n vs H Q E → vs.length = 1 := spFL.len fun ds d ⟨f, e, _⟩ => by rw [e]; rfl
theorem spGaps.len {n : Nat} : ∀ vs H Q E, spGaps n vs H Q E → vs.length = 1 := spFL.len fun ds d ⟨f, e, _⟩ => by rw [e]; rfl
def spSigns (n : Nat) : Sp := spP fun ds r => ∃ f : Fm, ds = [f.d] ∧ r = .int f.sg ∧ f.dep ≤ n ∧ f.ok = true
theorem spSigns.no : ∀ vs H Q E, ¬ spSigns 0 vs H Q E := fun vs H Q E ⟨ds, r, _, ⟨f, _, _, hd, _⟩, _⟩ => by have := f.dep_pos; omega
theorem spSigns.len {n : Nat} : ∀ vs H Q E, spSigns n vs H Q E → vs.length = 1 := spP.len fun ds d ⟨f, e, _⟩ => by rw [e]; rfl
def Fm.parts : Fm → List Fm
  | .gap _ => []
  | .tie _ ps => ps
def spParts : Sp := spP fun ds r => ∃ f : Fm, ds = [f.d] ∧ r = .tuple (Fm.dL f.parts)
theorem spParts.len : ∀ vs H Q E, spParts vs H Q E → vs.length = 1 := spP.len fun ds d ⟨f, e, _⟩ => by rw [e]; rfl
/-- rank(form) -/
def rk (f : Fm) : Int := (f.sg : Int) - (gp f).length
def spRank (n : Nat) : Sp := spP fun ds r => ∃ f : Fm, ds = [f.d] ∧ r = .int (rk f) ∧ f.dep ≤ n ∧ f.ok = true ∧ f.sg ≤ 5000
theorem spRank.len {n : Nat} : ∀ vs H Q E, spRank n vs H Q E → vs.length = 1 := spP.len fun ds d ⟨f, e, _⟩ => by rw [e]; rfl
/-- renamed(form, names) -/
def spRen (n : Nat) : Sp := spP fun ds r => ∃ (f : Fm) (m : IM) (ρ : Int → Int), ds = [f.d, dI m] ∧ r = (rn ρ f).d ∧ f.dep ≤ n ∧ f.ok = true ∧ ∀ g, g ∈ ag f → look m g = some (.int (ρ g))
theorem spRen.no : ∀ vs H Q E, ¬ spRen 0 vs H Q E := fun vs H Q E ⟨ds, r, _, ⟨f, m, ρ, _, _, hd, _⟩, _⟩ => by have := f.dep_pos; omega
theorem spRen.len {n : Nat} : ∀ vs H Q E, spRen n vs H Q E → vs.length = 2 := spP.len fun ds d ⟨f, m, ρ, e, _⟩ => by rw [e]; rfl
def spPlain (n : Nat) : Sp := spP fun ds r => ∃ f : Fm, ds = [f.d] ∧ r = (pl f).d ∧ f.dep ≤ n ∧ f.ok = true ∧ f.sg ≤ 5000
theorem spPlain.len {n : Nat} : ∀ vs H Q E, spPlain n vs H Q E → vs.length = 1 := spP.len fun ds d ⟨f, e, _⟩ => by rw [e]; rfl
def spAlike (n : Nat) : Sp := spP fun ds r => ∃ f g : Fm, ds = [f.d, g.d] ∧ r = .bool (decide (pl f = pl g)) ∧ f.dep ≤ n ∧ f.ok = true ∧ f.sg ≤ 5000 ∧ g.dep ≤ n ∧ g.ok = true ∧ g.sg ≤ 5000
theorem spAlike.len {n : Nat} : ∀ vs H Q E, spAlike n vs H Q E → vs.length = 2 := spP.len fun ds d ⟨f, g, e, _⟩ => by rw [e]; rfl
/-! x not in a list of whole numbers -/
theorem any_int (ns : List Int) (n : Int) : ((ns.map PyData.int).any fun z => PyData.eqv z (.int n)) = decide (n ∈ ns) := by
  induction ns with
  | nil => rfl
  | cons a ns ih =>
    simp only [List.map_cons, List.any_cons, ih, PyData.eqv]
    by_cases e : a = n
    · subst e; simp
    · have : ¬ n = a := fun h => e h.symm
      simp [e, this]
theorem lay_ints : ∀ ns : List Int, PyData.canLayAll0 (ns.map PyData.int) = true
  | [] => rfl
  | n :: ns => by simp only [List.map_cons, PyData.canLayAll0, lay_ints ns]; rfl
theorem dep_ints : ∀ ns : List Int, PyData.depthAll (ns.map PyData.int) = 0
  | [] => rfl
  | n :: ns => by simp only [List.map_cons, PyData.depthAll, dep_ints ns]; rfl
theorem shaped_ints (ns : List Int) : SeqAt.shaped (.list (ns.map PyData.int)) = true := by
  unfold SeqAt.shaped
  rw [Bool.and_eq_true]
  refine ⟨lay_ints ns, decide_eq_true ?_⟩
  simp only [PyData.depth, dep_ints]
  omega
theorem okD_ints (ns : List Int) : okD (.list (ns.map PyData.int)) = true := by
  unfold okD
  rw [Bool.and_eq_true]
  refine ⟨lay_ints ns, decide_eq_true ?_⟩
  simp only [PyData.depth, dep_ints]
  omega
theorem ev_inL {K : PySem.W.Frag} {σ : L2.St} {H : Hp} {ta tb : TE} {d : PyData} {ds : List PyData} (ha : EvD ta σ H d) (hb : EvD tb σ H (.list ds)) (h1 : SeqAt.shaped d = true) (h2 : SeqAt.shaped (.list ds) = true) : EvD (tOp (rInD K) ta tb) σ H (.bool (ds.any fun z => PyData.eqv z d)) := ev_op ha hb fun H x y hx hy Q q =>
  ⟨d, ds, Rp.dp d x (Bool.and_eq_true_iff.mp h1).1 hx, Rp.dp _ y (Bool.and_eq_true_iff.mp h2).1 hy, h1, h2, q _ H (Same.refl _) rfl⟩
theorem ev_ninL {K : PySem.W.Frag} {σ : L2.St} {H : Hp} {ta tb : TE} {d : PyData} {ds : List PyData} (ha : EvD ta σ H d) (hb : EvD tb σ H (.list ds)) (h1 : SeqAt.shaped d = true) (h2 : SeqAt.shaped (.list ds) = true) : EvD (tOp (rNotInD K) ta tb) σ H (.bool (!ds.any fun z => PyData.eqv z d)) := ev_op ha hb fun H x y hx hy Q q =>
  ⟨d, ds, Rp.dp d x (Bool.and_eq_true_iff.mp h1).1 hx, Rp.dp _ y (Bool.and_eq_true_iff.mp h2).1 hy, h1, h2, q _ H (Same.refl _) rfl⟩
theorem shaped_int (n : Int) : SeqAt.shaped (.int n) = true := rfl
theorem ev_inI {K : PySem.W.Frag} {σ : L2.St} {H : Hp} {ta tb : TE} {n : Int} {ns : List Int} (ha : EvD ta σ H (.int n)) (hb : EvD tb σ H (.list (ns.map .int))) : EvD (tOp (rInD K) ta tb) σ H (.bool (decide (n ∈ ns))) := (ev_inL ha hb (shaped_int n) (shaped_ints ns)).to (by rw [any_int])
theorem ev_ninI {K : PySem.W.Frag} {σ : L2.St} {H : Hp} {ta tb : TE} {n : Int} {ns : List Int} (ha : EvD ta σ H (.int n)) (hb : EvD tb σ H (.list (ns.map .int))) : EvD (tOp (rNotInD K) ta tb) σ H (.bool (!decide (n ∈ ns))) := (ev_ninL ha hb (shaped_int n) (shaped_ints ns)).to (by rw [any_int])

theorem sgL_sum : ∀ fs : List Fm, ((Fm.sgL fs : Nat) : Int) = (fs.map fun g => (g.sg : Int)).sum
  | [] => rfl
  | f :: fs => by simp only [Fm.sgL, List.map_cons, List.sum_cons, ← sgL_sum fs]; omega
theorem Fm.sg_part : ∀ {fs : List Fm} {f : Fm}, f ∈ fs → f.sg ≤ Fm.sgL fs
  | g :: fs, f, h => by
    simp only [Fm.sgL]
    rcases List.mem_cons.mp h with rfl | h
    · omega
    · have := Fm.sg_part h; omega
theorem ag_part {w : Str} : ∀ {fs : List Fm} {f : Fm} {g : Int}, f ∈ fs → g ∈ ag f → g ∈ ag (.tie w fs)
  | h :: fs, f, g, hf, hg => by
    simp only [ag, agL, List.mem_append]
    rcases List.mem_cons.mp hf with rfl | hf
    · exact .inl hg
    · exact .inr (by have := ag_part (w := w) hf hg; simpa [ag] using this)
theorem putI_true {l : List Int} {k : Int} : putI (l.map fun k => (k, PyData.bool true)) k (.bool true) = (ins l k).map fun k => (k, .bool true) := by
  unfold putI ins
  have ha : ((l.map fun k => (k, PyData.bool true)).any fun p => decide (p.1 = k)) = decide (k ∈ l) := by
    rw [List.any_map]
    by_cases h : k ∈ l
    · rw [decide_eq_true h]
      exact List.any_eq_true.mpr ⟨k, h, by simp⟩
    · rw [decide_eq_false h]
      refine Bool.eq_false_iff.mpr fun z => ?_
      obtain ⟨j, hj, e⟩ := List.any_eq_true.mp z
      simp at e
      subst e
      exact h hj
  rw [ha]
  by_cases h : k ∈ l
  · rw [if_pos (by simpa using h), if_pos h, List.map_map]
    apply List.map_congr_left
    intro j _
    by_cases e : j = k <;> simp [e]
  · rw [if_neg (by simpa using h), if_neg h, List.map_append]; rfl
theorem putI_num {l : List Int} {k : Int} (h : ¬ k ∈ l) : putI (numI (enumF 0 l)) k (.int l.length) = numI (enumF 0 (l ++ [k])) := by
  unfold putI
  have hk : ((numI (enumF 0 l)).any fun p => decide (p.1 = k)) = false := by
    refine Bool.eq_false_iff.mpr fun z => ?_
    obtain ⟨p, hp, e⟩ := List.any_eq_true.mp z
    obtain ⟨q, hq, rfl⟩ := List.mem_map.mp hp
    have : q.1 ∈ l := by rw [← enumF_keys l 0]; exact List.mem_map.mpr ⟨q, hq, rfl⟩
    simp only [decide_eq_true_eq] at e
    rw [← e] at h
    exact h this
  rw [if_neg (by rw [hk]; exact Bool.false_ne_true), enumF_snoc]
  simp [numI]
/-- len of a dict -/
def rLenD : List V → Hp → VK → Prop := fun xs H Q => ∃ a kvs, xs = [V.ref a] ∧ H a = some (.dK kvs) ∧ Q (.int kvs.length) H
theorem cr_lenD {X : Cx} : CallR X (.builtin "len") rLenD := call_lenD
theorem ev_lenD {σ : L2.St} {H : Hp} {i : Nat} {m : IM} {a : Addr} {ys : List (Key × V)} (h : EvD (tVar i) σ H (dI m)) (ha : H a = some (.dK ys)) (hv : σ[i]? = some (some (.ref a)) := by rfl) (hr : RpI H m ys := by assumption) : EvD (tCB rLenD (tCons (tVar i) tNil)) σ H (.int m.length) := fun H1 s Q q =>
  ⟨.ref a, hv, a, ys, rfl, s _ _ ha, q _ H1 (Same.refl _) (by rw [RpI.length hr]; rfl)⟩
end Fx
/-! FxK: more statements; named forms. -/
namespace Fx
open PySem L2 PySem.Spec PyProof.Rows
section
variable {K : PySem.W.Frag} {σ : L2.St} {H : Hp} {te : TE} {ds : List PyData}
/-- over a new list -/
theorem w_for_flist {g : TG} {tb : TS} {D : Ends} (h : EvF te σ H ds) (body : ∀ H1 a xs, Same H H1 → H a = none → H1 a = some (.lst xs) → RpL H1 ds xs → ∃ Pv : Nat → L2.St → Hp → Prop, Pv 0 σ H1 ∧ (∀ i σ' H', Pv i σ' H' → H' a = some (.lst xs)) ∧
      (∀ i d x σ' H', ds[i]? = some d → xs[i]? = some x → Pv i σ' H' → g x σ' H' fun σ2 H3 => tb { D with nx := Pv (i + 1), ct := Pv (i + 1), bk := D.nx } σ2 H3) ∧
      (∀ σ' H', Pv ds.length σ' H' → D.nx σ' H')) : tFor (iList K te) g tb D σ H := by
  refine h H (Same.refl _) _ fun p xs H2 s2 hn ha hr => ?_
  obtain ⟨Pv, p0, pl, ps, pd⟩ := body H2 p xs s2 hn ha hr
  refine ⟨p, rfl, ⟨xs, .of ha⟩, for_list (K := K) (xs := xs) Pv p0 (fun i σ' H' _ p => .of (pl i σ' H' p)) (fun i x σ' H' ex p => ?_) (fun σ' H' p => pd σ' H' (by rw [← hr.length]; exact p))⟩
  obtain ⟨d, ed, _⟩ := hr.get' ex
  exact ps i d x σ' H' ed ex p
theorem w_sfor_flist {g : TG} {tb u : TS} {D : Ends} (h : EvF te σ H ds) (body : ∀ H1 a xs, Same H H1 → H a = none → H1 a = some (.lst xs) → RpL H1 ds xs → ∃ Pv : Nat → L2.St → Hp → Prop, Pv 0 σ H1 ∧ (∀ i σ' H', Pv i σ' H' → H' a = some (.lst xs)) ∧
      (∀ i d x σ' H', ds[i]? = some d → xs[i]? = some x → Pv i σ' H' → g x σ' H' fun σ2 H3 => tb { D with nx := Pv (i + 1), ct := Pv (i + 1), bk := u D } σ2 H3) ∧
      (∀ σ' H', Pv ds.length σ' H' → u D σ' H')) : tSeq (tFor (iList K te) g tb) u D σ H := w_for_flist (D := { D with nx := u D }) h body
theorem w_sasg {i : Nat} {u : TS} {D : Ends} (h : te σ H fun x H1 => u D (σ.set i (some x)) H1) : tSeq (tAsg te (gName i)) u D σ H := h
/-- what follows is shown once -/
theorem w_cut {t u : TS} {D : Ends} (Pj : L2.St → Hp → Prop) (tail : ∀ σ' H', Pj σ' H' → u D σ' H') (ht : (∀ σ' H', Pj σ' H' → u D σ' H') → t { D with nx := u D } σ H) : tSeq t u D σ H := ht tail
/-- while c: tb, over a state that is told -/
theorem w_swhile {c : TT} {tb u : TS} {D : Ends} (W : Nat → L2.St → Hp → Prop) {m : Nat} (w0 : W m σ H) (hs : ∀ m σ' H', W m σ' H' → ∃ b, EvB c σ' H' b ∧ (b = true → ∀ H1, Same H' H1 → tb { D with nx := fun σ2 H2 => ∃ m', m' < m ∧ W m' σ2 H2, ct := fun σ2 H2 => ∃ m', m' < m ∧ W m' σ2 H2, bk := u D } σ' H1) ∧ (b = false → ∀ H1, Same H' H1 → u D σ' H1)) : tSeq (tWhile c tb) u D σ H := by
  refine ⟨W, ⟨m, w0⟩, fun m σ' H' w => ?_⟩
  obtain ⟨b, hb, h1, h2⟩ := hs m σ' H' w
  refine hb H' (Same.refl _) _ fun H1 s => ?_
  cases b with
  | true => exact iteT ⟨_, fun _ _ n => n, h1 rfl H1 s⟩
  | false => exact iteF (h2 rfl H1 s)
end
/-- pigeons -/
theorem nodup_le : ∀ {l k : List Int}, l.Nodup → (∀ x, x ∈ l → x ∈ k) → l.length ≤ k.length
  | [], _, _, _ => Nat.zero_le _
  | a :: l, k, h, hs => by
    obtain ⟨h1, h2⟩ := List.nodup_cons.mp h
    have ha : a ∈ k := hs a (by simp)
    have := nodup_le (l := l) (k := k.erase a) h2 fun x hx => by
      have : x ≠ a := fun e => h1 (e ▸ hx)
      exact (List.mem_erase_of_ne this).mpr (hs x (by simp [hx]))
    rw [List.length_erase_of_mem ha] at this
    have := List.length_pos_of_mem ha
    simp only [List.length_cons]; omega
theorem free_name {used : List Int} {name : Int} (h0 : 0 ≤ name) (h1 : name < 1000) (hu : used.length < 999) : ∃ j, j ≤ used.length ∧ ¬ (name + (j : Int)) % 1000 ∈ used := by
  refine Classical.byContradiction fun no => ?_
  have all : ∀ j, j ≤ used.length → (name + (j : Int)) % 1000 ∈ used := fun j hj => Classical.byContradiction fun h => no ⟨j, hj, h⟩
  have nd : ((List.range (used.length + 1)).map fun j => (name + ((j : Nat) : Int)) % 1000).Nodup := by
    refine List.nodup_iff_pairwise_ne.mpr ?_
    refine List.pairwise_map.mpr ?_
    refine List.Pairwise.imp_of_mem ?_ (List.nodup_iff_pairwise_ne.mp List.nodup_range)
    intro a b ha hb hab e
    have ha' := List.mem_range.mp ha
    have hb' := List.mem_range.mp hb
    omega
  have := nodup_le nd fun x hx => by
    obtain ⟨j, hj, rfl⟩ := List.mem_map.mp hx
    exact all j (by have := List.mem_range.mp hj; omega)
  simp at this
  omega

mutual
theorem fill_gaps {m : List (Int × Int)} : ∀ f : Fm, (fill (numG m) f).dep = f.dep ∧ (fill (numG m) f).sg = f.sg
  | .gap n => by
    rw [fill]
    cases e : lk (numG m) n with
    | none => exact ⟨rfl, rfl⟩
    | some g =>
      obtain ⟨p, hp, h⟩ := List.mem_map.mp (lk_mem e)
      cases h
      exact ⟨rfl, rfl⟩
  | .tie w ps => by
    obtain ⟨h1, h2⟩ := fillL_gaps (m := m) ps
    simp only [fill, Fm.dep, Fm.sg, h1, h2, and_self]
theorem fillL_gaps {m : List (Int × Int)} : ∀ fs : List Fm, Fm.depL (fillL (numG m) fs) = Fm.depL fs ∧ Fm.sgL (fillL (numG m) fs) = Fm.sgL fs
  | [] => ⟨rfl, rfl⟩
  | f :: fs => by
    obtain ⟨h1, h2⟩ := fill_gaps (m := m) f
    obtain ⟨h3, h4⟩ := fillL_gaps (m := m) fs
    simp only [fillL, Fm.depL, Fm.sgL, h1, h2, h3, h4, and_self]
end
mutual
theorem fill_gd {m : FI} {a b : Int} (hab : a ≤ b) (h : ∀ p, p ∈ m → p.2.gd b = true) : ∀ f : Fm, f.gd a = true → (fill m f).gd b = true
  | .gap n, hf => by
    rw [fill]
    cases e : lk m n with
    | none => exact Fm.gd_mono hab hf
    | some g => exact h _ (lk_mem e)
  | .tie w ps, hf => by
    simp only [Fm.gd, Bool.and_eq_true, decide_eq_true_eq] at hf
    simp only [fill, Fm.gd, Bool.and_eq_true, decide_eq_true_eq, fillL_length]
    exact ⟨hf.1, fillL_gd hab h ps hf.2⟩
theorem fillL_gd {m : FI} {a b : Int} (hab : a ≤ b) (h : ∀ p, p ∈ m → p.2.gd b = true) : ∀ fs : List Fm, Fm.gdL a fs = true → Fm.gdL b (fillL m fs) = true
  | [], _ => rfl
  | f :: fs, hf => by
    simp only [Fm.gdL, Bool.and_eq_true] at hf
    simp only [fillL, Fm.gdL, Bool.and_eq_true]
    exact ⟨fill_gd hab h f hf.1, fillL_gd hab h fs hf.2⟩
end
/-- _law_named(form, cell, merge) -/
def spNamed (n : Nat) : Sp := fun vs H Q _ => ∃ (f : Fm) (v : V) (c : Int) (b : Bool), vs = [v, .int c, .bl b] ∧ Rp H f.d v ∧ f.gd 1000 = true ∧ f.dep ≤ n ∧ f.sg ≤ 500 ∧
  ∀ (f' : Fm) v' H', Same H H' → Rp H' f'.d v' → f'.gd 1000 = true → f'.dep = f.dep → f'.sg = f.sg → Q v' H'
theorem spNamed.len {n : Nat} : ∀ vs H Q E, spNamed n vs H Q E → vs.length = 3 := fun vs H Q E ⟨f, v, c, b, e, _⟩ => by rw [e]; rfl
theorem w_snamed {σ : L2.St} {H : Hp} {D : Ends} {i n : Nat} {t : TA} {E : XK} {c : Int} {f : Fm} {b : Bool} (h : EvA t σ H [f.d, .int c, .bool b]) (h1 : f.gd 1000 = true) (h2 : f.dep ≤ n) (h3 : f.sg ≤ 500)
    (q : ∀ (f' : Fm) v H1, Same H H1 → Rp H1 f'.d v → f'.gd 1000 = true → f'.dep = f.dep → f'.sg = f.sg → D.nx (σ.set i (some v)) H1) : tAsg (tCall (spNamed n) [] E t) (gName i) D σ H := by
  refine h H (Same.refl _) _ fun vs H1 s1 rs => ?_
  obtain ⟨v1, _, rfl, r1, v2, _, rfl, r2, v3, _, rfl, r3, rfl⟩ := rs
  cases (show v2 = V.int c from r2)
  cases (show v3 = V.bl b from r3)
  exact ⟨f, v1, c, b, rfl, r1, h1, h2, h3, fun f' v' H' s' r' g d e => q f' v' H' (s1.trans s') r' g d e⟩
theorem numG_pt {l : List (Int × Int)} {k : Int} {x : Int} (h : ¬ k ∈ l.map (·.1)) : pt (numG l) k (.gap x) = numG (l ++ [(k, x)]) := by
  rw [pt_new (by unfold numG; rw [List.map_map]; exact h)]
  simp [numG]
theorem eqvAll_ints : ∀ ns : List Int, PyData.eqvAll (ns.map PyData.int) (ns.map PyData.int) = true
  | [] => rfl
  | n :: ns => by simp [PyData.eqvAll, PyData.eqv, eqvAll_ints ns]
theorem eqv_ints (ns : List Int) : (PyData.list (ns.map PyData.int)).eqv (.list (ns.map PyData.int)) = true := by
  simp only [PyData.eqv]; exact eqvAll_ints ns
end Fx
/-! FxL: lists of dicts compared with != where they are equal; fillings one behind the other. -/
namespace PySem.SeqAt
open AutoSeq1 (wpAny_loadPart')
open MeetsSeq MeetsSeq2 MeetsSeq3 SeqRoads2
section
variable {prog : Program} {w : World}
theorem fx_neSame (p q : Addr) (U W : Array Value) (c c2 : Nat) (g1 g2 : Option Addr) (k1 k2 : Array (Option Value)) (same : U.size = W.size) (r : Nat) :
    ∀ j : Nat, U.size - j = r → MeetsIn prog w (Builtin.«list.__eq__.loop» ⟨[.ref p, .ref q, rawInt j, rawInt 3], []⟩)
      (fun A R st => st.heap.get? p = some { cls := .type "list", dict := g1, data := .seq U c, slots := k1 } ∧ st.heap.get? q = some { cls := .type "list", dict := g2, data := .seq W c2, slots := k2 } ∧
        (∀ m (m1 : m < U.size) (m2 : m < W.size), EqP prog w A.in1 st U[m] W[m] true) ∧ R (.ok (.ret (.bool false))) st) := by
  induction r with
  | zero =>
    intro j hj A R st hyp
    obtain ⟨hp', gg, dd', tt, oo⟩ := st
    obtain ⟨gp, gq, all, fin⟩ := hyp
    wp_walk using wpAny_loadPart' gp, wpAny_loadPart' gq
    have u1 : U[((j : Nat) : Int).toNat]? = none := by simp; omega
    have u2 : W[((j : Nat) : Int).toNat]? = none := by simp; omega
    rw [u1, u2]
    wp_walk using wpAny_loadPart' gp, wpAny_loadPart' gq
    show R (.ok (.ret (.bool (U.size != W.size)))) _
    rw [same]
    simpa using fin
  | succ r ih =>
    intro j hj A R st hyp
    obtain ⟨hp', gg, dd', tt, oo⟩ := st
    obtain ⟨gp, gq, all, fin⟩ := hyp
    wp_walk using wpAny_loadPart' gp, wpAny_loadPart' gq
    have l1 : j < U.size := by omega
    have l2 : j < W.size := by omega
    have u1 : U[((j : Nat) : Int).toNat]? = some U[j] := by simp [l1]
    have u2 : W[((j : Nat) : Int).toNat]? = some W[j] := by simp [l2]
    have nx : ((j : Int) + 1) = ((j + 1 : Nat) : Int) := by push_cast; rfl
    rw [u1, u2]
    refine wpAny_bind (all j l1 l2 _ _ ?_)
    wp_walk
    rw [nx]
    refine ⟨plainId_quiet plain_eq_loop _, codeAny_builtin entry_eq_loop ?_⟩
    rw [Around.under_plainId plain_eq_loop _]
    exact ih (j + 1) (by omega) A R _ ⟨gp, gq, all, fin⟩
theorem fx_listNe (p q : Addr) (U W : Array Value) (c c2 : Nat) (g1 g2 : Option Addr) (k1 k2 : Array (Option Value)) (same : U.size = W.size) :
    MeetsIn prog w (Builtin.«list.__ne__» ⟨[.ref p, .ref q], []⟩)
      (fun A R st => st.heap.get? p = some { cls := .type "list", dict := g1, data := .seq U c, slots := k1 } ∧ st.heap.get? q = some { cls := .type "list", dict := g2, data := .seq W c2, slots := k2 } ∧
        (∀ m (m1 : m < U.size) (m2 : m < W.size), EqP prog w A.in1 st U[m] W[m] true) ∧ R (.ok (.ret (.bool false))) st) := by
  intro A R st hyp
  obtain ⟨hp', gg, dd', tt, oo⟩ := st
  obtain ⟨gp, gq, all, fin⟩ := hyp
  have sub := AutoSeq1.sub_list_list
  have nsz : ¬ (U.size != W.size) = true := by simp [same]
  wp_walk using wpAny_loadPart' gp, wpAny_loadPart' gq
  refine ⟨plainId_quiet plain_eq_loop _, codeAny_builtin entry_eq_loop ?_⟩
  rw [Around.under_plainId plain_eq_loop _]
  exact fx_neSame p q U W c c2 g1 g2 k1 k2 same _ 0 rfl A R _ ⟨gp, gq, all, fin⟩
theorem fx_cmpNe {A : Around} {st : Shared} {p q : Addr} {U W : Array Value} (lp : st.heap.IsList p U) (lq : st.heap.IsList q W) (same : U.size = W.size) (hu : A.units < cLine)
    (all : ∀ m (m1 : m < U.size) (m2 : m < W.size), EqP prog w A.in1 st U[m] W[m] true) (E Q : Value → Shared → Prop) (fin : Q (.bool false) st) : wpAny (model prog w) A (richCompare .NotEq (.ref p) (.ref q)) Q E st := by
  obtain ⟨⟨c1, g1, z1, k1⟩, o1, e1, n1, f1⟩ := id lp
  obtain ⟨⟨c2, g2, z2, k2⟩, o2, e2, n2, f2⟩ := id lq
  simp only at e1 f1 e2 f2
  subst e1 f1 e2 f2
  have tp : st.TypeIs (.ref p) "list" := ⟨_, o1, rfl⟩
  have tq : st.TypeIs (.ref q) "list" := ⟨_, o2, rfl⟩
  refine wpAny_richCompare_same_room (op := .NotEq) tp tq F.slot_list_ne (call_meetsIn F.slot_list_ne tp F.entry_list_ne (F.args_list_ne_2 _ _) (fx_listNe p q U W n1 n2 g1 g2 k1 k2 same) ?_) hu
  exact ⟨o1, o2, all, show Value.bool false ≠ Value.notImplemented ∧ Q (.bool false) st from ⟨(fun x => nomatch x), fin⟩⟩
end
end PySem.SeqAt
namespace Fx
open PySem L2 PySem.Spec PyProof.Rows
/-- two dicts that are equal, as items of lists -/
def SameD (H : Hp) (x y : V) : Prop := ∃ m m' : IM, Rp H (dI m) x ∧ Rp H (dI m') y ∧ okM m ∧ okM m' ∧ deq m m' = true
inductive AllD (H : Hp) : List V → List V → Prop
  | nil : AllD H [] []
  | cons {x y : V} {xs ys : List V} : SameD H x y → AllD H xs ys → AllD H (x :: xs) (y :: ys)
theorem AllD.length {H : Hp} {xs ys : List V} (h : AllD H xs ys) : xs.length = ys.length := by
  induction h with
  | nil => rfl
  | cons _ _ ih => simp [ih]
theorem AllD.get {H : Hp} {xs ys : List V} (h : AllD H xs ys) : ∀ {i : Nat} {x y : V}, xs[i]? = some x → ys[i]? = some y → SameD H x y := by
  induction h with
  | nil => intro i x y e; simp at e
  | cons hd _ ih =>
    intro i x y e1 e2
    cases i with
    | zero => simp at e1 e2; subst e1 e2; exact hd
    | succ i => exact ih (by simpa using e1) (by simpa using e2)
def rNeLD : R2 := fun x y H Q => ∃ a b xs ys, x = .ref a ∧ y = .ref b ∧ H a = some (.lst xs) ∧ H b = some (.lst ys) ∧ AllD H xs ys ∧ Q (.bl false) H
section
variable {X : Cx} {pins : List (Addr × Obj)} {σ : L2.St} {H : Hp} {s : Shared}
theorem eqP_dicts (I : L2.Inv X pins σ H s) {A : Around} (hu : A.units + 192 < cLine) {x y : V} {u v : Value} (h : SameD H x y) (rx : RelV x u) (ry : RelV y v) : SeqAt.EqP X.prog X.w A s u v true := by
  obtain ⟨m, m', ⟨a, ks, rfl, ea, ra'⟩, ⟨b, ls, rfl, eb, rb'⟩, ok, ok', hq⟩ := h
  obtain rfl : u = Value.ref a := rx
  obtain rfl : v = Value.ref b := ry
  by_cases e : a = b
  · subst e
    exact (SeqAt.EqAt.same _).eqP
  · refine SeqAt.eqP_refs e fun E Q q => ?_
    obtain ⟨_, ya, va, ra, da⟩ := dk_rd I.hok ea
    obtain ⟨_, yb, vb, rb, db⟩ := dk_rd I.hok eb
    have hl : va.length = vb.length := by
      unfold deq at hq
      rw [Bool.and_eq_true, beq_iff_eq] at hq
      rw [← ra.length, ← rb.length, RpI.length ra', RpI.length rb']
      exact hq.1
    have hm : m.all (hitM m') = true := by
      unfold deq at hq
      rw [Bool.and_eq_true] at hq
      exact hq.2
    have hits := hits_data I (A := A.in1) (by show A.units + 1 + 190 < cLine; omega) rb' rb ok' ra' ra ok
    rw [hm] at hits
    refine PySem.W.keq_eq (knd := mixKind X.prog X.w) (r := true) ya yb da db (by omega) (fun _ => hits) ?_
    rw [hl]
    simpa using q
theorem op_neLD (hu : X.A.units + 199 < cLine) : OpR X (compareOp .NotEq) rNeLD := by
  intro pins s σ H x y v u Q I rx ry h
  obtain ⟨a, b, xs, ys, rfl, rfl, ea, eb, hall, q⟩ := h
  obtain rfl : v = Value.ref a := rx
  obtain rfl : u = Value.ref b := ry
  obtain ⟨us, r1, p1, _⟩ := I.list (.of ea)
  obtain ⟨ws, r2, p2, _⟩ := I.list (.of eb)
  have l1 := r1.length
  have l2 := r2.length
  have l3 := hall.length
  refine SeqAt.fx_cmpNe p1.isList p2.isList (by simp; omega) (by omega) (fun j h1 h2 => ?_) _ _ ⟨.bl false, H, I, rfl, q⟩
  have j1 : j < us.length := by simpa using h1
  have j2 : j < ws.length := by simpa using h2
  have e1 : xs[j]? = some (xs[j]'(by omega)) := by simp
  have e2 : ys[j]? = some (ys[j]'(by omega)) := by simp
  obtain ⟨u1, f1, g1⟩ := r1.get e1
  obtain ⟨u2, f2, g2⟩ := r2.get e2
  have k1 : us[j] = u1 := by rw [List.getElem?_eq_getElem j1] at f1; exact Option.some.inj f1
  have k2 : ws[j] = u2 := by rw [List.getElem?_eq_getElem j2] at f2; exact Option.some.inj f2
  have := eqP_dicts I (A := X.A.in1) (by show X.A.units + 1 + 192 < cLine; omega) (hall.get e1 e2) g1 g2
  rw [← k1, ← k2] at this
  simpa using this
end
end Fx
/-! FxM: fillings one behind the other; promises with dicts. -/
namespace Fx
open PySem L2 PySem.Spec PyProof.Rows
theorem lk_pt {m : FI} {k j : Int} {f : Fm} : lk (pt m k f) j = if j = k then some f else lk m j := by
  unfold pt
  by_cases ha : (m.any fun p => decide (p.1 = k)) = true
  · rw [if_pos ha]
    induction m with
    | nil => simp at ha
    | cons p m ih =>
      by_cases e : p.1 = k
      · by_cases ej : j = k
        · subst ej; subst e; simp [lk]
        · have : ¬ p.1 = j := fun z => ej (z.symm.trans e)
          have ih' : lk (m.map fun p => if p.1 = k then (p.1, f) else p) j = lk m j := by
            by_cases hb : (m.any fun p => decide (p.1 = k)) = true
            · have := ih hb; rw [if_neg ej] at this; exact this
            · have : m.map (fun p => if p.1 = k then (p.1, f) else p) = m := by
                conv => rhs; rw [← List.map_id m]
                apply List.map_congr_left
                intro q hq
                have : ¬ q.1 = k := fun z => hb (List.any_eq_true.mpr ⟨q, hq, by simpa using z⟩)
                simp [this]
              rw [this]
          rw [if_neg ej]
          simp only [lk] at ih' ⊢
          simpa [e, this, ej, Ne.symm ej] using ih'
      · have hb : (m.any fun p => decide (p.1 = k)) = true := by simpa [e] using ha
        have ih' := ih hb
        by_cases ej : p.1 = j
        · have : ¬ j = k := fun z => e (ej.trans z)
          simp [lk, e, ej, this]
        · simp only [lk] at ih' ⊢
          simpa [e, ej] using ih'
  · rw [if_neg ha]
    have hn : ∀ p, p ∈ m → ¬ p.1 = k := fun p hp z => ha (List.any_eq_true.mpr ⟨p, hp, by simpa using z⟩)
    by_cases ej : j = k
    · subst ej
      rw [if_pos rfl]
      unfold lk
      rw [List.find?_append]
      have : m.find? (fun p => decide (p.1 = j)) = none := List.find?_eq_none.mpr fun p hp => by simpa using hn p hp
      rw [this]
      simp
    · rw [if_neg ej]
      unfold lk
      rw [List.find?_append]
      cases m.find? (fun p => decide (p.1 = j)) with
      | none => simp [Ne.symm ej]
      | some _ => simp
theorem keys_pt {m : FI} {k : Int} {f : Fm} : (pt m k f).map (·.1) = ins (m.map (·.1)) k := by
  unfold pt ins
  by_cases ha : (m.any fun p => decide (p.1 = k)) = true
  · have : k ∈ m.map (·.1) := by
      obtain ⟨p, hp, e⟩ := List.any_eq_true.mp ha
      exact List.mem_map.mpr ⟨p, hp, by simpa using e⟩
    rw [if_pos ha, if_pos this, List.map_map]
    apply List.map_congr_left
    intro p _
    by_cases e : p.1 = k <;> simp [e]
  · have : ¬ k ∈ m.map (·.1) := fun h => by
      obtain ⟨p, hp, e⟩ := List.mem_map.mp h
      exact ha (List.any_eq_true.mpr ⟨p, hp, by simpa using e⟩)
    rw [if_neg ha, if_neg this, List.map_append]; rfl
/-- m1's numbers put into a, filled by m2 -/
def puts (m2 : FI) (a : FI) (m1 : FI) : FI := m1.foldl (fun acc p => pt acc p.1 (fill m2 p.2)) a
/-- the filling that does as m1 and then m2 do -/
def comp (m1 m2 : FI) : FI := puts m2 m2 m1
theorem puts_snoc (m2 a m1 : FI) (p : Int × Fm) : puts m2 a (m1 ++ [p]) = pt (puts m2 a m1) p.1 (fill m2 p.2) := by simp [puts]
theorem puts_nodup {m2 : FI} : ∀ {m1 a : FI}, (a.map (·.1)).Nodup → ((puts m2 a m1).map (·.1)).Nodup
  | [], a, h => h
  | p :: m1, a, h => by
    show ((puts m2 (pt a p.1 (fill m2 p.2)) m1).map (·.1)).Nodup
    refine puts_nodup ?_
    rw [keys_pt]; exact nodup_ins h
theorem comp_nodup {m1 m2 : FI} (h : (m2.map (·.1)).Nodup) : ((comp m1 m2).map (·.1)).Nodup := puts_nodup h
theorem lk_puts {m2 : FI} {j : Int} : ∀ {m1 a : FI}, (m1.map (·.1)).Nodup → lk (puts m2 a m1) j = match lk m1 j with
    | some f => some (fill m2 f)
    | none => lk a j
  | [], a, _ => rfl
  | p :: m1, a, h => by
    have h' : (p.1 :: m1.map (·.1)).Nodup := h
    obtain ⟨h1, h2⟩ := List.nodup_cons.mp h'
    show lk (puts m2 (pt a p.1 (fill m2 p.2)) m1) j = _
    rw [lk_puts h2]
    by_cases e : p.1 = j
    · have hn : lk m1 j = none := by
        cases q : lk m1 j with
        | none => rfl
        | some f => exact absurd (List.mem_map.mpr ⟨_, lk_mem q, rfl⟩) (e ▸ h1)
      have hs : lk (p :: m1) j = some p.2 := by simp [lk, e]
      rw [hn, hs, lk_pt]
      simp [e]
    · have hs : lk (p :: m1) j = lk m1 j := by simp [lk, e]
      rw [hs, lk_pt]
      cases lk m1 j with
      | none => simp [Ne.symm e]
      | some f => rfl
theorem lk_comp {m1 m2 : FI} {j : Int} (h : (m1.map (·.1)).Nodup) : lk (comp m1 m2) j = match lk m1 j with
    | some f => some (fill m2 f)
    | none => lk m2 j := lk_puts h
mutual
theorem fill_comp {m1 m2 : FI} (h : (m1.map (·.1)).Nodup) : ∀ f : Fm, fill m2 (fill m1 f) = fill (comp m1 m2) f
  | .gap k => by
    simp only [fill]
    rw [lk_comp h]
    cases lk m1 k with
    | none => simp [fill]
    | some g => rfl
  | .tie w ps => by simp only [fill]; rw [fillL_comp h ps]
theorem fillL_comp {m1 m2 : FI} (h : (m1.map (·.1)).Nodup) : ∀ fs : List Fm, fillL m2 (fillL m1 fs) = fillL (comp m1 m2) fs
  | [] => rfl
  | f :: fs => by simp only [fillL]; rw [fill_comp h f, fillL_comp h fs]
end
theorem lk_none_of {m : FI} {k : Int} (h : ¬ k ∈ m.map (·.1)) : lk m k = none := by
  cases q : lk m k with
  | none => rfl
  | some f => exact absurd (List.mem_map.mpr ⟨_, lk_mem q, rfl⟩) h
theorem lk_isSome {m : FI} {k : Int} (h : k ∈ m.map (·.1)) : ∃ f, lk m k = some f := by
  obtain ⟨p, hp, e⟩ := List.mem_map.mp h
  cases q : lk m k with
  | some f => exact ⟨f, rfl⟩
  | none =>
    unfold lk at q
    rw [Option.map_eq_none_iff, List.find?_eq_none] at q
    exact absurd e (by simpa using q p hp)
/-- fillings that tell the same are the same as dicts -/
theorem deq_of_lk {m m' : FI} (hn : (m.map (·.1)).Nodup) (hn' : (m'.map (·.1)).Nodup) (h : ∀ k, lk m k = lk m' k) : deq (imF m) (imF m') = true := by
  refine deq_imF ?_ fun p hp => by rw [← h, lk_self hn p hp]
  have k1 : ∀ x, x ∈ m.map (·.1) → x ∈ m'.map (·.1) := fun x hx => by
    obtain ⟨f, hf⟩ := lk_isSome hx
    rw [h] at hf
    exact List.mem_map.mpr ⟨_, lk_mem hf, rfl⟩
  have k2 : ∀ x, x ∈ m'.map (·.1) → x ∈ m.map (·.1) := fun x hx => by
    obtain ⟨f, hf⟩ := lk_isSome hx
    rw [← h] at hf
    exact List.mem_map.mpr ⟨_, lk_mem hf, rfl⟩
  have a := nodup_le hn k1
  have b := nodup_le hn' k2
  simp only [List.length_map] at a b
  omega
/-- the forms of a filling are right -/
def OkFI (m : FI) (n : Nat) : Prop := ∀ p, p ∈ m → p.2.ok = true ∧ p.2.dep ≤ n
theorem OkFI.mono {m : FI} {a b : Nat} (h : OkFI m a) (hab : a ≤ b) : OkFI m b := fun p hp => ⟨(h p hp).1, Nat.le_trans (h p hp).2 hab⟩
theorem OkFI.okM {m : FI} {n : Nat} (h : OkFI m n) (hn : n ≤ 95) : okM (imF m) := okM_imF fun p hp => ⟨(h p hp).1, Nat.le_trans (h p hp).2 hn⟩
theorem mem_pt {m : FI} {k : Int} {f : Fm} {p : Int × Fm} (h : p ∈ pt m k f) : p ∈ m ∨ p = (k, f) ∨ (p.1 = k ∧ p.2 = f) := by
  unfold pt at h
  split at h
  · obtain ⟨q, hq, e⟩ := List.mem_map.mp h
    split at e
    · rename_i hk
      subst e
      exact .inr (.inr ⟨hk, rfl⟩)
    · subst e; exact .inl hq
  · rcases List.mem_append.mp h with h | h
    · exact .inl h
    · exact .inr (.inl (List.mem_singleton.mp h))
theorem OkFI.pt {m : FI} {k : Int} {f : Fm} {n : Nat} (h : OkFI m n) (h1 : f.ok = true) (h2 : f.dep ≤ n) : OkFI (pt m k f) n := fun p hp => by
  rcases mem_pt hp with hp | rfl | ⟨_, e⟩
  · exact h p hp
  · exact ⟨h1, h2⟩
  · rw [e]; exact ⟨h1, h2⟩
theorem OkFI.puts {m2 : FI} {n : Nat} (h2 : OkFI m2 n) : ∀ {m1 a : FI} {k : Nat}, OkFI m1 k → OkFI a (k + n) → OkFI (puts m2 a m1) (k + n)
  | [], a, k, _, h => h
  | p :: m1, a, k, h, ha => by
    show OkFI (Fx.puts m2 (Fx.pt a p.1 (fill m2 p.2)) m1) (k + n)
    have hp := h p (by simp)
    refine OkFI.puts h2 (fun q hq => h q (by simp [hq])) (ha.pt (fill_ok (fun q hq => (h2 q hq).1) _ hp.1) ?_)
    have := fill_dep (m := m2) (k := n) (fun q hq => (h2 q hq).2) p.2
    omega
theorem OkFI.comp {m1 m2 : FI} {k n : Nat} (h1 : OkFI m1 k) (h2 : OkFI m2 n) : OkFI (comp m1 m2) (k + n) := OkFI.puts h2 h1 (h2.mono (by omega))
theorem pt_len {m : FI} {k : Int} {f : Fm} : (pt m k f).length ≤ m.length + 1 := by
  unfold pt; split <;> simp
theorem puts_len {m2 : FI} : ∀ {m1 a : FI}, (puts m2 a m1).length ≤ a.length + m1.length
  | [], a => by simp [puts]
  | p :: m1, a => by
    have := puts_len (m2 := m2) (m1 := m1) (a := pt a p.1 (fill m2 p.2))
    have := pt_len (m := a) (k := p.1) (f := fill m2 p.2)
    show (puts m2 (pt a p.1 (fill m2 p.2)) m1).length ≤ _
    simp only [List.length_cons]; omega
theorem Drawn.okFI {m : FI} {ns : List Int} {many : Int} {deep : Nat} (h : Drawn m ns many deep) : OkFI m deep := fun p hp => ⟨Fm.gd_ok (h.2 p hp).1, (h.2 p hp).2.1⟩
/-! ### promises -/
/-- evaluates to a tracked dict | to a new one -/
def EvT (te : TE) (σ : L2.St) (H : Hp) (m : IM) : Prop := ∀ H1, Same H H1 → ∀ Q : VK, (∀ a xs H2, Same H1 H2 → H2 a = some (.dK xs) → RpI H2 m xs → Q (.ref a) H2) → te σ H1 Q
def EvN (te : TE) (σ : L2.St) (H : Hp) (m : IM) : Prop := ∀ H1, Same H H1 → ∀ Q : VK, (∀ a xs H2, Same H1 H2 → H1 a = none → H2 a = some (.dK xs) → RpI H2 m xs → Q (.ref a) H2) → te σ H1 Q
theorem EvN.t {te : TE} {σ : L2.St} {H : Hp} {m : IM} (h : EvN te σ H m) : EvT te σ H m := fun H1 s Q q => h H1 s Q fun a xs H2 s2 _ ha hr => q a xs H2 s2 ha hr
theorem EvT.d {te : TE} {σ : L2.St} {H : Hp} {m : IM} (h : EvT te σ H m) : EvD te σ H (dI m) := fun H1 s Q q => h H1 s Q fun a xs H2 s2 ha hr => q _ H2 s2 ⟨a, xs, rfl, .inl ha, hr⟩
theorem et_var {σ : L2.St} {H : Hp} {i : Nat} {a : Addr} {xs : List (Key × V)} {m : IM} (h : σ[i]? = some (some (.ref a))) (ha : H a = some (.dK xs)) (hr : RpI H m xs) : EvT (tVar i) σ H m := fun H1 s Q q => ⟨.ref a, h, q a xs H1 (Same.refl _) (s _ _ ha) (hr.mono s)⟩
theorem en_new {σ : L2.St} {H : Hp} : EvN tDNewK σ H [] := fun H1 s Q q p hp => q p [] _ (Fx.Same.new hp) hp upd_same rfl
theorem w_sndict {σ : L2.St} {H : Hp} {te : TE} {i : Nat} {u : TS} {D : Ends} {m : IM} (h : EvN te σ H m) (q : ∀ p xs H1, Same H H1 → H p = none → H1 p = some (.dK xs) → RpI H1 m xs → u D (σ.set i (some (.ref p))) H1) : tSeq (tAsg te (gName i)) u D σ H := h H (Same.refl _) _ q
/-- one_filling(one, other) -/
def spOne (n : Nat) : Sp := fun vs H Q _ => ∃ (a : Addr) (xs : List (Key × V)) (v2 : V) (m1 m2 : FI), vs = [.ref a, v2] ∧ H a = some (.dK xs) ∧ RpI H (imF m1) xs ∧ Rp H (dF m2) v2 ∧ (m1.map (·.1)).Nodup ∧ OkFI m1 n ∧ m1.length ≤ 1000 ∧ m2.length ≤ 1000 ∧
  ∀ p ys H', Same H H' → H p = none → H' p = some (.dK ys) → RpI H' (imF (comp m1 m2)) ys → Q (.ref p) H'
theorem spOne.len {n : Nat} : ∀ vs H Q E, spOne n vs H Q E → vs.length = 2 := fun vs H Q E ⟨a, xs, v2, m1, m2, e, _⟩ => by rw [e]; rfl
theorem en_one {σ : L2.St} {H : Hp} {n : Nat} {ta tb : TE} {m1 m2 : FI} {E : XK} (h1 : EvT ta σ H (imF m1)) (h2 : EvD tb σ H (dF m2)) (hn : (m1.map (·.1)).Nodup) (hk : OkFI m1 n) (l1 : m1.length ≤ 1000) (l2 : m2.length ≤ 1000) :
    EvN (tCall (spOne n) [] E (tCons ta (tCons tb tNil))) σ H (imF (comp m1 m2)) := fun H1 s Q q => h1 H1 s _ fun a xs H2 s2 ha hr => h2 H2 (s.trans s2) _ fun v H3 s3 r3 => by
  refine ⟨a, xs, v, m1, m2, rfl, s3 _ _ ha, hr.mono s3, r3, hn, hk, l1, l2, fun p ys H' s' hp hp' hr' => ?_⟩
  exact q p ys H' ((s2.trans s3).trans s') ((s2.trans s3).free hp) hp' hr'
/-- _law_is_filling(found, due), asked where it holds -/
def spIsFilling (n : Nat) : Sp := fun vs H Q _ => ∃ (a : Addr) (xs : List (Key × V)) (v2 : V) (m m' : FI), vs = [.ref a, v2] ∧ H a = some (.dK xs) ∧ RpI H (imF m) xs ∧ Rp H (dF m') v2 ∧ OkFI m n ∧ OkFI m' n ∧ (m.map (·.1)).Nodup ∧ deq (imF m) (imF m') = true ∧ ∀ H', Same H H' → Q (.bl true) H'
theorem spIsFilling.len {n : Nat} : ∀ vs H Q E, spIsFilling n vs H Q E → vs.length = 2 := fun vs H Q E ⟨a, xs, v2, m, m', e, _⟩ => by rw [e]; rfl
theorem ev_isfilling {σ : L2.St} {H : Hp} {n : Nat} {ta tb : TE} {m m' : FI} {E : XK} (h1 : EvT ta σ H (imF m)) (h2 : EvD tb σ H (dF m')) (k1 : OkFI m n) (k2 : OkFI m' n) (hn : (m.map (·.1)).Nodup) (he : deq (imF m) (imF m') = true) :
    EvD (tCall (spIsFilling n) [] E (tCons ta (tCons tb tNil))) σ H (.bool true) := fun H1 s Q q => h1 H1 s _ fun a xs H2 s2 ha hr => h2 H2 (s.trans s2) _ fun v H3 s3 r3 =>
  ⟨a, xs, v, m, m', rfl, s3 _ _ ha, hr.mono s3, r3, k1, k2, hn, he, fun H' s' => q _ H' ((s2.trans s3).trans s') rfl⟩
theorem RpI.lock {H : Hp} {d : Addr} {kvs : List (Key × V)} (h : H d = some (.dK kvs)) (od : Obj) {m : IM} {xs : List (Key × V)} (r : RpI H m xs) : RpI (upd H d (.frz od (.dK kvs))) m xs := RpK.le (Le.lock h od) _ _ r
theorem RpI.unlock {H : Hp} {d : Addr} {kvs : List (Key × V)} {od : Obj} (h : H d = some (.frz od (.dK kvs))) {m : IM} {xs : List (Key × V)} (r : RpI H m xs) : RpI (upd H d (.dK kvs)) m xs := RpK.le (Le.unlock h) _ _ r
/-- what was done under a lock leaves all as it was -/
theorem Same.unlock {H H' : Hp} {d : Addr} {kvs : List (Key × V)} {od : Obj} (h : H d = some (.dK kvs)) (s : Same (upd H d (.frz od (.dK kvs))) H') : Same H (upd H' d (.dK kvs)) := fun b o q => by
  by_cases e : b = d
  · subst e; rw [h] at q; cases q; exact upd_same
  · rw [upd_ne e]; exact s b o (by rw [upd_ne e]; exact q)
end Fx
/-! FxN: covering; spots of a form, forms opened. -/
namespace Fx
open PySem L2 PySem.Spec PyProof.Rows
/-! ### covering -/
mutual

def mt : Fm → Fm → FI → Bool × FI
  | .gap k, g, m => match lk m k with
    | none => (true, pt m k g)
    | some h => (decide (h = g), m)
  | .tie _ _, .gap _, m => (false, m)
  | .tie w ps, .tie v qs, m => if w = v ∧ ps.length = qs.length then mtL ps qs m else (false, m)
def mtL : List Fm → List Fm → FI → Bool × FI
  | [], _, m => (true, m)
  | _ :: _, [], m => (true, m)
  | f :: fs, g :: gs, m => match mt f g m with
    | (true, m') => mtL fs gs m'
    | (false, m') => (false, m')
end
mutual

def lc : Fm → Fm → FI → Bool × FI
  | .gap k, g, m => match lk m k with
    | none => (true, pt m k g)
    | some h => (decide (h = g), m)
  | .tie _ _, .gap _, m => (false, m)
  | .tie w ps, .tie v qs, m => if w = v ∧ ps.length = qs.length then lcL ps qs m else (false, m)
def lcL : List Fm → List Fm → FI → Bool × FI
  | [], _, m => (true, m)
  | _ :: _, [], m => (true, m)
  | f :: fs, g :: gs, m => ((lc f g m).1 && (lcL fs gs (lc f g m).2).1, (lcL fs gs (lc f g m).2).2)
end
mutual
theorem lc_mt : ∀ (f g : Fm) (m : FI), (lc f g m).1 = (mt f g m).1 ∧ ((mt f g m).1 = true → (lc f g m).2 = (mt f g m).2)
  | .gap k, g, m => by simp [lc, mt]
  | .tie _ _, .gap _, m => by simp [lc, mt]
  | .tie w ps, .tie v qs, m => by
    simp only [lc, mt]
    split
    · exact lcL_mtL ps qs m
    · exact ⟨rfl, fun _ => rfl⟩
theorem lcL_mtL : ∀ (fs gs : List Fm) (m : FI), (lcL fs gs m).1 = (mtL fs gs m).1 ∧ ((mtL fs gs m).1 = true → (lcL fs gs m).2 = (mtL fs gs m).2)
  | [], _, m => ⟨rfl, fun _ => rfl⟩
  | _ :: _, [], m => ⟨rfl, fun _ => rfl⟩
  | f :: fs, g :: gs, m => by
    obtain ⟨h1, h2⟩ := lc_mt f g m
    simp only [lcL, mtL]
    rcases q : mt f g m with ⟨b, m'⟩
    rw [q] at h1 h2
    cases b with
    | false => simp [h1]
    | true =>
      have e := h2 rfl
      simp only at h1 e
      rw [h1, e, Bool.true_and]
      exact lcL_mtL fs gs m'
end
theorem nodup_pt {m : FI} {k : Int} {f : Fm} (h : (m.map (·.1)).Nodup) : ((pt m k f).map (·.1)).Nodup := by rw [keys_pt]; exact nodup_ins h
mutual
theorem mt_inv {n : Nat} : ∀ (f g : Fm) (m : FI), g.ok = true → g.dep ≤ n → OkFI m n → (m.map (·.1)).Nodup → OkFI (mt f g m).2 n ∧ ((mt f g m).2.map (·.1)).Nodup ∧ (mt f g m).2.length ≤ m.length + f.sg
  | .gap k, g, m, h1, h2, h3, h4 => by
    simp only [mt]
    cases e : lk m k with
    | none => exact ⟨h3.pt h1 h2, nodup_pt h4, by have := pt_len (m := m) (k := k) (f := g); simp only [Fm.sg]; omega⟩
    | some h => exact ⟨h3, h4, by simp⟩
  | .tie _ _, .gap _, m, _, _, h3, h4 => by simp only [mt]; exact ⟨h3, h4, by omega⟩
  | .tie w ps, .tie v qs, m, h1, h2, h3, h4 => by
    simp only [mt]
    split
    · have h1' := h1
      simp only [Fm.ok, Bool.and_eq_true] at h1'
      have h2' : Fm.depL qs ≤ n := by simp only [Fm.dep] at h2; omega
      have := mtL_inv ps qs m h1'.2 h2' h3 h4
      simp only [Fm.sg]
      exact ⟨this.1, this.2.1, by omega⟩
    · exact ⟨h3, h4, Nat.le_add_right _ _⟩
theorem mtL_inv {n : Nat} : ∀ (fs gs : List Fm) (m : FI), Fm.okL gs = true → Fm.depL gs ≤ n → OkFI m n → (m.map (·.1)).Nodup → OkFI (mtL fs gs m).2 n ∧ ((mtL fs gs m).2.map (·.1)).Nodup ∧ (mtL fs gs m).2.length ≤ m.length + Fm.sgL fs
  | [], _, m, _, _, h3, h4 => ⟨h3, h4, by simp [mtL, Fm.sgL]⟩
  | _ :: _, [], m, _, _, h3, h4 => ⟨h3, h4, by simp only [mtL]; omega⟩
  | f :: fs, g :: gs, m, h1, h2, h3, h4 => by
    simp only [Fm.okL, Bool.and_eq_true] at h1
    simp only [Fm.depL] at h2
    have a := mt_inv f g m h1.1 (by omega) h3 h4
    simp only [mtL, Fm.sgL]
    rcases q : mt f g m with ⟨b, m'⟩
    rw [q] at a
    cases b with
    | false => exact ⟨a.1, a.2.1, by have := a.2.2; simp only at this ⊢; omega⟩
    | true =>
      have c := mtL_inv fs gs m' h1.2 (by omega) a.1 a.2.1
      exact ⟨c.1, c.2.1, by have := a.2.2; have := c.2.2; simp only at *; omega⟩
end
/-- same_kind -/
def sk : Fm → Fm → Bool
  | .tie w ps, .tie v qs => decide (w = v) && decide (ps.length = qs.length)
  | _, _ => false
def spSame : Sp := spP fun ds r => ∃ f g : Fm, ds = [f.d, g.d] ∧ r = .bool (sk f g) ∧ f.ok = true ∧ g.ok = true
theorem spSame.len : ∀ vs H Q E, spSame vs H Q E → vs.length = 2 := spP.len fun ds d ⟨f, g, e, _⟩ => by rw [e]; rfl
/-- matched(one, other, filling); R tells which def's way it goes -/
def spMt (R : Fm → Fm → FI → Bool × FI) (n : Nat) : Sp := fun vs H Q _ => ∃ (v1 v2 : V) (a : Addr) (xs : List (Key × V)) (f g : Fm) (m : FI), vs = [v1, v2, .ref a] ∧ Rp H f.d v1 ∧ Rp H g.d v2 ∧ H a = some (.dK xs) ∧ RpI H (imF m) xs ∧
  f.ok = true ∧ f.dep ≤ n ∧ g.ok = true ∧ g.dep ≤ 90 ∧ OkFI m 90 ∧ (m.map (·.1)).Nodup ∧ m.length + f.sg ≤ 50000 ∧
  ∀ ys H', KB a H H' → H' a = some (.dK ys) → RpI H' (imF (R f g m).2) ys → Q (.bl (R f g m).1) H'
theorem spMt.no {R : Fm → Fm → FI → Bool × FI} : ∀ vs H Q E, ¬ spMt R 0 vs H Q E := fun vs H Q E ⟨_, _, _, _, f, _, _, _, _, _, _, _, _, hd, _⟩ => by have := f.dep_pos; omega
theorem spMt.len {R : Fm → Fm → FI → Bool × FI} {n : Nat} : ∀ vs H Q E, spMt R n vs H Q E → vs.length = 3 := fun vs H Q E ⟨_, _, _, _, _, _, _, e, _⟩ => by rw [e]; rfl
/-- covers(one, other): the filling, or None -/
def spCov (n : Nat) : Sp := fun vs H Q _ => ∃ (v1 v2 : V) (f g : Fm), vs = [v1, v2] ∧ Rp H f.d v1 ∧ Rp H g.d v2 ∧ f.ok = true ∧ f.dep ≤ n ∧ f.sg ≤ 5000 ∧ g.ok = true ∧ g.dep ≤ 90 ∧
  ((mt f g []).1 = true → ∀ p ys H', Same H H' → H p = none → H' p = some (.dK ys) → RpI H' (imF (mt f g []).2) ys → Q (.ref p) H') ∧ ((mt f g []).1 = false → ∀ H', Same H H' → Q .non H')
theorem spCov.len {n : Nat} : ∀ vs H Q E, spCov n vs H Q E → vs.length = 2 := fun vs H Q E ⟨_, _, _, _, e, _⟩ => by rw [e]; rfl
mutual
theorem lc_inv {n : Nat} : ∀ (f g : Fm) (m : FI), g.ok = true → g.dep ≤ n → OkFI m n → (m.map (·.1)).Nodup → OkFI (lc f g m).2 n ∧ ((lc f g m).2.map (·.1)).Nodup ∧ (lc f g m).2.length ≤ m.length + f.sg
  | .gap k, g, m, h1, h2, h3, h4 => by
    simp only [lc]
    cases e : lk m k with
    | none => exact ⟨h3.pt h1 h2, nodup_pt h4, by have := pt_len (m := m) (k := k) (f := g); simp only [Fm.sg]; omega⟩
    | some h => exact ⟨h3, h4, by simp⟩
  | .tie _ _, .gap _, m, _, _, h3, h4 => by simp only [lc]; exact ⟨h3, h4, by omega⟩
  | .tie w ps, .tie v qs, m, h1, h2, h3, h4 => by
    simp only [lc]
    split
    · have h1' := h1
      simp only [Fm.ok, Bool.and_eq_true] at h1'
      have h2' : Fm.depL qs ≤ n := by simp only [Fm.dep] at h2; omega
      have := lcL_inv ps qs m h1'.2 h2' h3 h4
      simp only [Fm.sg]
      exact ⟨this.1, this.2.1, by omega⟩
    · exact ⟨h3, h4, Nat.le_add_right _ _⟩
theorem lcL_inv {n : Nat} : ∀ (fs gs : List Fm) (m : FI), Fm.okL gs = true → Fm.depL gs ≤ n → OkFI m n → (m.map (·.1)).Nodup → OkFI (lcL fs gs m).2 n ∧ ((lcL fs gs m).2.map (·.1)).Nodup ∧ (lcL fs gs m).2.length ≤ m.length + Fm.sgL fs
  | [], _, m, _, _, h3, h4 => ⟨h3, h4, by simp [lcL, Fm.sgL]⟩
  | _ :: _, [], m, _, _, h3, h4 => ⟨h3, h4, by simp only [lcL]; omega⟩
  | f :: fs, g :: gs, m, h1, h2, h3, h4 => by
    simp only [Fm.okL, Bool.and_eq_true] at h1
    simp only [Fm.depL] at h2
    have a := lc_inv f g m h1.1 (by omega) h3 h4
    have c := lcL_inv fs gs (lc f g m).2 h1.2 (by omega) a.1 a.2.1
    simp only [lcL, Fm.sgL]
    exact ⟨c.1, c.2.1, by have := a.2.2; have := c.2.2; omega⟩
end
/-! prefixes of parts -/
theorem mtL_snoc : ∀ {fs gs : List Fm} {m m' : FI} {f g : Fm}, fs.length = gs.length → mtL fs gs m = (true, m') → mtL (fs ++ [f]) (gs ++ [g]) m = mt f g m'
  | [], [], m, m', f, g, _, h => by
    cases h
    simp only [List.nil_append, mtL]
    rcases q : mt f g m with ⟨b, m2⟩
    cases b <;> rfl
  | a :: fs, c :: gs, m, m', f, g, hl, h => by
    simp only [List.cons_append, mtL] at h ⊢
    rcases q : mt a c m with ⟨b, m2⟩
    rw [q] at h
    cases b with
    | false => cases h
    | true => exact mtL_snoc (by simpa using hl) h
theorem mtL_stop : ∀ {fs gs fs' gs' : List Fm} {m m' m2 : FI} {f g : Fm}, fs.length = gs.length → mtL fs gs m = (true, m') → mt f g m' = (false, m2) → mtL (fs ++ f :: fs') (gs ++ g :: gs') m = (false, m2)
  | [], [], fs', gs', m, m', m2, f, g, _, h, k => by
    cases h
    simp only [List.nil_append, mtL, k]
  | a :: fs, c :: gs, fs', gs', m, m', m2, f, g, hl, h, k => by
    simp only [List.cons_append, mtL] at h ⊢
    rcases q : mt a c m with ⟨b, m3⟩
    rw [q] at h
    cases b with
    | false => cases h
    | true => exact mtL_stop (by simpa using hl) h k
theorem lcL_snoc : ∀ {fs gs : List Fm} {m : FI} {f g : Fm}, fs.length = gs.length → lcL (fs ++ [f]) (gs ++ [g]) m = ((lcL fs gs m).1 && (lc f g (lcL fs gs m).2).1, (lc f g (lcL fs gs m).2).2)
  | [], [], m, f, g, _ => by simp [lcL]
  | a :: fs, c :: gs, m, f, g, hl => by
    simp only [List.cons_append, lcL]
    rw [lcL_snoc (by simpa using hl), Bool.and_assoc]

/-! ### spots, forms opened -/
mutual

def spo : Fm → List Int → List (List Int × Fm)
  | .gap n, p => [(p, .gap n)]
  | .tie w ps, p => (p, .tie w ps) :: spoL 0 ps p
def spoL (i : Nat) : List Fm → List Int → List (List Int × Fm)
  | [], _ => []
  | f :: fs, p => spo f (p ++ [(i : Int)]) ++ spoL (i + 1) fs p
end
mutual
theorem spo_len : ∀ (f : Fm) (p : List Int), (spo f p).length = f.sg
  | .gap _, _ => rfl
  | .tie w ps, p => by simp only [spo, List.length_cons, Fm.sg, spoL_len 0 ps p]; omega
theorem spoL_len : ∀ (i : Nat) (fs : List Fm) (p : List Int), (spoL i fs p).length = Fm.sgL fs
  | _, [], _ => rfl
  | i, f :: fs, p => by simp only [spoL, List.length_append, Fm.sgL, spo_len f, spoL_len (i + 1) fs p]
end
theorem spoL_snoc : ∀ (i : Nat) (fs : List Fm) (f : Fm) (p : List Int), spoL i (fs ++ [f]) p = spoL i fs p ++ spo f (p ++ [((i + fs.length : Nat) : Int)])
  | i, [], f, p => by simp [spoL]
  | i, a :: fs, f, p => by
    simp only [List.cons_append, spoL, spoL_snoc (i + 1) fs f p, List.append_assoc, List.length_cons]
    rw [show i + 1 + fs.length = i + (fs.length + 1) by omega]
/-- a place of a form -/
def Vld : Fm → List Int → Prop
  | _, [] => True
  | .gap _, _ :: _ => False
  | .tie _ ps, k :: r => 0 ≤ k ∧ ∃ g, ps[k.toNat]? = some g ∧ Vld g r
mutual
theorem spo_vld : ∀ (f : Fm) (p : List Int) (x : List Int × Fm), x ∈ spo f p → ∃ r, x.1 = p ++ r ∧ Vld f r ∧ r.length + 1 ≤ f.dep
  | .gap n, p, x, h => by
    simp only [spo, List.mem_singleton] at h
    subst h
    exact ⟨[], by simp, by simp [Vld], by simp [Fm.dep]⟩
  | .tie w ps, p, x, h => by
    simp only [spo] at h
    rcases List.mem_cons.mp h with rfl | h
    · exact ⟨[], by simp, by simp [Vld], by simp [Fm.dep]⟩
    · obtain ⟨j, g, r, hg, e, hv, hl⟩ := spoL_vld 0 ps p x h
      refine ⟨(j : Int) :: r, by simpa using e, ?_, ?_⟩
      · simp only [Vld]; exact ⟨by omega, g, by simpa using hg, hv⟩
      · have := Fm.dep_part (List.mem_of_getElem? hg)
        simp only [List.length_cons, Fm.dep]; omega
theorem spoL_vld : ∀ (i : Nat) (fs : List Fm) (p : List Int) (x : List Int × Fm), x ∈ spoL i fs p → ∃ (j : Nat) (g : Fm) (r : List Int), fs[j]? = some g ∧ x.1 = p ++ ((i + j : Nat) : Int) :: r ∧ Vld g r ∧ r.length + 1 ≤ g.dep
  | i, [], p, x, h => by simp [spoL] at h
  | i, f :: fs, p, x, h => by
    simp only [spoL, List.mem_append] at h
    rcases h with h | h
    · obtain ⟨r, e, hv, hl⟩ := spo_vld f _ x h
      exact ⟨0, f, r, rfl, by rw [e]; simp, hv, hl⟩
    · obtain ⟨j, g, r, hg, e, hv, hl⟩ := spoL_vld (i + 1) fs p x h
      exact ⟨j + 1, g, r, by simpa using hg, by rw [e, show i + 1 + j = i + (j + 1) by omega], hv, hl⟩
end
/-- the form with a gap at a place -/
def opn : Fm → List Int → Int → Fm
  | _, [], n => .gap n
  | .gap k, _ :: _, _ => .gap k
  | .tie w ps, k :: r, n => match ps[k.toNat]? with
    | some g => .tie w (ps.set k.toNat (opn g r n))
    | none => .tie w ps
theorem opn_nil (f : Fm) (n : Int) : opn f [] n = .gap n := by cases f <;> rfl
theorem opn_tie {w : Str} {ps : List Fm} {k : Int} {r : List Int} {n : Int} {g : Fm} (h : ps[k.toNat]? = some g) : opn (.tie w ps) (k :: r) n = .tie w (ps.set k.toNat (opn g r n)) := by simp [opn, h]
theorem depL_set : ∀ {ps : List Fm} {i : Nat} {g f : Fm}, ps[i]? = some g → f.dep ≤ g.dep → Fm.depL (ps.set i f) ≤ Fm.depL ps
  | p :: ps, 0, g, f, h, hd => by
    simp at h; subst h
    simp only [List.set_cons_zero, Fm.depL]; omega
  | p :: ps, i + 1, g, f, h, hd => by
    have := depL_set (ps := ps) (i := i) (by simpa using h) hd
    simp only [List.set_cons_succ, Fm.depL]; omega
theorem sgL_set : ∀ {ps : List Fm} {i : Nat} {g f : Fm}, ps[i]? = some g → f.sg ≤ g.sg → Fm.sgL (ps.set i f) ≤ Fm.sgL ps
  | p :: ps, 0, g, f, h, hd => by
    simp at h; subst h
    simp only [List.set_cons_zero, Fm.sgL]; omega
  | p :: ps, i + 1, g, f, h, hd => by
    have := sgL_set (ps := ps) (i := i) (by simpa using h) hd
    simp only [List.set_cons_succ, Fm.sgL]; omega
theorem gdL_set {many : Int} : ∀ {ps : List Fm} {i : Nat} {f : Fm}, Fm.gdL many ps = true → f.gd many = true → Fm.gdL many (ps.set i f) = true
  | [], i, f, h, hd => by simp [Fm.gdL]
  | p :: ps, 0, f, h, hd => by
    simp only [Fm.gdL, Bool.and_eq_true] at h
    simp only [List.set_cons_zero, Fm.gdL, Bool.and_eq_true]
    exact ⟨hd, h.2⟩
  | p :: ps, i + 1, f, h, hd => by
    simp only [Fm.gdL, Bool.and_eq_true] at h
    simp only [List.set_cons_succ, Fm.gdL, Bool.and_eq_true]
    exact ⟨h.1, gdL_set h.2 hd⟩
theorem opn_inv {many : Int} {n : Int} (h0 : 0 ≤ n) (h1 : n < many) : ∀ (r : List Int) (f : Fm), Vld f r → f.gd many = true → (opn f r n).gd many = true ∧ (opn f r n).dep ≤ f.dep ∧ (opn f r n).sg ≤ f.sg
  | [], f, _, hg => by
    rw [opn_nil]
    have := f.dep_pos
    have hs : 1 ≤ f.sg := by cases f <;> simp [Fm.sg]
    refine ⟨?_, ?_, ?_⟩
    · simp only [Fm.gd, Bool.and_eq_true, decide_eq_true_eq]; exact ⟨h0, h1⟩
    · simp only [Fm.dep]; omega
    · simp only [Fm.sg]; omega
  | k :: r, .gap _, hv, _ => by simp [Vld] at hv
  | k :: r, .tie w ps, hv, hg => by
    simp only [Vld] at hv
    obtain ⟨hk, g, eg, hv⟩ := hv
    simp only [Fm.gd, Bool.and_eq_true, decide_eq_true_eq] at hg
    have ih := opn_inv h0 h1 r g hv (Fm.gd_part hg.2 (List.mem_of_getElem? eg))
    rw [opn_tie eg]
    refine ⟨?_, ?_, ?_⟩
    · simp only [Fm.gd, Bool.and_eq_true, decide_eq_true_eq, List.length_set]
      exact ⟨hg.1, gdL_set hg.2 ih.1⟩
    · have := depL_set eg ih.2.1
      simp only [Fm.dep]; omega
    · have := sgL_set eg ih.2.2
      simp only [Fm.sg]; omega
/-- one opening, some openings -/
def Opens (f f' : Fm) (n : Int) : Prop := ∃ r, Vld f r ∧ f' = opn f r n
inductive Loose : Fm → Int → Nat → Fm → Prop
  | none (f : Fm) (b : Int) : Loose f b 0 f
  | one {f g h : Fm} {b : Int} {k : Nat} : Loose f b k g → Opens g h (b + k) → Loose f b (k + 1) h
theorem Loose.inv {f g : Fm} {b : Int} {k : Nat} (h : Loose f b k g) {many : Int} (h0 : 0 ≤ b) (h1 : b + k ≤ many) (hf : f.gd many = true) : g.gd many = true ∧ g.dep ≤ f.dep ∧ g.sg ≤ f.sg := by
  induction h with
  | none => exact ⟨hf, Nat.le_refl _, Nat.le_refl _⟩
  | one l o ih =>
    rename_i g h b k
    obtain ⟨a1, a2, a3⟩ := ih h0 (by omega)
    obtain ⟨r, hv, rfl⟩ := o
    obtain ⟨b1, b2, b3⟩ := opn_inv (many := many) (n := b + k) (by omega) (by omega) r g hv a1
    exact ⟨b1, by omega, by omega⟩
def encP (x : List Int × Fm) : PyData := .tuple [.tuple (x.1.map .int), x.2.d]
/-- _law_spots(form, path, found) -/
def spSpots (n : Nat) : Sp := fun vs H Q _ => ∃ (v1 v2 : V) (p : Addr) (xs : List V) (f : Fm) (path : List Int), vs = [v1, v2, .ref p] ∧ Rp H f.d v1 ∧ Rp H (.tuple (path.map .int)) v2 ∧ H p = some (.lst xs) ∧ f.ok = true ∧ f.dep ≤ n ∧ path.length + f.dep ≤ 100 ∧ xs.length + f.sg ≤ 50000 ∧
  ∀ ys H', KB p H H' → H' p = some (.lst (xs ++ ys)) → RpL H' ((spo f path).map encP) ys → Q (.ref p) H'
theorem spSpots.no : ∀ vs H Q E, ¬ spSpots 0 vs H Q E := fun vs H Q E ⟨_, _, _, _, f, _, _, _, _, _, _, hd, _⟩ => by have := f.dep_pos; omega
theorem spSpots.len {n : Nat} : ∀ vs H Q E, spSpots n vs H Q E → vs.length = 3 := fun vs H Q E ⟨_, _, _, _, _, _, e, _⟩ => by rw [e]; rfl
/-- _law_opened(form, path, number) -/
def spOpened (n : Nat) : Sp := spP fun ds r => ∃ (f : Fm) (path : List Int) (k : Int), ds = [f.d, .tuple (path.map .int), .int k] ∧ r = (opn f path k).d ∧ Vld f path ∧ path.length + 1 ≤ n ∧ n ≤ 100 ∧ f.ok = true
theorem spOpened.no : ∀ vs H Q E, ¬ spOpened 0 vs H Q E := fun vs H Q E ⟨ds, r, _, ⟨f, path, k, _, _, _, hd, _⟩, _⟩ => by omega
theorem spOpened.len {n : Nat} : ∀ vs H Q E, spOpened n vs H Q E → vs.length = 3 := spP.len fun ds d ⟨f, path, k, e, _⟩ => by rw [e]; rfl
/-- _law_looser(form, cell, base) -/
def spLooser (n : Nat) : Sp := fun vs H Q _ => ∃ (v1 : V) (f : Fm) (c b : Int), vs = [v1, .int c, .int b] ∧ Rp H f.d v1 ∧ f.gd 1000 = true ∧ f.dep ≤ n ∧ f.dep ≤ 50 ∧ f.sg ≤ 5000 ∧ 0 ≤ b ∧ b ≤ 900 ∧
  ∀ (g : Fm) v H', Same H H' → Rp H' g.d v → Loose f b (c % 4).toNat g → Q v H'
theorem spLooser.len {n : Nat} : ∀ vs H Q E, spLooser n vs H Q E → vs.length = 3 := fun vs H Q E ⟨_, _, _, _, e, _⟩ => by rw [e]; rfl
theorem okD_tints (ns : List Int) : okD (.tuple (ns.map PyData.int)) = true := by
  unfold okD
  rw [Bool.and_eq_true]
  refine ⟨lay_ints ns, decide_eq_true ?_⟩
  simp only [PyData.depth, dep_ints]
  omega
/-- t[a:], of a tuple whose slice isn't the whole -/
theorem ev_tail {K : PySem.W.Frag} {σ : L2.St} {H : Hp} {ta : TE} {k : PyData} {ds : List PyData} (h : EvD ta σ H (.tuple (k :: ds))) (hl : ds.length ≤ 1000) : EvD (tSl (rSlA K) ta (tPart (tC (.int 1))) tNoPart) σ H (.tuple ds) := fun H1 s Q q => h H1 s _ fun v H2 s2 r => by
  obtain ⟨a, xs, rfl, ha, hr⟩ := r
  have hx := hr.length
  obtain ⟨v0, rest, rfl, h0, h1⟩ := hr
  have c1 : HT.sIx (v0 :: rest).length 0 (some 1) = 1 := by
    simp [HT.sIx]
  have c2 : HT.sIx (v0 :: rest).length (v0 :: rest).length none = (v0 :: rest).length := rfl
  refine ⟨1, rfl, a, v0 :: rest, rfl, .of ha, fun z => ?_, fun _ p hp => ?_⟩
  · rw [c1] at z; exact absurd z.1 (by decide)
  · have e : cutV (v0 :: rest) (some 1) none = rest := by
      unfold cutV
      rw [c1, c2]
      simp
    rw [e]
    exact q _ _ (s2.trans (Fx.Same.new hp)) ⟨p, rest, rfl, upd_same, h1.mono (Fx.Same.new hp)⟩
/-- t + (k,) -/
theorem ev_catT {K : PySem.W.Frag} {σ : L2.St} {H : Hp} {ta tb : TE} {ds es : List PyData} (ha : EvD ta σ H (.tuple ds)) (hb : EvD tb σ H (.tuple es)) (hl : ds.length + es.length ≤ 1000) : EvD (tOp (rCatA K) ta tb) σ H (.tuple (ds ++ es)) := ev_op ha hb fun H x y hx hy Q q => by
  obtain ⟨a, xs, rfl, ha, hr⟩ := hx
  obtain ⟨b, ys, rfl, hb, hr'⟩ := hy
  refine ⟨a, b, xs, ys, rfl, rfl, .of ha, .of hb, by rw [hr.length, hr'.length]; exact le1000 hl, fun e => ?_, fun _ e => ?_, fun _ _ p hp => ?_⟩
  · subst e
    have : ds = [] := by have := hr.length; simpa using this.symm
    subst this
    exact q _ H (Same.refl _) ⟨b, ys, rfl, hb, hr'⟩
  · subst e
    have : es = [] := by have := hr'.length; simpa using this.symm
    subst this
    rw [List.append_nil] at *
    exact q _ H (Same.refl _) ⟨a, xs, rfl, ha, hr⟩
  · exact q _ _ (Fx.Same.new hp) ⟨p, xs ++ ys, rfl, upd_same, (hr.append hr').mono (Fx.Same.new hp)⟩
/-- xs[i] = e, i reckoned -/
theorem w_ssetLi {σ : L2.St} {H : Hp} {i : Nat} {a : Addr} {xs : List V} {d : PyData} {k : Int} {j : Nat} {te ti : TE} {u : TS} {D : Ends} (h : σ[i]? = some (some (.ref a))) (ha : H a = some (.lst xs)) (he : EvD te σ H d) (hi : EvD ti σ H (.int k)) (hk : ixN xs.length k = some j)
    (q : ∀ v H1, Same H H1 → Rp H1 d v → u D σ (upd H1 a (.lst (xs.set j v)))) : tSeq (tAsg te (gSub (tVar i) ti rSetL)) u D σ H := by
  refine he H (Same.refl _) _ fun v H1 s r => ⟨.ref a, h, hi H1 s _ fun y H2 s2 r2 => ?_⟩
  cases (show y = V.int k from r2)
  exact ⟨a, xs, k, j, rfl, rfl, (s.trans s2) _ _ ha, hk, q v H2 (s.trans s2) (r.mono s2)⟩
/-- a comprehension whose block changes things -/
theorem w_lc {σ : L2.St} {H : Hp} {wi : TI} {tt : TT} {te : TE} {j : Nat} {ds : List PyData} {Q : VK} (hi : EvI wi σ H ds) (body : ∀ H1 D, Same H H1 → H1 D = none → ∃ Pv : Nat → List V → Hp → Prop, Pv 0 [] (upd H1 D (.lst [])) ∧ (∀ i acc H', Pv i acc H' → KT H1 H') ∧
      (∀ i d x acc H' H2 (Nx : Hp → Prop), ds[i]? = some d → Pv i acc H' → Same H' H2 → Rp H2 d x → (∀ acc' H3, Pv (i + 1) acc' H3 → Nx H3) → tt ((σ.set j none).set j (some x)) H2 fun b H3 => if b = true then te ((σ.set j none).set j (some x)) H3 fun y H4 => ∃ acc, H4 D = some (.lst acc) ∧ acc.length < sizeLine ∧ Nx (upd H4 D (.lst (acc ++ [y]))) else Nx H3) ∧
      (∀ acc H', Pv ds.length acc H' → Q (.ref D) H')) : tLc wi (gName j) tt te [j] σ H Q := by
  refine hi H (Same.refl _) _ fun J H2 Ok s2 ok cl Y => fun D hD => ?_
  obtain ⟨Pv, p0, pk, ps, pd⟩ := body H2 D s2 hD
  refine ⟨fun i m H' => m = ds.length - i ∧ i ≤ ds.length ∧ ∃ acc, Pv i acc H', ⟨_, rfl, Nat.zero_le _, [], p0⟩, ?_⟩
  rintro i m H' ⟨rfl, hle, acc, p⟩
  have ok' : Ok H' := cl _ _ ok (pk _ _ _ p)
  by_cases hlt : i < ds.length
  · refine .inr ⟨Y.go i H' ok' hlt, fun H' => i + 1 ≤ ds.length ∧ ∃ acc, Pv (i + 1) acc H', fun H'' h => ⟨_, by omega, rfl, h⟩, fun v H4 y => ?_⟩
    obtain ⟨s4, d, ed, rd⟩ := Y.yld i H' v H4 ok' hlt y
    exact ⟨wipe1, ps i d v acc H' H4 _ ed p s4 rd fun acc' H3 p3 => ⟨hlt, acc', p3⟩⟩
  · have e : i = ds.length := by omega
    subst e
    exact .inl ⟨Y.stop _ H' ok' (Nat.le_refl _), pd acc H' p⟩
mutual
theorem fill_sg {m : FI} {k : Nat} (hk : 1 ≤ k) (h : ∀ p, p ∈ m → p.2.sg ≤ k) : ∀ f : Fm, (fill m f).sg ≤ f.sg * k
  | .gap n => by
    rw [fill]
    cases e : lk m n with
    | none => simp only [Option.getD, Fm.sg]; omega
    | some g => have := h _ (lk_mem e); simp only [Option.getD, Fm.sg] at *; omega
  | .tie w ps => by
    have := fillL_sg hk h ps
    simp only [fill, Fm.sg]
    rw [Nat.add_mul]
    omega
theorem fillL_sg {m : FI} {k : Nat} (hk : 1 ≤ k) (h : ∀ p, p ∈ m → p.2.sg ≤ k) : ∀ fs : List Fm, Fm.sgL (fillL m fs) ≤ Fm.sgL fs * k
  | [] => by simp [fillL, Fm.sgL]
  | f :: fs => by
    have := fill_sg hk h f
    have := fillL_sg hk h fs
    simp only [fillL, Fm.sgL]
    rw [Nat.add_mul]
    omega
end
/-- a form that may be handled: right, not too deep, not too large -/
structure Gd (f : Fm) (d s : Nat) : Prop where
  gd : f.gd 1000 = true
  dep : f.dep ≤ d
  sg : f.sg ≤ s
theorem Gd.ok {f : Fm} {d s : Nat} (h : Gd f d s) : f.ok = true := Fm.gd_ok h.gd
theorem Gd.mono {f : Fm} {d s d' s' : Nat} (h : Gd f d s) (h1 : d ≤ d') (h2 : s ≤ s') : Gd f d' s' := ⟨h.gd, Nat.le_trans h.dep h1, Nat.le_trans h.sg h2⟩
theorem Gd.fill {f : Fm} {d s : Nat} (h : Gd f d s) {m : FI} {ns : List Int} {many : Int} {deep k : Nat} (dm : Drawn m ns many deep) (hm : many ≤ 1000) (hk : 1 ≤ k) (hs : ∀ p, p ∈ m → p.2.sg ≤ k) : Gd (Fx.fill m f) (d + deep) (s * k) :=
  ⟨fill_gd (Int.le_refl _) (fun p hp => Fm.gd_mono hm (dm.2 p hp).1) f h.gd, Nat.le_trans (fill_dep (fun p hp => (dm.2 p hp).2.1) f) (by have := h.dep; omega), Nat.le_trans (fill_sg hk hs f) (Nat.mul_le_mul_right _ h.sg)⟩
theorem Gd.loose {f g : Fm} {d s : Nat} (h : Gd f d s) {b : Int} {k : Nat} (l : Loose f b k g) (h0 : 0 ≤ b) (h1 : b + k ≤ 1000) : Gd g d s := by
  obtain ⟨a1, a2, a3⟩ := l.inv h0 h1 h.gd
  have := h.dep
  have := h.sg
  exact ⟨a1, by omega, by omega⟩
/-- _law_other(form, cell, second) of law k05 -/
def spOther (n : Nat) : Sp := fun vs H Q _ => ∃ (v1 : V) (f : Fm) (c c2 : Int), vs = [v1, .int c, .int c2] ∧ Rp H f.d v1 ∧ Gd f 5 50 ∧ ∀ (g : Fm) v H', Same H H' → Rp H' g.d v → Gd g 10 2000 → Q v H'
theorem spOther.len {n : Nat} : ∀ vs H Q E, spOther n vs H Q E → vs.length = 3 := fun vs H Q E ⟨_, _, _, _, e, _⟩ => by rw [e]; rfl
/-- _law_told(one, other) -/
def spTold : Sp := spP fun ds r => ∃ f g : Fm, ds = [f.d, g.d] ∧ r = .bool true ∧ Gd f 10 2000 ∧ Gd g 10 2000
theorem spTold.len : ∀ vs H Q E, spTold vs H Q E → vs.length = 2 := spP.len fun ds d ⟨f, g, e, _⟩ => by rw [e]; rfl
/-- return len([.. for .. if ..]) == 0, the block changing things -/
theorem w_retlc {K : PySem.W.Frag} {σ : L2.St} {H : Hp} {wi : TI} {tt : TT} {te : TE} {j : Nat} {ds : List PyData} {E : Ends} (hi : EvI wi σ H ds) (body : ∀ H1 D, Same H H1 → H1 D = none → ∃ Pv : Nat → List V → Hp → Prop, Pv 0 [] (upd H1 D (.lst [])) ∧ (∀ i acc H', Pv i acc H' → KT H1 H') ∧
      (∀ i d x acc H' H2 (Nx : Hp → Prop), ds[i]? = some d → Pv i acc H' → Same H' H2 → Rp H2 d x → (∀ acc' H3, Pv (i + 1) acc' H3 → Nx H3) → tt ((σ.set j none).set j (some x)) H2 fun b H3 => if b = true then te ((σ.set j none).set j (some x)) H3 fun y H4 => ∃ acc, H4 D = some (.lst acc) ∧ acc.length < sizeLine ∧ Nx (upd H4 D (.lst (acc ++ [y]))) else Nx H3) ∧
      (∀ acc H', Pv ds.length acc H' → H' D = some (.lst acc) ∧ E.rt (.bl acc.isEmpty) H')) : tRet (tOp rEqP (tCB (rLen K) (tCons (tLc wi (gName j) tt te [j]) tNil)) (tC (.int 0))) E σ H := by
  unfold tRet tOp tCB tCons
  refine w_lc hi fun H1 D s hD => ?_
  obtain ⟨Pv, p0, pk, ps, pd⟩ := body H1 D s hD
  refine ⟨Pv, p0, pk, ps, fun acc H' p => ?_⟩
  obtain ⟨eD, q⟩ := pd acc H' p
  refine ⟨.ref D, acc.length, rfl, .inl ⟨acc, .of eD, rfl⟩, .int acc.length, .int 0, rfl, rfl, rfl, rfl, ?_⟩
  have e : (PyData.int (acc.length : Int)).eqv (.int 0) = acc.isEmpty := by
    cases acc with
    | nil => rfl
    | cons x acc => simp [PyData.eqv]; omega
  rw [e]
  exact q
theorem imm_ints : ∀ ns : List Int, imm (.tuple (ns.map PyData.int)) = true := fun ns => by
  simp only [imm]
  exact immL_of fun d hd => by obtain ⟨_, _, rfl⟩ := List.mem_map.mp hd; rfl
theorem imm_encP (x : List Int × Fm) : imm (encP x) = true := by
  simp only [encP, imm, immL, Bool.and_eq_true]
  exact ⟨by have := imm_ints x.1; simpa only [imm] using this, Fm.imm_d _, trivial⟩
theorem RpL.set {H : Hp} : ∀ {ds : List PyData} {vs : List V} {d : PyData} {v : V}, RpL H ds vs → Rp H d v → ∀ i, RpL H (ds.set i d) (vs.set i v)
  | [], _, d, v, h, _, i => by rw [show _ = [] from h]; rfl
  | e :: ds, _, d, v, ⟨w, r, ev, h, t⟩, q, 0 => by subst ev; exact ⟨v, r, rfl, q, t⟩
  | e :: ds, _, d, v, ⟨w, r, ev, h, t⟩, q, i + 1 => by subst ev; exact ⟨w, r.set i v, rfl, h, RpL.set t q i⟩
/-- spots = _law_spots(form, (), []) -/
theorem w_sspots {σ : L2.St} {H : Hp} {i n : Nat} {tf : TE} {u : TS} {D : Ends} {E : XK} {g : Fm} (h : EvD tf σ H g.d) (okg : g.ok = true) (h1 : g.dep ≤ n) (h2 : g.dep ≤ 100) (h3 : g.sg ≤ 50000)
    (q : ∀ l ys H1, Same H H1 → H l = none → H1 l = some (.lst ys) → RpL H1 ((spo g []).map encP) ys → u D (σ.set i (some (.ref l))) H1) : tSeq (tAsg (tCall (spSpots n) [] E (tCons tf (tCons (tTup tNil) (tCons (tLst tNil) tNil)))) (gName i)) u D σ H := by
  refine h H (Same.refl _) _ fun v H3 s3 rg3 => ⟨Nat.zero_le _, fun t ht => ⟨Nat.zero_le _, fun l hl => ?_⟩⟩
  have s4 : Same H3 (upd H3 t (.tup [])) := Fx.Same.new ht
  have e4 : (upd H3 t (.tup [])) t = some (.tup []) := upd_same
  have s5 : Same (upd H3 t (.tup [])) (upd (upd H3 t (.tup [])) l (.lst [])) := Fx.Same.new hl
  have s35 := s4.trans s5
  refine ⟨v, .ref t, l, [], g, [], rfl, rg3.mono s35, ⟨t, [], rfl, s5 _ _ e4, rfl⟩, upd_same, okg, h1, by simpa using h2, by simpa using h3, fun ys H6 k6 e6 r6 => ?_⟩
  have hl3 : H3 l = none := s4.free hl
  have s36 : Same H3 H6 := fun b o hb => k6 b o (ne_of_none hb hl3) (s35 _ _ hb)
  exact q l ys H6 (s3.trans s36) (s3.free hl3) (by simpa using e6) r6
section
variable {X : Cx} {K : PySem.W.Frag}
theorem ix_tupK (h : X.K = K := by rfl) : IxR X (rIxT K) := h ▸ ix_tup
theorem ix_listK (h : X.K = K := by rfl) : IxR X (rIxL K) := h ▸ ix_list
theorem cr_tupleK (h : X.K = K := by rfl) : CallR X (.type "tuple") (rTupleOf K) := h ▸ cr_tuple
theorem cr_listK (h : X.K = K := by rfl) : CallR X (.type "list") (rListOf K) := h ▸ cr_list
theorem cr_lenK (h : X.K = K := by rfl) : CallR X (.builtin "len") (rLen K) := h ▸ cr_len
theorem cr_isiK (h : X.K = K := by rfl) : CallR X (.builtin "isinstance") (rIsi K) := h ▸ call_isi
end
end Fx
/-! FxO: substitutions: covering, alikeness, ranks (no program in sight). -/
namespace Fx
open PySem L2 PySem.Spec PyProof.Rows
mutual
def sub (s : Int → Fm) : Fm → Fm
  | .gap k => s k
  | .tie w ps => .tie w (subL s ps)
def subL (s : Int → Fm) : List Fm → List Fm
  | [] => []
  | f :: fs => sub s f :: subL s fs
end
theorem subL_map (s : Int → Fm) : ∀ fs : List Fm, subL s fs = fs.map (sub s)
  | [] => rfl
  | f :: fs => by rw [subL, subL_map s fs]; rfl
theorem subL_len (s : Int → Fm) (fs : List Fm) : (subL s fs).length = fs.length := by rw [subL_map, List.length_map]
/-- what a filling has at a gap -/
def lkd (m : FI) (k : Int) : Fm := (lk m k).getD (.gap k)
mutual
theorem fill_sub (m : FI) : ∀ f : Fm, fill m f = sub (lkd m) f
  | .gap k => rfl
  | .tie w ps => by rw [fill, sub, fillL_sub m ps]
theorem fillL_sub (m : FI) : ∀ fs : List Fm, fillL m fs = subL (lkd m) fs
  | [] => rfl
  | f :: fs => by rw [fillL, subL, fill_sub m f, fillL_sub m fs]
end
mutual
theorem rn_sub (r : Int → Int) : ∀ f : Fm, rn r f = sub (fun k => .gap (r k)) f
  | .gap k => rfl
  | .tie w ps => by rw [rn, sub, rnL_sub r ps]
theorem rnL_sub (r : Int → Int) : ∀ fs : List Fm, rnL r fs = subL (fun k => .gap (r k)) fs
  | [] => rfl
  | f :: fs => by rw [rnL, subL, rn_sub r f, rnL_sub r fs]
end
mutual
theorem sub_sub (s t : Int → Fm) : ∀ f : Fm, sub t (sub s f) = sub (fun k => sub t (s k)) f
  | .gap k => rfl
  | .tie w ps => by simp only [sub]; rw [subL_subL s t ps]
theorem subL_subL (s t : Int → Fm) : ∀ fs : List Fm, subL t (subL s fs) = subL (fun k => sub t (s k)) fs
  | [] => rfl
  | f :: fs => by simp only [subL]; rw [sub_sub s t f, subL_subL s t fs]
end
mutual
theorem sub_congr {s t : Int → Fm} : ∀ f : Fm, (∀ k, k ∈ ag f → s k = t k) → sub s f = sub t f
  | .gap k, h => h k (by simp [ag])
  | .tie w ps, h => by simp only [sub]; rw [subL_congr ps h]
theorem subL_congr {s t : Int → Fm} : ∀ fs : List Fm, (∀ k, k ∈ agL fs → s k = t k) → subL s fs = subL t fs
  | [], _ => rfl
  | f :: fs, h => by
    simp only [subL]
    rw [sub_congr f fun k hk => h k (by simp [agL, hk]), subL_congr fs fun k hk => h k (by simp [agL, hk])]
end
mutual
theorem sub_inj {s t : Int → Fm} : ∀ f : Fm, sub s f = sub t f → ∀ k, k ∈ ag f → s k = t k
  | .gap j, h, k, hk => by simp [ag] at hk; subst hk; exact h
  | .tie w ps, h, k, hk => by
    simp only [sub] at h
    injection h with _ h
    exact subL_inj ps h k hk
theorem subL_inj {s t : Int → Fm} : ∀ fs : List Fm, subL s fs = subL t fs → ∀ k, k ∈ agL fs → s k = t k
  | [], _, k, hk => by simp [agL] at hk
  | f :: fs, h, k, hk => by
    simp only [subL] at h
    injection h with h1 h2
    rcases List.mem_append.mp hk with hk | hk
    · exact sub_inj f h1 k hk
    · exact subL_inj fs h2 k hk
end
mutual
theorem sub_gap : ∀ f : Fm, sub .gap f = f
  | .gap _ => rfl
  | .tie w ps => by simp only [sub]; rw [subL_gap ps]
theorem subL_gap : ∀ fs : List Fm, subL .gap fs = fs
  | [] => rfl
  | f :: fs => by simp only [subL]; rw [sub_gap f, subL_gap fs]
end
mutual
theorem ag_sub (s : Int → Fm) : ∀ f : Fm, ag (sub s f) = (ag f).flatMap fun k => ag (s k)
  | .gap k => by simp [sub, ag]
  | .tie w ps => by simp only [sub, ag]; exact agL_sub s ps
theorem agL_sub (s : Int → Fm) : ∀ fs : List Fm, agL (subL s fs) = (agL fs).flatMap fun k => ag (s k)
  | [] => rfl
  | f :: fs => by simp only [subL, agL, List.flatMap_append]; rw [ag_sub s f, agL_sub s fs]
end
mutual
theorem sg_sub (s : Int → Fm) : ∀ f : Fm, ((sub s f).sg : Int) = f.sg + ((ag f).map fun k => ((s k).sg : Int) - 1).sum
  | .gap k => by simp [sub, ag, Fm.sg]; omega
  | .tie w ps => by
    have := sgL_sub s ps
    simp only [sub, ag, Fm.sg]
    omega
theorem sgL_sub (s : Int → Fm) : ∀ fs : List Fm, ((Fm.sgL (subL s fs) : Nat) : Int) = Fm.sgL fs + ((agL fs).map fun k => ((s k).sg : Int) - 1).sum
  | [] => rfl
  | f :: fs => by
    have h1 := sg_sub s f
    have h2 := sgL_sub s fs
    simp only [subL, agL, Fm.sgL, List.map_append, List.sum_append]
    omega
end
/-! ### matched finds just the substitutions -/
def tab (s : Int → Fm) (l : List Int) : FI := l.map fun k => (k, s k)
theorem tab_keys (s : Int → Fm) (l : List Int) : (tab s l).map (·.1) = l := by
  unfold tab; rw [List.map_map]; exact List.map_id _
theorem lk_tab {s : Int → Fm} {k : Int} : ∀ {l : List Int}, k ∈ l → lk (tab s l) k = some (s k)
  | a :: l, h => by
    by_cases e : a = k
    · subst e; simp [tab, lk]
    · have hk : k ∈ l := by rcases List.mem_cons.mp h with rfl | h; exact absurd rfl e; exact h
      have := lk_tab (s := s) hk
      simpa [tab, lk, e] using this
theorem lk_tab_none {s : Int → Fm} {k : Int} {l : List Int} (h : ¬ k ∈ l) : lk (tab s l) k = none := lk_none_of (by rw [tab_keys]; exact h)
mutual
theorem mt_sub (s : Int → Fm) : ∀ (f : Fm) (l : List Int), mt f (sub s f) (tab s l) = (true, tab s (insL l (ag f)))
  | .gap k, l => by
    simp only [sub, mt, ag, insL_cons, insL_nil]
    by_cases h : k ∈ l
    · rw [lk_tab h, ins_in h]; simp
    · rw [lk_tab_none h, ins_out h]
      have : pt (tab s l) k (s k) = tab s (l ++ [k]) := by rw [pt_new (by rw [tab_keys]; exact h)]; simp [tab]
      simp [this]
  | .tie w ps, l => by
    simp only [sub, mt, ag]
    rw [if_pos ⟨trivial, (subL_len s ps).symm⟩]
    exact mtL_sub s ps l
theorem mtL_sub (s : Int → Fm) : ∀ (fs : List Fm) (l : List Int), mtL fs (subL s fs) (tab s l) = (true, tab s (insL l (agL fs)))
  | [], l => rfl
  | f :: fs, l => by
    simp only [subL, mtL, agL, insL_append]
    rw [mt_sub s f l]
    exact mtL_sub s fs _
end
theorem mt_sub0 (s : Int → Fm) (f : Fm) : mt f (sub s f) [] = (true, tab s (gp f)) := mt_sub s f []
mutual
theorem mt_sound : ∀ (f g : Fm) (m : FI), (mt f g m).1 = true → (∀ k h, lk m k = some h → lk (mt f g m).2 k = some h) ∧ ∀ m' : FI, (∀ k h, lk (mt f g m).2 k = some h → lk m' k = some h) → sub (lkd m') f = g
  | .gap k, g, m, h => by
    simp only [mt] at h ⊢
    cases e : lk m k with
    | none =>
      rw [e] at h
      refine ⟨fun j x hx => ?_, fun m' hm => ?_⟩
      · rw [lk_pt, if_neg (fun z => by subst z; rw [e] at hx; cases hx)]; exact hx
      · have := hm k g (by rw [lk_pt, if_pos rfl])
        simp [sub, lkd, this]
    | some x =>
      rw [e] at h
      have hx : x = g := of_decide_eq_true h
      subst hx
      refine ⟨fun _ _ hx => hx, fun m' hm => ?_⟩
      simp [sub, lkd, hm k x e]
  | .tie _ _, .gap _, m, h => by simp only [mt] at h; cases h
  | .tie w ps, .tie v qs, m, h => by
    simp only [mt] at h ⊢
    by_cases c : w = v ∧ ps.length = qs.length
    · rw [if_pos c] at h ⊢
      obtain ⟨h1, h2⟩ := mtL_sound ps qs m c.2 h
      refine ⟨h1, fun m' hm => ?_⟩
      simp only [sub]
      rw [h2 m' hm, c.1]
    · rw [if_neg c] at h; cases h
theorem mtL_sound : ∀ (fs gs : List Fm) (m : FI), fs.length = gs.length → (mtL fs gs m).1 = true → (∀ k h, lk m k = some h → lk (mtL fs gs m).2 k = some h) ∧ ∀ m' : FI, (∀ k h, lk (mtL fs gs m).2 k = some h → lk m' k = some h) → subL (lkd m') fs = gs
  | [], [], m, _, _ => ⟨fun _ _ h => h, fun _ _ => rfl⟩
  | f :: fs, g :: gs, m, hl, h => by
    simp only [mtL] at h ⊢
    rcases q : mt f g m with ⟨b, m1⟩
    rw [q] at h
    cases b with
    | false => cases h
    | true =>
      have a := mt_sound f g m (by rw [q])
      rw [q] at a
      obtain ⟨c1, c2⟩ := mtL_sound fs gs m1 (by simpa using hl) h
      refine ⟨fun k x hx => c1 k x (a.1 k x hx), fun m' hm => ?_⟩
      simp only [subL]
      rw [a.2 m' fun k x hx => hm k x (c1 k x hx), c2 m' hm]
end
theorem mt_iff {f g : Fm} : (mt f g []).1 = true ↔ ∃ s, sub s f = g :=
  ⟨fun h => ⟨_, (mt_sound f g [] h).2 _ fun _ _ h => h⟩, fun ⟨s, e⟩ => by rw [← e, mt_sub0]⟩
/-! ### alike -/
theorem ix_map {r : Int → Int} {k : Int} : ∀ {l : List Int}, (∀ a, a ∈ l → ∀ b, b ∈ l → r a = r b → a = b) → k ∈ l → ix (l.map r) (r k) = ix l k
  | a :: l, h, hk => by
    unfold ix
    rw [List.map_cons, List.idxOf_cons, List.idxOf_cons]
    by_cases e : a = k
    · subst e; simp
    · have hk' : k ∈ l := by rcases List.mem_cons.mp hk with rfl | h; exact absurd rfl e; exact h
      have e2 : ¬ r a = r k := fun z => e (h a (by simp) k hk z)
      have ih := ix_map (l := l) (fun x hx y hy => h x (by simp [hx]) y (by simp [hy])) hk'
      unfold ix at ih
      have b1 : (a == k) = false := by simpa using e
      have b2 : (r a == r k) = false := by simpa using e2
      rw [b1, b2]
      simp only [cond_false]
      omega
theorem insL_map {r : Int → Int} : ∀ {ns l : List Int}, (∀ a, a ∈ l ++ ns → ∀ b, b ∈ l ++ ns → r a = r b → a = b) → insL (l.map r) (ns.map r) = (insL l ns).map r
  | [], l, _ => rfl
  | n :: ns, l, h => by
    rw [List.map_cons, insL_cons, insL_cons]
    have e : ins (l.map r) (r n) = (ins l n).map r := by
      by_cases hn : n ∈ l
      · rw [ins_in hn, ins_in (List.mem_map.mpr ⟨n, hn, rfl⟩)]
      · have : ¬ r n ∈ l.map r := fun z => by
          obtain ⟨a, ha, e⟩ := List.mem_map.mp z
          exact hn (h a (by simp [ha]) n (by simp) e ▸ ha)
        rw [ins_out hn, ins_out this, List.map_append]; rfl
    rw [e]
    refine insL_map fun a ha b hb => h a ?_ b ?_
    · rcases List.mem_append.mp ha with ha | ha
      · rcases mem_ins.mp ha with ha | rfl <;> simp [*]
      · simp [ha]
    · rcases List.mem_append.mp hb with hb | hb
      · rcases mem_ins.mp hb with hb | rfl <;> simp [*]
      · simp [hb]
theorem ag_rn (r : Int → Int) (f : Fm) : ag (rn r f) = (ag f).map r := by
  rw [rn_sub, ag_sub]
  simp only [ag]
  induction ag f with
  | nil => rfl
  | cons a l ih => simp [ih]
/-- injective on the gaps -/
def InjG (r : Int → Int) (f : Fm) : Prop := ∀ a, a ∈ ag f → ∀ b, b ∈ ag f → r a = r b → a = b
theorem gp_rn {r : Int → Int} {f : Fm} (h : InjG r f) : gp (rn r f) = (gp f).map r := by
  unfold gp
  rw [ag_rn]
  exact insL_map (l := []) h
theorem rn_rn (r q : Int → Int) (f : Fm) : rn q (rn r f) = rn (fun k => q (r k)) f := by
  simp only [rn_sub, sub_sub, sub]
theorem rn_congr {r q : Int → Int} {f : Fm} (h : ∀ k, k ∈ ag f → r k = q k) : rn r f = rn q f := by
  rw [rn_sub, rn_sub]
  exact sub_congr f fun k hk => by rw [h k hk]
theorem pl_rn {r : Int → Int} {f : Fm} (h : InjG r f) : pl (rn r f) = pl f := by
  unfold pl
  rw [gp_rn h, rn_rn]
  refine rn_congr fun k hk => ?_
  exact ix_map (fun a ha b hb => h a (mem_gp.mp ha) b (mem_gp.mp hb)) (mem_gp.mpr hk)
theorem ix_get {l : List Int} {k : Int} (h : k ∈ l) : l.getD (ix l k).toNat 0 = k := by
  unfold ix
  have hlt := List.idxOf_lt_length_of_mem h
  rw [show ((l.idxOf k : Nat) : Int).toNat = l.idxOf k by omega]
  rw [List.getD_eq_getElem?_getD, List.getElem?_eq_getElem hlt]
  simp
theorem ix_inj {l : List Int} {a b : Int} (ha : a ∈ l) (hb : b ∈ l) (h : ix l a = ix l b) : a = b := by
  rw [← ix_get ha, h, ix_get hb]
theorem pl_inj (f : Fm) : InjG (ix (gp f)) f := fun a ha b hb e => ix_inj (mem_gp.mpr ha) (mem_gp.mpr hb) e
theorem pl_back (f : Fm) : rn (fun j => (gp f).getD j.toNat 0) (pl f) = f := by
  unfold pl
  rw [rn_rn]
  have : rn (fun k => (gp f).getD (ix (gp f) k).toNat 0) f = rn (fun k => k) f := rn_congr fun k hk => ix_get (mem_gp.mpr hk)
  rw [this, rn_sub]
  exact sub_gap f
theorem pl_pl (f : Fm) : pl (pl f) = pl f := pl_rn (pl_inj f)
/-- alike forms cover one another -/
theorem sub_of_pl {f g : Fm} (h : pl f = pl g) : ∃ s, sub s f = g := by
  refine ⟨fun k => .gap ((gp g).getD (ix (gp f) k).toNat 0), ?_⟩
  rw [← rn_sub]
  have e := rn_rn (ix (gp f)) (fun j => (gp g).getD j.toNat 0) f
  rw [← e]
  show rn (fun j => (gp g).getD j.toNat 0) (pl f) = g
  rw [h, pl_back]
/-- forms that cover one another are alike -/
theorem pl_of_subs {f g : Fm} {s t : Int → Fm} (h1 : sub s f = g) (h2 : sub t g = f) : pl f = pl g := by
  have e : sub (fun k => sub t (s k)) f = sub .gap f := by rw [← sub_sub, h1, h2, sub_gap]
  have hk := sub_inj f e
  let r : Int → Int := fun k => match s k with
    | .gap j => j
    | .tie _ _ => 0
  have hr : ∀ k, k ∈ ag f → s k = .gap (r k) := fun k hk' => by
    have := hk k hk'
    simp only [r]
    cases q : s k with
    | gap j => rfl
    | tie w ps => rw [q] at this; simp [sub] at this
  have hg : g = rn r f := by rw [← h1, rn_sub]; exact sub_congr f hr
  have inj : InjG r f := fun a ha b hb e => by
    have ea := hk a ha
    have eb := hk b hb
    rw [hr a ha] at ea
    rw [hr b hb] at eb
    simp only [sub] at ea eb
    rw [e, eb] at ea
    injection ea with ea
    exact ea.symm
  rw [hg, pl_rn inj]
theorem pl_iff {f g : Fm} : pl f = pl g ↔ (∃ s, sub s f = g) ∧ ∃ t, sub t g = f :=
  ⟨fun h => ⟨sub_of_pl h, sub_of_pl h.symm⟩, fun ⟨⟨_, h1⟩, ⟨_, h2⟩⟩ => pl_of_subs h1 h2⟩
/-! ### ranks -/
theorem gp_len_pl (f : Fm) : (gp (pl f)).length = (gp f).length := by
  unfold pl
  rw [gp_rn (pl_inj f), List.length_map]
theorem rk_pl {f g : Fm} (h : pl f = pl g) : rk f = rk g := by
  have e1 := gp_len_pl f
  have e2 := gp_len_pl g
  have e3 := pl_sg f
  have e4 := pl_sg g
  rw [h] at e1 e3
  unfold rk
  omega
theorem sum_ins {h : Int → Int} (h0 : ∀ k, 0 ≤ h k) : ∀ (ns l : List Int), ((insL l ns).map h).sum ≤ (l.map h).sum + (ns.map h).sum
  | [], l => by simp [insL_nil]
  | n :: ns, l => by
    have ih := sum_ins h0 ns (ins l n)
    have : ((ins l n).map h).sum ≤ (l.map h).sum + h n := by
      unfold ins
      split
      · have := h0 n; omega
      · simp
    rw [insL_cons]
    simp only [List.map_cons, List.sum_cons]
    omega
theorem sum_gp {h : Int → Int} (h0 : ∀ k, 0 ≤ h k) (f : Fm) : ((gp f).map h).sum ≤ ((ag f).map h).sum := by
  have := sum_ins h0 (ag f) []
  simpa [gp] using this
theorem sg_pos (f : Fm) : 1 ≤ f.sg := by cases f <;> simp [Fm.sg]
theorem gp_tie {w : Str} {ps : List Fm} : (gp (.tie w ps)).length + 1 ≤ (Fm.tie w ps).sg := by
  have h1 := insL_len (ns := ag (.tie w ps)) (l := [])
  have h2 := agL_len ps
  have h3 : (gp (.tie w ps)).length = (insL [] (ag (.tie w ps))).length := rfl
  rw [h3]
  simp only [ag, List.length_nil, Fm.sg] at h1 ⊢
  omega
theorem gp_sub_len (s : Int → Fm) (f : Fm) : ((gp (sub s f)).length : Int) ≤ ((gp f).map fun k => ((gp (s k)).length : Int)).sum := by
  have h1 : (gp (sub s f)).length ≤ ((gp f).flatMap fun k => gp (s k)).length := by
    refine nodup_le (gp_nodup _) fun x hx => ?_
    have := mem_gp.mp hx
    rw [ag_sub] at this
    obtain ⟨k, hk, hx⟩ := List.mem_flatMap.mp this
    exact List.mem_flatMap.mpr ⟨k, mem_gp.mpr hk, mem_gp.mpr hx⟩
  have h2 : ∀ l : List Int, ((l.flatMap fun k => gp (s k)).length : Int) = (l.map fun k => ((gp (s k)).length : Int)).sum := by
    intro l
    induction l with
    | nil => rfl
    | cons a l ih => simp only [List.flatMap_cons, List.length_append, List.map_cons, List.sum_cons, ← ih]; omega
  rw [← h2]
  omega
theorem sum_le {h q : Int → Int} : ∀ l : List Int, (∀ k, k ∈ l → h k ≤ q k) → (l.map h).sum ≤ (l.map q).sum
  | [], _ => Int.le_refl _
  | a :: l, hl => by
    have := sum_le l fun k hk => hl k (by simp [hk])
    have := hl a (by simp)
    simp only [List.map_cons, List.sum_cons]; omega
theorem sum_lt {h q : Int → Int} : ∀ l : List Int, (∀ k, k ∈ l → h k ≤ q k) → (∃ k, k ∈ l ∧ h k < q k) → (l.map h).sum < (l.map q).sum
  | [], _, ⟨k, hk, _⟩ => absurd hk (by simp)
  | a :: l, hl, ⟨k, hk, hlt⟩ => by
    have h1 := sum_le l fun k hk => hl k (by simp [hk])
    have h2 := hl a (by simp)
    simp only [List.map_cons, List.sum_cons]
    rcases List.mem_cons.mp hk with rfl | hk
    · omega
    · have := sum_lt l (fun k hk => hl k (by simp [hk])) ⟨k, hk, hlt⟩
      omega
theorem sum_sub1 (q : Int → Int) : ∀ l : List Int, (l.map fun k => q k - 1).sum = (l.map q).sum - l.length
  | [] => rfl
  | a :: l => by have := sum_sub1 q l; simp only [List.map_cons, List.sum_cons, List.length_cons]; omega
theorem insL_short : ∀ {ns l : List Int}, (insL l ns).length = l.length + ns.length → (∀ n, n ∈ ns → ¬ n ∈ l) ∧ ns.Nodup
  | [], l, _ => ⟨fun n h => absurd h (by simp), List.nodup_nil⟩
  | n :: ns, l, h => by
    rw [insL_cons] at h
    simp only [List.length_cons] at h
    by_cases hn : n ∈ l
    · rw [ins_in hn] at h
      have := insL_len (ns := ns) (l := l)
      omega
    · rw [ins_out hn] at h
      obtain ⟨h1, h2⟩ := insL_short (ns := ns) (l := l ++ [n]) (by simp at h ⊢; omega)
      refine ⟨fun x hx => ?_, List.nodup_cons.mpr ⟨fun z => h1 n z (by simp), h2⟩⟩
      rcases List.mem_cons.mp hx with rfl | hx
      · exact hn
      · exact fun z => h1 x hx (by simp [z])
theorem inj_of_nodup {r : Int → Int} : ∀ {l : List Int}, (l.map r).Nodup → ∀ a, a ∈ l → ∀ b, b ∈ l → r a = r b → a = b
  | x :: l, h, a, ha, b, hb, e => by
    have h' : (r x :: l.map r).Nodup := h
    obtain ⟨h1, h2⟩ := List.nodup_cons.mp h'
    rcases List.mem_cons.mp ha with ha | ha
    · rcases List.mem_cons.mp hb with hb | hb
      · rw [ha, hb]
      · exact absurd (List.mem_map.mpr ⟨b, hb, by rw [← ha, e]⟩) h1
    · rcases List.mem_cons.mp hb with hb | hb
      · exact absurd (List.mem_map.mpr ⟨a, ha, by rw [← hb, e]⟩) h1
      · exact inj_of_nodup h2 a ha b hb e
/-- who covers has no greater rank; the same rank just where it is alike -/
theorem rk_sub (s : Int → Fm) (f : Fm) : rk f ≤ rk (sub s f) ∧ (pl f ≠ pl (sub s f) → rk f < rk (sub s f)) := by
  have hs := sg_sub s f
  have hl := gp_sub_len s f
  have h1 := sum_gp (h := fun k => ((s k).sg : Int) - 1) (fun k => by have := sg_pos (s k); omega) f
  have h2 := sum_sub1 (fun k => ((s k).sg : Int)) (gp f)
  by_cases ht : ∃ k, k ∈ gp f ∧ ∃ w ps, s k = .tie w ps
  · obtain ⟨k, hk, w, ps, e⟩ := ht
    have h3 : ((gp f).map fun k => ((gp (s k)).length : Int)).sum < ((gp f).map fun k => ((s k).sg : Int)).sum :=
      sum_lt _ (fun k _ => by have := gp_len (s k); omega) ⟨k, hk, by have := gp_tie (w := w) (ps := ps); rw [e]; omega⟩
    unfold rk
    exact ⟨by omega, fun _ => by omega⟩
  · let r : Int → Int := fun k => match s k with
      | .gap j => j
      | .tie _ _ => 0
    have hr : ∀ k, k ∈ ag f → s k = .gap (r k) := fun k hk => by
      simp only [r]
      cases q : s k with
      | gap j => rfl
      | tie w ps => exact absurd ⟨k, mem_gp.mpr hk, w, ps, q⟩ ht
    have e : sub s f = rn r f := by rw [rn_sub]; exact sub_congr f hr
    rw [e]
    have hsg := rn_sg r f
    have hgl : (gp (rn r f)).length ≤ ((gp f).map r).length := nodup_le (gp_nodup _) fun x hx => by
      have := mem_gp.mp hx
      rw [ag_rn] at this
      obtain ⟨k, hk, rfl⟩ := List.mem_map.mp this
      exact List.mem_map.mpr ⟨k, mem_gp.mpr hk, rfl⟩
    rw [List.length_map] at hgl
    unfold rk
    refine ⟨by omega, fun hne => ?_⟩
    have : (gp (rn r f)).length ≠ (gp f).length := fun he => hne (by
      have hi : InjG r f := by
        have hle : (gp (rn r f)).length ≤ (insL [] ((gp f).map r)).length := nodup_le (gp_nodup _) fun x hx => by
          have := mem_gp.mp hx
          rw [ag_rn] at this
          obtain ⟨k, hk, rfl⟩ := List.mem_map.mp this
          exact mem_insL.mpr (.inr (List.mem_map.mpr ⟨k, mem_gp.mpr hk, rfl⟩))
        have hle2 := insL_len (ns := (gp f).map r) (l := [])
        rw [List.length_map] at hle2
        simp only [List.length_nil, Nat.zero_add] at hle2
        obtain ⟨_, nd⟩ := insL_short (ns := (gp f).map r) (l := []) (by rw [List.length_map]; simp; omega)
        exact fun a ha b hb e => inj_of_nodup nd a (mem_gp.mpr ha) b (mem_gp.mpr hb) e
      rw [pl_rn hi])
    omega
end Fx
/-! FxP: covers as data; forms drawn with a budget; lesser. -/
namespace Fx
open PySem L2 PySem.Spec PyProof.Rows
section
variable {σ : L2.St} {H : Hp} {n : Nat} {t : TA} {E : XK} {f g : Fm}
theorem en_cov (h : EvA t σ H [f.d, g.d]) (h1 : f.ok = true) (h2 : f.dep ≤ n) (h3 : f.sg ≤ 5000) (h4 : g.ok = true) (h5 : g.dep ≤ 90) (e : (mt f g []).1 = true) : EvN (tCall (spCov n) [] E t) σ H (imF (mt f g []).2) := fun H1 s Q q => h H1 s _ fun vs H2 s2 rs => by
  obtain ⟨v1, _, rfl, r1, v2, _, rfl, r2, rfl⟩ := rs
  exact ⟨v1, v2, f, g, rfl, r1, r2, h1, h2, h3, h4, h5, fun _ p ys H' s' hp hp' hr => q p ys H' (s2.trans s') (s2.free hp) hp' hr, fun z => by rw [e] at z; cases z⟩
theorem ev_cov0 (h : EvA t σ H [f.d, g.d]) (h1 : f.ok = true) (h2 : f.dep ≤ n) (h3 : f.sg ≤ 5000) (h4 : g.ok = true) (h5 : g.dep ≤ 90) (e : (mt f g []).1 = false) : EvD (tCall (spCov n) [] E t) σ H .none := fun H1 s Q q => h H1 s _ fun vs H2 s2 rs => by
  obtain ⟨v1, _, rfl, r1, v2, _, rfl, r2, rfl⟩ := rs
  exact ⟨v1, v2, f, g, rfl, r1, r2, h1, h2, h3, h4, h5, (fun z => by rw [e] at z; cases z), fun _ H' s' => q _ H' (s2.trans s') rfl⟩
/-- whether covers hands back a dict, as data -/
theorem ev_covN (h : EvA t σ H [f.d, g.d]) (h1 : f.ok = true) (h2 : f.dep ≤ n) (h3 : f.sg ≤ 5000) (h4 : g.ok = true) (h5 : g.dep ≤ 90) : EvD (tNotN (tCall (spCov n) [] E t)) σ H (.bool (mt f g []).1) := by
  cases e : (mt f g []).1 with
  | true => exact ev_notN (en_cov h h1 h2 h3 h4 h5 e).t.d
  | false => exact ev_notN (ev_cov0 h h1 h2 h3 h4 h5 e)
theorem ev_covI (h : EvA t σ H [f.d, g.d]) (h1 : f.ok = true) (h2 : f.dep ≤ n) (h3 : f.sg ≤ 5000) (h4 : g.ok = true) (h5 : g.dep ≤ 90) : EvD (tIsN (tCall (spCov n) [] E t)) σ H (.bool (!(mt f g []).1)) := by
  cases e : (mt f g []).1 with
  | true => exact ev_isN (en_cov h h1 h2 h3 h4 h5 e).t.d
  | false => exact ev_isN (ev_cov0 h h1 h2 h3 h4 h5 e)
/-- form = _law_form([c, b], many, deep) -/
theorem w_sbudget {i : Nat} {te : TE} {u : TS} {D : Ends} {c b many : Int} {deep : Nat} (h : EvD te σ H (.int c)) (c0 : 0 ≤ c) (c1 : c < 2147483647) (hm : 0 ≤ many) (hd : 1 ≤ deep) (hn : deep ≤ n)
    (q : ∀ (f : Fm) v H1, Same H H1 → Rp H1 f.d v → f.gd many = true → f.dep ≤ deep → (f.sg : Int) ≤ max 1 (b - 4) + 4 * (deep - 1) → u D (σ.set i (some v)) H1) :
    tSeq (tAsg (tCall (spForm n) [] E (tCons (tLst (tCons te (tCons (tC (.int b)) tNil))) (tCons (tC (.int many)) (tCons (tC (.int deep)) tNil)))) (gName i)) u D σ H := by
  refine h H (Same.refl _) _ fun v H1 s1 r1 => ?_
  cases (show v = V.int c from r1)
  refine ⟨by show 2 ≤ sizeLine; decide, fun p hp => ?_⟩
  refine ⟨p, c, b, many, deep, rfl, upd_same, c0, c1, hm, hd, hn, fun f v H' a' k e _ _ r gd dp _ sg => ?_⟩
  exact q f v H' (fun x o hb => k x o (ne_of_none (s1 _ _ hb) hp) (Fx.Same.new hp _ _ (s1 _ _ hb))) r gd dp sg
end
theorem gd_sg2 {many : Int} : ∀ {f : Fm}, f.gd many = true → f.dep ≤ 2 → f.sg ≤ 5
  | .gap _, _, _ => by simp [Fm.sg]
  | .tie w ps, hg, hd => by
    simp only [Fm.gd, Bool.and_eq_true, decide_eq_true_eq] at hg
    have h1 : ∀ p, p ∈ ps → p.sg = 1 := fun p hp => by
      have h2 := Fm.dep_part hp
      simp only [Fm.dep] at hd
      cases p with
      | gap _ => rfl
      | tie v qs =>
        cases qs with
        | nil => rfl
        | cons q qs => have := q.dep_pos; simp only [Fm.dep, Fm.depL] at h2; omega
    have h3 : ∀ l : List Fm, (∀ p, p ∈ l → p.sg = 1) → Fm.sgL l = l.length := by
      intro l
      induction l with
      | nil => intro _; rfl
      | cons a l ih => intro h; simp only [Fm.sgL, List.length_cons, ih fun p hp => h p (by simp [hp]), h a (by simp)]; omega
    simp only [Fm.sg, h3 ps h1]
    omega
/-- _law_lesser(one, other), asked where one covers other -/
def spLesser (n : Nat) : Sp := spP fun ds r => ∃ (f : Fm) (s : Int → Fm), ds = [f.d, (sub s f).d] ∧ r = .bool true ∧ f.ok = true ∧ f.dep ≤ n ∧ f.sg ≤ 5000 ∧ (sub s f).ok = true ∧ (sub s f).dep ≤ n ∧ (sub s f).sg ≤ 5000
theorem spLesser.len {n : Nat} : ∀ vs H Q E, spLesser n vs H Q E → vs.length = 2 := spP.len fun ds d ⟨f, g, e, _⟩ => by rw [e]; rfl
end Fx
/-! FxQ: max(xs, default=d) of a list of whole numbers. -/
namespace PySem
open Sem (wp)
section
variable {prog : Program} {w : World} {A : Around} {R : Result → Shared → Prop} {It : Addr} {f1 f2 : List Addr} {n : Nat} {P : Nat → Value → Prop} {St : Nat → Heap → Prop}
/-- what the loop has kept behind j items -/
def fxKept (P : Nat → Value → Prop) (bt : Nat → Nat → Bool) (j : Nat) (xs : Array Value) : Prop := (j = 0 ∧ xs = #[]) ∨ ∃ i u, j = i + 1 ∧ xs = #[u, u] ∧ P (argBest bt i) u
/-- its answer -/
def fxBest (P : Nat → Value → Prop) (bt : Nat → Nat → Bool) (n : Nat) (d v : Value) : Prop := (n = 0 ∧ v = d) ∨ (0 < n ∧ P (argBest bt (n - 1)) v)
theorem fx_maxD_loop {d : Value} (W : Walks prog w A.in1 It f1 f2 n P St) (bt : Nat → Nat → Bool) (cmp : CmpOf prog w A.in1 .Gt P bt) (B : Addr) (hB : B ∉ f1) : ∀ (k j : Nat) (s : Shared) (xs : Array Value) (c : Nat),
    n - j = k → j ≤ n → St j s.heap → fxKept P bt j xs → s.heap.get? B = some ⟨.type "list", none, .seq xs c, #[]⟩ →
    (∀ v g tk, fxBest P bt n d v → (∀ b o, b ∉ f2 → b ≠ B → s.heap.get? b = some o → g.get? b = some o) → R (.ok (.ret v)) { s with heap := g, toks := tk }) →
    codeAny (model prog w) A (.builtin "max.loop" ⟨[.ref It, .none, .ref B], [((Str.ofString "default"), d)]⟩) R s := by
  have hB2 : B ∉ f2 := fun h => hB (W.sub _ h)
  have nm : (toString "max" ++ toString ".loop" : String) = "max.loop" := by decide
  intro k
  induction k with
  | zero =>
    intro j s xs c ek hj st kp ob out
    have e : j = n := by omega
    subst e
    refine codeAny_builtin F.entry_max_loop ?_
    rw [Around.under_plainId F.plain_max_loop _]
    refine wpAny_bind (wpAny_seqItems ob rfl ?_)
    refine wpAny_bind (wpAny_tryCatch (W.done s _ _ st fun g tk kg => ?_))
    have ob2 := kg B _ hB2 ob
    rcases kp with ⟨rfl, rfl⟩ | ⟨i, u, rfl, rfl, hu⟩
    · refine wpAny_bind (wpAny_rule ?_)
      exact wpAny_pure (out d g tk (.inl ⟨rfl, rfl⟩) fun b o h _ q => kg b o h q)
    · refine wpAny_bind (wpAny_updateSeq ob2 rfl (wpAny_bind (wpAny_letGo (wpAny_pure ?_))))
      exact out u _ tk (.inr ⟨Nat.succ_pos _, hu⟩) fun b o h z q => (Heap.get?_update_other _ _ (Ne.symm z)).trans (kg b o h q)
  | succ k ih =>
    intro j s xs c ek hj st kp ob out
    have lt : j < n := by omega
    refine codeAny_builtin F.entry_max_loop ?_
    rw [Around.under_plainId F.plain_max_loop _]
    refine wpAny_bind (wpAny_seqItems ob rfl ?_)
    refine wpAny_bind (wpAny_tryCatch (W.item j s _ _ lt st fun v g tk hv st2 kg => ?_))
    have ob2 := kg B _ hB2 ob
    have keepF : ∀ (q : Obj → Obj) b, b ∈ f1 → ∀ o, g.get? b = some o → (g.update B q).get? b = some o := fun q b hb o z => (Heap.get?_update_other _ _ (fun h => hB (by rw [h]; exact hb))).trans z
    rcases kp with ⟨rfl, rfl⟩ | ⟨i, u, rfl, rfl, hu⟩
    · refine wpAny_bind (wpAny_pure ?_)
      refine wpAny_bind (show wpAny _ _ (updateSeq B (fun _ => #[v, v])) _ _ _ from ?_)
      refine wpAny_updateSeq ob2 rfl ?_
      rw [nm]
      refine wpAny_pure ⟨plainId_quiet F.plain_max_loop _, ih 1 _ #[v, v] _ (by omega) lt (W.frame _ _ _ st2 (keepF _)) (.inr ⟨0, v, rfl, rfl, hv⟩) (Heap.get?_update_self _ ob2 rfl) fun v' g' tk' b1 b2 => ?_⟩
      exact out v' g' tk' b1 fun b o h z q => b2 b o h z ((Heap.get?_update_other _ _ (Ne.symm z)).trans (kg b o h q))
    · refine wpAny_bind (wpAny_pure ?_)
      refine wpAny_bind (show wpAny _ _ (tryCatch (holding [v, v] (richCompare .Gt v u >>= _)) _) _ _ _ from ?_)
      refine wpAny_tryCatch (wpAny_holding (wpAny_bind (cmp (i + 1) (argBest bt i) v u _ _ _ hv hu ?_)))
      refine wpAny_bind (wpAny_holding (wpAny_truthy_bool ?_))
      refine wpAny_bind (wpAny_letGo (wpAny_pure ?_))
      cases hb : bt (i + 1) (argBest bt i) with
      | true =>
        simp only [if_true]
        refine wpAny_bind (wpAny_updateSeq ob2 rfl (wpAny_bind (wpAny_letGo ?_)))
        rw [nm]
        refine wpAny_pure ⟨plainId_quiet F.plain_max_loop _, ih (i + 2) _ #[v, v] _ (by omega) lt (W.frame _ _ _ st2 (keepF _)) (.inr ⟨i + 1, v, rfl, rfl, by simp only [argBest, hb, if_true]; exact hv⟩) (Heap.get?_update_self _ ob2 rfl) fun v' g' tk' b1 b2 => ?_⟩
        exact out v' g' tk' b1 fun b o h z q => b2 b o h z ((Heap.get?_update_other _ _ (Ne.symm z)).trans (kg b o h q))
      | false =>
        simp only [Bool.false_eq_true, if_false]
        refine wpAny_bind (wpAny_letGo ?_)
        rw [nm]
        refine wpAny_pure ⟨plainId_quiet F.plain_max_loop _, ih (i + 2) _ #[u, u] c (by omega) lt st2 (.inr ⟨i + 1, u, rfl, rfl, by simp only [argBest, hb, Bool.false_eq_true, if_false]; exact hu⟩) ob2 fun v' g' tk' b1 b2 => ?_⟩
        exact out v' g' tk' b1 fun b o h z q => b2 b o h z (kg b o h q)
end
theorem F.fx_args_maxD (a d : Value) : argsOk "max" ⟨[a], [((Str.ofString "default"), d)]⟩ := by unfold argsOk; kernel_rfl
section
variable {prog : Program} {w : World} {A : Around} {E : Value → Shared → Prop} {s : Shared} {l : Addr} {xs : Array (Int × Tok)}
theorem fx_call_kwTree {id : String} {b : Builtin} {args : List Value} {kw : List (Str × Value)} {Q : Value → Shared → Prop} (hk : builtinKind id = none) (hp : plainId id = true) (hb : entryFor table id = some b) (ha : argsOk id ⟨args, kw⟩)
    (hc : wpAny (model prog w) A.in1 (b ⟨args, kw⟩) (fun fin t => match fin with
      | .done f => (match (Except.ok f : Result) with | .ok (.ret v) => Q v t | .ok _ => False | .error e => E e t)
      | .again c => c.quiet = true ∧ codeAny (model prog w) A c (fun r t => match r with | .ok (.ret v) => Q v t | .ok _ => False | .error e => E e t) t) E s) : wpAny (model prog w) A (call (.builtin id) args kw) Q E s := by
  refine wpAny_call (codeAny_call_builtin hp hb ?_)
  simp only [checkBuiltinCall, hk]
  cases sg : Manifest.signature? id with
  | none => exact wpAny_pure hc
  | some sig =>
    have z : Bind.checkArgs id sig ⟨args, kw⟩ = pure () := by simpa only [argsOk, sg] using ha
    show wpAny _ A.in1 (Bind.checkArgs id sig ⟨args, kw⟩) _ _ s
    rw [z]
    exact wpAny_pure hc
theorem fx_maxD {d : Value} {Q : Value → Shared → Prop} (hh : A.handled = none) (hl : s.heap.IsList l (intItems xs))
    (h : ∀ v g tk, fxBest (fun i v => (intItems xs)[i]? = some v) (fun i j => decide (numAt xs i > numAt xs j)) xs.size d v → (∀ b o, s.heap.get? b = some o → g.get? b = some o) → Q v { s with heap := g, toks := tk }) :
    wpAny (model prog w) A (call (.builtin "max") [.ref l] [((Str.ofString "default"), d)]) Q E s := by
  have nm : (toString "max" ++ toString ".loop" : String) = "max.loop" := by decide
  refine fx_call_kwTree F.kind_max F.plain_max F.entry_max (F.fx_args_maxD _ _) ?_
  show wpAny _ A.in1 (Builtin.Builtins.bindParams "max" ["key", "default"] 0 ⟨[], [((Str.ofString "default"), d)]⟩ >>= _) _ _ s
  refine wpAny_bind (wpAny_of_eq (a := [none, some d]) (by first | rfl | kernel_rfl) ?_)
  refine wpAny_bind (wpAny_pure ?_)
  refine wpAny_bind (iter_intList hl fun s2 e st hfp hne => ?_)
  subst e
  refine wpAny_bind (wpAny_newObj_type ?_)
  rw [nm]
  have hB : (s.heap.push { cls := .type "list_iterator", data := .fields #[.ref l, .int 0 0] }).objs.size ∉ [s.heap.objs.size, l] := fun hm => Nat.lt_irrefl _ (hfp _ hm)
  have W := Walks.list (prog := prog) (w := w) (A := A.in1) hh s.heap.objs.size l hne (intItems xs)
  refine wpAny_pure ⟨plainId_quiet F.plain_max_loop _, fx_maxD_loop W _ (CmpOf.ints_gt (numAt xs) (fun _ _ => intItems_at)) _ hB _ 0 _ #[] _ rfl (Nat.zero_le _) (W.frame _ _ _ st fun b _ o q => Heap.get?_push_of_some _ q) (.inl ⟨rfl, rfl⟩) (Heap.get?_push_size _ rfl) fun v g tk hv kg => ?_⟩
  refine h v g tk (by simpa [intItems] using hv) (old_kept fun b o hb q => kg b o hb (Nat.ne_of_lt (Heap.lt_size q)) (Heap.get?_push_of_some _ q))
end
end PySem
/-! FxR: more expressions; own exceptions: raised, caught, asked. -/
namespace Fx
open PySem L2 PySem.Spec PyProof.Rows
/-! ### max(xs, default=d) -/
def rMaxD (K : PySem.W.Frag) : List V → List V → Hp → VK → Prop := fun vs zs H Q => ∃ (a : Addr) (ns : List Int) (d : Int), vs = [.ref a] ∧ zs = [.int d] ∧ SqL K H a (ns.map V.int) ∧
  ∀ m, (ns = [] → m = d) → (ns ≠ [] → m ∈ ns ∧ ∀ y, y ∈ ns → y ≤ m) → Q (.int m) H
theorem cr_maxD {X : Cx} (hc : X.calm = true) : CallRK X (.builtin "max") ["default"] (rMaxD X.K) := by
  intro pins s σ H vs zs us ws Q I r rz h
  obtain ⟨a, ns, d, rfl, rfl, hs, q⟩ := h
  obtain ⟨its, rv, hl, _⟩ := I.list hs
  rw [Vals.ref1 r]
  cases rz with
  | cons ru rn =>
    rename_i u us'
    cases rn
    obtain ⟨t, rfl⟩ := ru
    obtain ⟨xs, e⟩ := rv.ints.allInts.items
    have hn : numsOf (intItems xs).toList = ns := by rw [← e]; exact rv.ints.numsOf
    rw [nums_intItems] at hn
    have hl' := hl.isList
    rw [e] at hl'
    refine fx_maxD (I.ok.hd hc) hl' fun v g tk hv kg => ?_
    have len : ns.length = xs.size := by rw [← hn]; simp
    rcases hv with ⟨h0, rfl⟩ | ⟨h0, hv⟩
    · have e0 : ns = [] := List.length_eq_zero_iff.mp (by rw [len, h0])
      exact ⟨.int d, H, I.kept kg, ⟨_, rfl⟩, q d (fun _ => rfl) fun z => absurd e0 z⟩
    · obtain ⟨t, rfl⟩ := intItems_at hv
      obtain ⟨h1, h2⟩ := argBest_gt (numAt xs) (xs.size - 1)
      refine ⟨.int _, H, I.kept kg, ⟨_, rfl⟩, q _ (fun z => by rw [z] at len; simp at len; omega) fun _ => ⟨?_, fun y hy => ?_⟩⟩
      · rw [← hn, numAt_eq]; exact PySem.getD_mem (by rw [List.length_map, Array.length_toList]; omega)
      · rw [← hn] at hy
        obtain ⟨j, hj, rfl⟩ := mem_getD hy
        rw [List.length_map, Array.length_toList] at hj
        rw [← numAt_eq]; exact h2 j (by omega)
def rMin2 : List V → Hp → VK → Prop := fun xs H Q => ∃ i j, xs = [.int i, .int j] ∧ Q (.int (if j < i then j else i)) H
theorem cr_min2 {X : Cx} (hc : X.calm = true) : CallR X (.builtin "min") rMin2 := call_min2 hc
section
variable {K : PySem.W.Frag} {σ : L2.St} {H : Hp} {ta tb tc te : TE} {ds es : List PyData} {d e f : PyData} {i j k : Int}
theorem ev_maxD {ns : List Int} {m : Int} (h : EvD te σ H (.list (ns.map PyData.int))) (hd : EvD tb σ H (.int d0)) (h0 : ns = [] → m = d0) (h1 : ns ≠ [] → m ∈ ns ∧ ∀ y, y ∈ ns → y ≤ m) : EvD (tCKw (rMaxD K) (tCons te tNil) (tCons tb tNil)) σ H (.int m) := fun H1 s Q q =>
  h H1 s _ fun v H2 s2 r2 => hd H2 (s.trans s2) _ fun u H3 s3 r3 => by
    obtain ⟨a, xs, rfl, ha, hr⟩ := r2.mono s3
    cases (show u = V.int d0 from r3)
    refine ⟨a, ns, d0, rfl, rfl, by rw [← RpL.ints_inv hr]; exact .of ha, fun m' z0 z1 => ?_⟩
    have e : m' = m := by
      by_cases hn : ns = []
      · rw [z0 hn, h0 hn]
      · obtain ⟨a1, a2⟩ := z1 hn
        obtain ⟨b1, b2⟩ := h1 hn
        have := a2 _ b1
        have := b2 _ a1
        omega
    subst e
    exact q _ H3 (s2.trans s3) rfl
/-! ### chains -/
theorem ev_chain {r r' : R2} {b1 b2 : Bool} (ha : EvD ta σ H d) (hb : EvD tb σ H e) (hc : EvD tc σ H f) (h1 : OpD r d e (.bool b1)) (h2 : b1 = true → OpD r' e f (.bool b2)) : EvD (tChain r r' ta tb tc) σ H (.bool (b1 && b2)) := fun H1 s Q q =>
  ha H1 s _ fun x H2 s2 r2 => hb H2 (s.trans s2) _ fun y H3 s3 r3 => h1 H3 x y (r2.mono s3) r3 _ fun z H4 s4 r4 => by
    refine ⟨b1, r4, ?_⟩
    cases b1 with
    | true => exact iteT (hc H4 (((s.trans s2).trans s3).trans s4) _ fun w H5 s5 r5 => h2 rfl H5 y w ((r3.mono s4).mono s5) r5 Q fun v H6 s6 r6 => q v H6 ((((s2.trans s3).trans s4).trans s5).trans s6) r6)
    | false => exact iteF (q _ H4 ((s2.trans s3).trans s4) rfl)
theorem od_le : OpD (rI0 fun i j => .bl (decide (i ≤ j))) (.int i) (.int j) (.bool (decide (i ≤ j))) := od_I0 fun _ => rfl
theorem od_lt : OpD (rI0 fun i j => .bl (decide (i < j))) (.int i) (.int j) (.bool (decide (i < j))) := od_I0 fun _ => rfl
/-! ### texts -/
def rInS : R2 := fun x y H Q => ∃ (c : Nat) (z : Str), x = .str ⟨#[c]⟩ ∧ y = .str z ∧ Q (.bl (decide (c ∈ z.cps.toList))) H
def rNinS : R2 := fun x y H Q => ∃ (c : Nat) (z : Str), x = .str ⟨#[c]⟩ ∧ y = .str z ∧ Q (.bl (!decide (c ∈ z.cps.toList))) H
theorem op_inS {X : Cx} : OpR X (compareOp .In) rInS := op_in_sign
theorem op_ninS {X : Cx} : OpR X (compareOp .NotIn) rNinS := op_notIn_sign
theorem ev_inS {c : Nat} {z : Str} (ha : EvD ta σ H (.str ⟨#[c]⟩)) (hb : EvD tb σ H (.str z)) : EvD (tOp rInS ta tb) σ H (.bool (decide (c ∈ z.cps.toList))) := ev_op ha hb fun H x y hx hy Q q => by
  cases (show x = V.str _ from hx)
  cases (show y = V.str _ from hy)
  exact ⟨c, z, rfl, rfl, q _ H (Same.refl _) rfl⟩
theorem ev_ninS {c : Nat} {z : Str} (ha : EvD ta σ H (.str ⟨#[c]⟩)) (hb : EvD tb σ H (.str z)) : EvD (tOp rNinS ta tb) σ H (.bool (!decide (c ∈ z.cps.toList))) := ev_op ha hb fun H x y hx hy Q q => by
  cases (show x = V.str _ from hx)
  cases (show y = V.str _ from hy)
  exact ⟨c, z, rfl, rfl, q _ H (Same.refl _) rfl⟩
theorem ev_ixS {c : Nat} {z : Str} (ha : EvD ta σ H (.str z)) (hb : EvD tb σ H (.int i)) (hz : z.length ≤ sizeLine) (e : atI z.cps.toList i = some c) : EvD (tOp rIxS ta tb) σ H (.str ⟨#[c]⟩) := ev_op ha hb (od_ixS hz e)
def rJoin (K : PySem.W.Frag) : V → List V → Hp → VK → Prop := fun x xs H Q => ∃ a p, ∃ ys : List Str, x = .str a ∧ xs = [.ref p] ∧ (SqL K H p (ys.map V.str) ∨ SqT K H p (ys.map V.str)) ∧ (ys.map (·.length)).sum + ys.length * a.length ≤ 16777216 ∧ Q (.str (Txt.join a ys)) H
theorem pe_joinR {X : Cx} {o e : Expr} {to te : TE} {apos pos : Pos} (ho : PE X o to) (he : PE X e te) (hs : starEach [e] X.env = [(false, eval e X.env)] := by rfl) (hbase : attributeBase o "join" X.env (eval o X.env) = eval o X.env := by rfl) (hline : (apos.endLine == pos.line) = true := by rfl) :
    PE X (.Call (.Attribute o "join" apos) [e] [] pos) (tM1 (rJoin X.K) to te) := pe_join ho he hs hbase hline
theorem ev_join {a : Str} {ys : List Str} (ha : EvD ta σ H (.str a)) (hb : EvD tb σ H (.list (ys.map PyData.str))) (hz : (ys.map (·.length)).sum + ys.length * a.length ≤ 16777216) : EvD (tM1 (rJoin K) ta tb) σ H (.str (Txt.join a ys)) := fun H1 s Q q =>
  ha H1 s _ fun x H2 s2 r2 => by
    cases (show x = V.str _ from r2)
    refine ⟨⟨a, rfl⟩, hb H2 (s.trans s2) _ fun y H3 s3 r3 => ?_⟩
    obtain ⟨p, xs, rfl, hp, hr⟩ := r3
    exact ⟨a, p, ys, rfl, rfl, .inl (by rw [← RpL.strs_inv hr]; exact .of hp), hz, q _ H3 (s2.trans s3) rfl⟩
/-- '..'.join(..) -/
theorem ev_min2 (ha : EvD ta σ H (.int i)) (hb : EvD tb σ H (.int j)) : EvD (tCB rMin2 (tCons ta (tCons tb tNil))) σ H (.int (min i j)) := ev_cb (ea_cons ha (ea_cons hb ea_nil)) fun H xs hx Q q => by
  obtain ⟨v, _, rfl, hv, u, _, rfl, hu, rfl⟩ := hx
  cases (show v = V.int i from hv)
  cases (show u = V.int j from hu)
  refine ⟨i, j, rfl, q _ H (Same.refl _) ?_⟩
  show V.int _ = V.int _
  by_cases h : j < i
  · rw [if_pos h, Int.min_eq_right (by omega)]
  · rw [if_neg h, Int.min_eq_left (by omega)]
/-! ### lists -/
theorem ev_catL (ha : EvD ta σ H (.list ds)) (hb : EvD tb σ H (.list es)) (hl : ds.length + es.length ≤ 1000) : EvD (tOp rCat ta tb) σ H (.list (ds ++ es)) := ev_op ha hb fun H x y hx hy Q q => by
  obtain ⟨a, xs, rfl, ha, hr⟩ := hx
  obtain ⟨b, ys, rfl, hb, hs⟩ := hy
  refine ⟨a, b, xs, ys, rfl, rfl, ha, hb, by rw [hr.length, hs.length]; exact le1000 hl, fun p hp => q _ _ (Same.new hp) ⟨p, _, rfl, upd_same, ?_⟩⟩
  exact (hr.append hs).mono (Same.new hp)
theorem ev_indexD (ha : EvD ta σ H (.list ds)) (hb : EvD tb σ H d) {j : Nat} {z : PyData} (h1 : SeqAt.shaped (.list ds) = true) (h2 : SeqAt.shaped d = true) (h3 : ds[j]? = some z) (h4 : PyData.eqv z d = true) (h5 : ∀ (m : Nat) (z' : PyData), m < j → ds[m]? = some z' → PyData.eqv z' d = false) :
    EvD (tBM K "list" (rIndexD K) ta (tCons tb tNil)) σ H (.int j) := fun H1 s Q q =>
  ha H1 s _ fun x H2 s2 r2 => by
    have r2' := r2
    obtain ⟨a, xs, rfl, ea, hr⟩ := r2
    refine ⟨.inl ⟨rfl, xs, .of ea⟩, hb H2 (s.trans s2) _ fun y H3 s3 r3 => ?_⟩
    exact ⟨a, y, d, ds, j, z, rfl, rfl, Rp.dp _ _ (SeqAt.canLay_of_shaped h1) (r2'.mono s3), Rp.dp _ _ (SeqAt.canLay_of_shaped h2) r3, h1, h2, h3, h4, h5, q _ H3 (s2.trans s3) rfl⟩
theorem ev_pow (ha : EvD ta σ H (.int i)) (hb : EvD tb σ H (.int j)) (h : CPow i j) : EvD (tOp (rI CPow fun i j => .int (i ^ j.toNat)) ta tb) σ H (.int (i ^ j.toNat)) := ev_op ha hb (od_I h fun _ => rfl)
theorem ev_neg (ha : EvD ta σ H (.int i)) : EvD (tUn (rU fun i => .int (-i)) ta) σ H (.int (-i)) := fun H1 s Q q => ha H1 s _ fun x H2 s2 r2 => ⟨i, r2, q _ H2 s2 rfl⟩
end
/-! ### own exceptions -/
/-- the class x of the text, at C: an error over ValueError without own __init__ -/
structure ExC (K : PySem.W.Frag) (mg : Str → Option Value) (x : Str) (C : Addr) : Prop where
  g : mg x = some (.ref C)
  q : PySem.W.excIn K C [.type "ValueError", .type "Exception", .type "BaseException", .type "object"] "ValueError.__new__" = true
  k : PySem.W.keepIn K (.ref C) = true
  b : PySem.W.subIn K (.ref C) (.type "BaseException") = some true
  t : PySem.W.typeIn K (.ref C) = some (.type "type")
  hg : PySem.W.findIn K (.ref C) "__getattribute__" = some (some (.builtin "BaseException.__getattribute__"))
  hk : PySem.W.findIn K (.ref C) "__getattr__" = some none
  hd : PySem.W.hasDictIn K C = true
  ha : PySem.W.findIn K (.ref C) "__class__" = some (some (.builtin "object.__class__"))
  hn : PySem.W.specialIn K (.builtin "object.__class__") "__get__" = some (some (.builtin "getset_descriptor.__get__"))
  ht : PySem.W.takesIn K (.builtin "object.__class__") = some true
  hm : PySem.W.mroIn K C (.type "object") = some true
  v : PySem.W.kitOne K (.ref C) (.type "ValueError") = some true
theorem ExC.cls {K : PySem.W.Frag} {mg : Str → Option Value} {x : Str} {C : Addr} (X : ExC K mg x C) : L2.ExcC K C := ⟨X.hg, X.hk, X.b, X.hd, X.ha, X.hn, X.ht, X.hm⟩
/-- how the class x stands to the class y -/
def SubC (K : PySem.W.Frag) (mg : Str → Option Value) (x y : Str) (b : Bool) : Prop := ∀ C D, mg x = some (.ref C) → mg y = some (.ref D) → PySem.W.kitOne K (.ref C) (.ref D) = some b ∧ PySem.W.subIn K (.ref C) (.ref D) = some b
theorem SubC.exm {K : PySem.W.Frag} {mg : Str → Option Value} {x y : Str} {b : Bool} {C D : Addr} (S : SubC K mg x y b) (X : ExC K mg x C) (Y : ExC K mg y D) : PySem.W.exmOne K (.ref C) (.ref D) = some b := PySem.W.exm_ref Y.b Y.hd Y.t (S C D X.g Y.g).2
/-- isinstance(e, c), e the exception that the suite holds, of a class told by cls -/
def rIsC (K : PySem.W.Frag) (cls : Value) (d : Option Addr) (a : Addr) : List V → Hp → VK → Prop := fun xs H Q => d = none ∧ ∃ D : Addr, cls = .ref D ∧ L2.ExcC K D ∧ rIsE K D a xs H Q
theorem call_isC {X : Cx} {a : Addr} {cls : Value} {d : Option Addr} {oe : Obj} {pn : List (Addr × Obj)} (hz : Zc cls d oe) (hf : ∃ vs, oe.data = .fields vs) : CallR (X.suite a ((a, oe) :: pn)) (.builtin "isinstance") (rIsC X.K cls d a) := by
  intro pins s σ H xs us Q I r h
  obtain ⟨rfl, D, rfl, C, h⟩ := h
  exact call_isE C hz hf pins s σ H xs us Q I r h
section
variable {K : PySem.W.Frag} {σ : L2.St} {H : Hp} {a D : Addr} {i : Nat} {b : Bool}
theorem ev_isC {C : Addr} (h : σ[i]? = some (some (.ref a))) (X : L2.ExcC K D) (e : PySem.W.kitOne K (.ref D) (.ref C) = some b) : EvD (tCB (rIsC K (.ref D) none a) (tCons (tVar i) (tCons (tC (.ref C)) tNil))) σ H (.bool b) := fun H1 s Q q =>
  ⟨.ref a, h, rfl, D, rfl, X, .ref C, .ref C, b, rfl, fun u hu => hu, e, q _ H1 (Same.refl _) rfl⟩
theorem ev_isCT {C : String} (h : σ[i]? = some (some (.ref a))) (X : L2.ExcC K D) (e : PySem.W.kitOne K (.ref D) (.type C) = some b) : EvD (tCB (rIsC K (.ref D) none a) (tCons (tVar i) (tCons (tC (.ty C)) tNil))) σ H (.bool b) := fun H1 s Q q =>
  ⟨.ref a, h, rfl, D, rfl, X, .ty C, .type C, b, rfl, fun u hu => hu, e, q _ H1 (Same.refl _) rfl⟩
end
theorem takesN {X : Cx} : Takes X (fun _ _ _ _ => False) := fun _ _ ⟨_, _, _, _, _, _, _, _, _, _, _, _, _, _, _, _, z⟩ => z.elim
/-- a def that may raise, called where it doesn't -/
theorem passN {X : Cx} : Passes (L2.CX X.prog X.w) X (fun _ _ _ => False) := fun _ _ _ _ _ _ _ ⟨_, _, _, _, _, _, _, _, _, _, _, _, z⟩ => z.elim
section
variable {X : Cx} {CX : CXT} {lv : Nat} {x : Str} {ps : List Str} {sp : Sp} {E : L2.St → XK} {e : Expr} {es : List Expr} {t : TA} {p pos : Pos}
theorem pe_dfS (D : Df X.prog X.w X.K X.mg X.base CX lv x ps sp) (hr : Room lv X.A) (hg : Gl X x) (hx : ∀ σ, PassesAt CX X σ (E σ))
    (ha : PA X (e :: es) t) (hdb : (x == ("__debug__" : Str)) = false := by decide) (he : starEach (e :: es) X.env = (false, eval e X.env) :: starEach es X.env := by rfl) (hpl : (backTo pos (starEach es X.env)).any (·.1) = false := by rfl) :
    PE X (.Call (.Name x p) (e :: es) [] pos) (tCallS sp E t) := by
  obtain ⟨f, fd, F, hb, hk, hm⟩ := D
  exact pe_callS F hr hg hm hk (Binds.all hb) hx ha hdb he hpl
end
/-- what a def does that reckons, or raises -/
inductive Out where
  | ok (d : PyData)
  | err (x : Str)
def spE (mg : Str → Option Value) (R : List PyData → Out → Prop) : Sp := fun vs H Q E => ∃ ds o, RpL H ds vs ∧ R ds o ∧ match o with
  | .ok d => ∀ v H', Same H H' → Rp H' d v → Q v H'
  | .err x => ∀ C H', mg x = some (.ref C) → Same H H' → E (.ref C) none H'
theorem spE.len {mg : Str → Option Value} {R : List PyData → Out → Prop} {n : Nat} (h : ∀ ds d, R ds d → ds.length = n) : ∀ vs H Q E, spE mg R vs H Q E → vs.length = n := fun vs H Q E ⟨ds, d, hR, hr, _⟩ => by rw [hR.length, h ds d hr]
theorem spE.d {mg : Str → Option Value} {R : List PyData → Out → Prop} {ds : List PyData} {d : PyData} (h : R ds (.ok d)) : SpD (spE mg R) ds d := fun H xs hx Q E q => ⟨ds, .ok d, hx, h, q⟩
end Fx
/-! FxS: what is a form: words, right forms, what is refused. -/
namespace Fx
open PySem L2 PySem.Spec PyProof.Rows
def letters : Str := "abcdefghijklmnopqrstuvwxyz"
def isLet (c : Nat) : Bool := decide (c ∈ letters.cps.toList)
def wordOk (w : Str) : Bool := (decide (1 ≤ (w.length : Int)) && decide ((w.length : Int) ≤ 8)) && w.cps.toList.all isLet
mutual
/-- a right form -/
def fine : Fm → Bool
  | .gap n => decide (0 ≤ n) && decide (n ≤ 999)
  | .tie w ps => wordOk w && decide (ps.length ≤ 4) && fineL ps
def fineL : List Fm → Bool
  | [] => true
  | f :: fs => fine f && fineL fs
end
mutual
/-- its words are not very long -/
def Fm.sw : Fm → Bool
  | .gap _ => true
  | .tie w ps => decide (w.length ≤ 1000) && Fm.swL ps
def Fm.swL : List Fm → Bool
  | [] => true
  | f :: fs => f.sw && Fm.swL fs
end
theorem fineL_all : ∀ fs : List Fm, fineL fs = fs.all fine
  | [] => rfl
  | f :: fs => by rw [fineL, fineL_all fs]; rfl
theorem swL_all : ∀ fs : List Fm, Fm.swL fs = fs.all Fm.sw
  | [] => rfl
  | f :: fs => by rw [Fm.swL, swL_all fs]; rfl
theorem fine_part {fs : List Fm} {f : Fm} (h : fineL fs = true) (m : f ∈ fs) : fine f = true := by rw [fineL_all, List.all_eq_true] at h; exact h f m
theorem sw_part {fs : List Fm} {f : Fm} (h : Fm.swL fs = true) (m : f ∈ fs) : f.sw = true := by rw [swL_all, List.all_eq_true] at h; exact h f m
theorem fineL_take {fs : List Fm} {i : Nat} {f : Fm} (e : fs[i]? = some f) : fineL (fs.take (i + 1)) = (fineL (fs.take i) && fine f) := by
  rw [List.take_add_one, e, fineL_all, fineL_all, List.all_append]
  simp
/-- is_word -/
def spWord : Sp := spP fun ds r => ∃ w : Str, ds = [.str w] ∧ r = .bool (wordOk w) ∧ w.length ≤ 1000
theorem spWord.len : ∀ vs H Q E, spWord vs H Q E → vs.length = 1 := spP.len fun ds d ⟨f, e, _⟩ => by rw [e]; rfl
/-- see -/
def spSee (mg : Str → Option Value) (n : Nat) : Sp := spE mg fun ds o => ∃ f : Fm, ds = [f.d] ∧ f.ok = true ∧ f.sw = true ∧ f.dep ≤ n ∧ o = if fine f = true then .ok .none else .err "NoForm"
theorem spSee.no {mg : Str → Option Value} : ∀ vs H Q E, ¬ spSee mg 0 vs H Q E := fun vs H Q E ⟨ds, r, _, ⟨f, _, _, _, hd, _⟩, _⟩ => by have := f.dep_pos; omega
theorem spSee.len {mg : Str → Option Value} {n : Nat} : ∀ vs H Q E, spSee mg n vs H Q E → vs.length = 1 := spE.len fun ds d ⟨f, e, _⟩ => by rw [e]; rfl
/-- depth -/
def spDep (n : Nat) : Sp := spP fun ds r => ∃ f : Fm, ds = [f.d] ∧ r = .int f.dep ∧ f.dep ≤ n ∧ f.ok = true
theorem spDep.no : ∀ vs H Q E, ¬ spDep 0 vs H Q E := fun vs H Q E ⟨ds, r, _, ⟨f, _, _, hd, _⟩, _⟩ => by have := f.dep_pos; omega
theorem spDep.len {n : Nat} : ∀ vs H Q E, spDep n vs H Q E → vs.length = 1 := spP.len fun ds d ⟨f, e, _⟩ => by rw [e]; rfl
/-- what looked does -/
def lookedO (f : Fm) : Out := if fine f = true then (if 200 < f.sg ∨ 40 < f.dep then .err "TooMany" else .ok (.int f.sg)) else .err "NoForm"
def spLooked (mg : Str → Option Value) (n : Nat) : Sp := spE mg fun ds o => ∃ f : Fm, ds = [f.d] ∧ f.ok = true ∧ f.sw = true ∧ f.dep ≤ n ∧ o = lookedO f
theorem spLooked.len {mg : Str → Option Value} {n : Nat} : ∀ vs H Q E, spLooked mg n vs H Q E → vs.length = 1 := spE.len fun ds d ⟨f, e, _⟩ => by rw [e]; rfl
/-- the greatest depth of some forms -/
theorem depL_max : ∀ {fs : List Fm}, fs ≠ [] → ((Fm.depL fs : Nat) : Int) ∈ fs.map (fun g => (g.dep : Int)) ∧ ∀ y, y ∈ fs.map (fun g => (g.dep : Int)) → y ≤ (Fm.depL fs : Nat)
  | [], h => absurd rfl h
  | [f], _ => by simp [Fm.depL]
  | f :: g :: fs, _ => by
    obtain ⟨h1, h2⟩ := depL_max (fs := g :: fs) (by simp)
    simp only [Fm.depL] at h1 h2 ⊢
    refine ⟨?_, fun y hy => ?_⟩
    · by_cases h : f.dep ≤ max g.dep (Fm.depL fs)
      · rw [Nat.max_eq_right h]
        exact List.mem_cons_of_mem _ h1
      · rw [Nat.max_eq_left (by omega)]
        exact List.mem_cons_self
    · rcases List.mem_cons.mp hy with hy | hy
      · dsimp only at hy; omega
      · have := h2 y hy; omega
/-- of a def that reckons, a block -/
theorem w_lookedO {mg : Str → Option Value} {K : PySem.W.Frag} : True := trivial
end Fx
/-! FxT: forms put into forms, worded, deep, wide: what law k01 builds. -/
namespace Fx
open PySem L2 PySem.Spec PyProof.Rows
/-! ### a form put at a place -/
def putA : Fm → List Int → Fm → Fm
  | _, [], g => g
  | .gap k, _ :: _, _ => .gap k
  | .tie w ps, k :: r, g => match ps[k.toNat]? with
    | some f => .tie w (ps.set k.toNat (putA f r g))
    | none => .tie w ps
theorem putA_nil (f g : Fm) : putA f [] g = g := by cases f <;> rfl
theorem putA_tie {w : Str} {ps : List Fm} {k : Int} {r : List Int} {g f : Fm} (h : ps[k.toNat]? = some f) : putA (.tie w ps) (k :: r) g = .tie w (ps.set k.toNat (putA f r g)) := by simp [putA, h]
theorem depL_set2 : ∀ {ps : List Fm} {i : Nat} {f : Fm} {n : Nat}, Fm.depL ps ≤ n → f.dep ≤ n → Fm.depL (ps.set i f) ≤ n
  | [], i, f, n, h, _ => by simpa using h
  | p :: ps, 0, f, n, h, hd => by
    simp only [Fm.depL] at h
    simp only [List.set_cons_zero, Fm.depL]; omega
  | p :: ps, i + 1, f, n, h, hd => by
    simp only [Fm.depL] at h
    have := depL_set2 (ps := ps) (i := i) (f := f) (n := n) (by omega) hd
    simp only [List.set_cons_succ, Fm.depL]; omega
theorem okL_set : ∀ {ps : List Fm} {i : Nat} {f : Fm}, Fm.okL ps = true → f.ok = true → Fm.okL (ps.set i f) = true
  | [], i, f, h, hd => by simp [Fm.okL]
  | p :: ps, 0, f, h, hd => by
    simp only [Fm.okL, Bool.and_eq_true] at h
    simp only [List.set_cons_zero, Fm.okL, Bool.and_eq_true]
    exact ⟨hd, h.2⟩
  | p :: ps, i + 1, f, h, hd => by
    simp only [Fm.okL, Bool.and_eq_true] at h
    simp only [List.set_cons_succ, Fm.okL, Bool.and_eq_true]
    exact ⟨h.1, okL_set h.2 hd⟩
theorem swL_set : ∀ {ps : List Fm} {i : Nat} {f : Fm}, Fm.swL ps = true → f.sw = true → Fm.swL (ps.set i f) = true
  | [], i, f, h, hd => by simp [Fm.swL]
  | p :: ps, 0, f, h, hd => by
    simp only [Fm.swL, Bool.and_eq_true] at h
    simp only [List.set_cons_zero, Fm.swL, Bool.and_eq_true]
    exact ⟨hd, h.2⟩
  | p :: ps, i + 1, f, h, hd => by
    simp only [Fm.swL, Bool.and_eq_true] at h
    simp only [List.set_cons_succ, Fm.swL, Bool.and_eq_true]
    exact ⟨h.1, swL_set h.2 hd⟩
theorem putA_inv {g : Fm} (g1 : g.ok = true) (g2 : g.sw = true) (g3 : fine g = false) : ∀ (r : List Int) (f : Fm), Vld f r → f.ok = true → f.sw = true → (putA f r g).ok = true ∧ (putA f r g).sw = true ∧ (putA f r g).dep ≤ f.dep + g.dep ∧ fine (putA f r g) = false
  | [], f, _, h1, h2 => by
    rw [putA_nil]
    exact ⟨g1, g2, by omega, g3⟩
  | k :: r, .gap _, hv, _, _ => by simp [Vld] at hv
  | k :: r, .tie w ps, hv, h1, h2 => by
    simp only [Vld] at hv
    obtain ⟨hk, f, ef, hv⟩ := hv
    simp only [Fm.ok, Bool.and_eq_true, decide_eq_true_eq] at h1
    simp only [Fm.sw, Bool.and_eq_true, decide_eq_true_eq] at h2
    have hm := List.mem_of_getElem? ef
    obtain ⟨a1, a2, a3, a4⟩ := putA_inv g1 g2 g3 r f hv (Fm.ok_part h1.2 hm) (sw_part h2.2 hm)
    have hfd := Fm.dep_part hm
    rw [putA_tie ef]
    refine ⟨?_, ?_, ?_, ?_⟩
    · simp only [Fm.ok, Bool.and_eq_true, decide_eq_true_eq, List.length_set]
      exact ⟨h1.1, okL_set h1.2 a1⟩
    · simp only [Fm.sw, Bool.and_eq_true, decide_eq_true_eq]
      exact ⟨h2.1, swL_set h2.2 a2⟩
    · simp only [Fm.dep]
      have := depL_set2 (ps := ps) (i := k.toNat) (f := putA f r g) (n := Fm.depL ps + g.dep) (by omega) (by omega)
      omega
    · rw [Bool.eq_false_iff]
      intro z
      simp only [fine, Bool.and_eq_true] at z
      have hi : k.toNat < ps.length := (List.getElem?_eq_some_iff.mp ef).1
      have := fine_part z.2 (List.mem_of_getElem? (List.getElem?_set_self hi))
      rw [a4] at this; cases this
/-- _law_put(form, path, other) -/
def spPut (n : Nat) : Sp := spP fun ds r => ∃ (f : Fm) (path : List Int) (g : Fm), ds = [f.d, .tuple (path.map .int), g.d] ∧ r = (putA f path g).d ∧ Vld f path ∧ path.length + 1 ≤ n ∧ n ≤ 100 ∧ f.ok = true
theorem spPut.no : ∀ vs H Q E, ¬ spPut 0 vs H Q E := fun vs H Q E ⟨ds, r, _, ⟨f, path, k, _, _, _, hd, _⟩, _⟩ => by omega
theorem spPut.len {n : Nat} : ∀ vs H Q E, spPut n vs H Q E → vs.length = 3 := spP.len fun ds d ⟨f, path, k, e, _⟩ => by rw [e]; rfl
/-! ### what is no form -/
def badL (far : Int) : List Fm := [.gap (-1), .gap 1000, .gap (-1 - far), .gap (1000 + far), .tie "" [], .tie "abcdefghi" [], .tie "aB" [], .tie "a b" [.gap 0], .tie "a1" [], .tie "f" [.gap 0, .gap 1, .gap 2, .gap 3, .gap 4], .tie "_" [], .tie "a~" []]
theorem badL_ok {far : Int} (h : 0 ≤ far) : ∀ f, f ∈ badL far → f.ok = true ∧ f.sw = true ∧ f.dep ≤ 2 ∧ fine f = false := by
  intro f hf
  simp only [badL, List.mem_cons, List.not_mem_nil, or_false] at hf
  rcases hf with rfl | rfl | rfl | rfl | rfl | rfl | rfl | rfl | rfl | rfl | rfl | rfl
  · decide
  · decide
  · refine ⟨rfl, rfl, by simp only [Fm.dep]; omega, ?_⟩
    simp only [fine, Bool.and_eq_false_iff, decide_eq_false_iff_not]; omega
  · refine ⟨rfl, rfl, by simp only [Fm.dep]; omega, ?_⟩
    simp only [fine, Bool.and_eq_false_iff, decide_eq_false_iff_not]; omega
  all_goals decide +kernel
/-- _law_bad(cell) -/
def spBad : Sp := fun vs H Q _ => ∃ c : Int, vs = [.int c] ∧ ∀ (b : Fm) v H', Same H H' → Rp H' b.d v → b.ok = true → b.sw = true → b.dep ≤ 2 → fine b = false → Q v H'
theorem spBad.len : ∀ vs H Q E, spBad vs H Q E → vs.length = 1 := fun vs H Q E ⟨_, e, _⟩ => by rw [e]; rfl
/-! ### words drawn -/
def letAt (k : Int) : Nat := letters.cps.toList.getD (k % 26).toNat 0
theorem letters_len : letters.cps.toList.length = 26 := by decide +kernel
theorem letAt_get (k : Int) : letters.cps.toList[(k % 26).toNat]? = some (letAt k) := by
  have h0 : 0 ≤ k % 26 := Int.emod_nonneg _ (by decide)
  have h1 : k % 26 < 26 := Int.emod_lt_of_pos _ (by decide)
  unfold letAt
  rw [List.getD_eq_getElem?_getD, List.getElem?_eq_getElem (by rw [letters_len]; omega)]; rfl
theorem letAt_mem (k : Int) : letAt k ∈ letters.cps.toList := List.mem_of_getElem? (letAt_get k)
def wordAt (c : Int) (place : Nat) : Str := ⟨((List.range (1 + (c / 26 % 8).toNat)).map fun (j : Nat) => letAt (c + 5 * place + 3 * j)).toArray⟩
theorem join_singles : ∀ cs : List Nat, Txt.join "" (cs.map fun c => (⟨#[c]⟩ : Str)) = ⟨cs.toArray⟩ := by
  intro cs
  rw [show Txt.join "" (cs.map fun c => (⟨#[c]⟩ : Str)) = Str.join "" (cs.map fun c => (⟨#[c]⟩ : Str)) from TL.join_eq _ _]
  induction cs with
  | nil => rfl
  | cons c cs ih =>
    cases cs with
    | nil => rfl
    | cons d cs =>
      have e : ∀ (a b : Str), a ++ (("" : Str) ++ b) = a ++ b := fun a b => by
        show (⟨a.cps ++ (#[] ++ b.cps)⟩ : Str) = ⟨a.cps ++ b.cps⟩
        simp
      show (⟨#[c]⟩ : Str) ++ ("" : Str) ++ Str.join "" _ = _
      rw [ih]
      show (⟨(#[c] ++ #[]) ++ (d :: cs).toArray⟩ : Str) = _
      simp
theorem wordAt_ok (c : Int) (p : Nat) : wordOk (wordAt c p) = true ∧ PyData.strOk (wordAt c p) = true ∧ (wordAt c p).length ≤ 8 ∧ 1 ≤ (wordAt c p).length := by
  have h0 : 0 ≤ c / 26 % 8 := Int.emod_nonneg _ (by decide)
  have h1 : c / 26 % 8 < 8 := Int.emod_lt_of_pos _ (by decide)
  have hl : (wordAt c p).length = 1 + (c / 26 % 8).toNat := by simp [wordAt, Str.length]
  have hm : ∀ x, x ∈ (wordAt c p).cps.toList → x ∈ letters.cps.toList := fun x hx => by
    simp only [wordAt, List.mem_map] at hx
    obtain ⟨j, _, rfl⟩ := hx
    exact letAt_mem _
  refine ⟨?_, ?_, by omega, by omega⟩
  · unfold wordOk
    rw [Bool.and_eq_true, Bool.and_eq_true, decide_eq_true_eq, decide_eq_true_eq, hl, List.all_eq_true]
    exact ⟨⟨by omega, by omega⟩, fun x hx => decide_eq_true (hm x hx)⟩
  · unfold PyData.strOk
    rw [← Array.all_toList, List.all_eq_true]
    intro x hx
    have hh : ∀ y, y ∈ letters.cps.toList → decide (y < 1114112) = true := by decide +kernel
    exact hh x (hm x hx)
def placeOf (w : Str) : Nat := wordsL.idxOf w
mutual
def worded (c : Int) : Fm → Fm
  | .gap n => .gap n
  | .tie w ps => .tie (wordAt c (placeOf w)) (wordedL c ps)
def wordedL (c : Int) : List Fm → List Fm
  | [] => []
  | f :: fs => worded c f :: wordedL c fs
end
theorem wordedL_map (c : Int) : ∀ fs : List Fm, wordedL c fs = fs.map (worded c)
  | [] => rfl
  | f :: fs => by rw [wordedL, wordedL_map c fs]; rfl
mutual
theorem worded_inv {c many : Int} (hm : many ≤ 1000) : ∀ f : Fm, f.gd many = true → (worded c f).ok = true ∧ (worded c f).sw = true ∧ fine (worded c f) = true ∧ (worded c f).dep = f.dep ∧ (worded c f).sg = f.sg
  | .gap n, h => by
    simp only [Fm.gd, Bool.and_eq_true, decide_eq_true_eq] at h
    refine ⟨rfl, rfl, ?_, rfl, rfl⟩
    simp only [worded, fine, Bool.and_eq_true, decide_eq_true_eq]; omega
  | .tie w ps, h => by
    simp only [Fm.gd, Bool.and_eq_true, decide_eq_true_eq] at h
    obtain ⟨a1, a2, a3, a4, a5, a6⟩ := wordedL_inv (c := c) hm ps h.2
    obtain ⟨w1, w2, w3, w4⟩ := wordAt_ok c (placeOf w)
    refine ⟨?_, ?_, ?_, ?_, ?_⟩
    · simp only [worded, Fm.ok, Bool.and_eq_true, decide_eq_true_eq]; exact ⟨⟨w2, by omega⟩, a1⟩
    · simp only [worded, Fm.sw, Bool.and_eq_true, decide_eq_true_eq]; exact ⟨by omega, a2⟩
    · simp only [worded, fine, Bool.and_eq_true, decide_eq_true_eq]; exact ⟨⟨w1, by omega⟩, a3⟩
    · simp only [worded, Fm.dep, a4]
    · simp only [worded, Fm.sg, a5]
theorem wordedL_inv {c many : Int} (hm : many ≤ 1000) : ∀ fs : List Fm, Fm.gdL many fs = true → Fm.okL (wordedL c fs) = true ∧ Fm.swL (wordedL c fs) = true ∧ fineL (wordedL c fs) = true ∧ Fm.depL (wordedL c fs) = Fm.depL fs ∧ Fm.sgL (wordedL c fs) = Fm.sgL fs ∧ (wordedL c fs).length = fs.length
  | [], _ => ⟨rfl, rfl, rfl, rfl, rfl, rfl⟩
  | f :: fs, h => by
    simp only [Fm.gdL, Bool.and_eq_true] at h
    obtain ⟨a1, a2, a3, a4, a5⟩ := worded_inv (c := c) hm f h.1
    obtain ⟨b1, b2, b3, b4, b5, b6⟩ := wordedL_inv (c := c) hm fs h.2
    refine ⟨?_, ?_, ?_, ?_, ?_, ?_⟩
    · simp only [wordedL, Fm.okL, Bool.and_eq_true]; exact ⟨a1, b1⟩
    · simp only [wordedL, Fm.swL, Bool.and_eq_true]; exact ⟨a2, b2⟩
    · simp only [wordedL, fineL, Bool.and_eq_true]; exact ⟨a3, b3⟩
    · simp only [wordedL, Fm.depL, a4, b4]
    · simp only [wordedL, Fm.sgL, a5, b5]
    · simp only [wordedL, List.length_cons, b6]
end
/-- _law_worded(form, cell) -/
def spWorded (n : Nat) : Sp := spP fun ds r => ∃ (f : Fm) (c many : Int), ds = [f.d, .int c] ∧ r = (worded c f).d ∧ f.dep ≤ n ∧ f.gd many = true
theorem spWorded.no : ∀ vs H Q E, ¬ spWorded 0 vs H Q E := fun vs H Q E ⟨ds, r, _, ⟨f, c, _, _, _, hd, _⟩, _⟩ => by have := f.dep_pos; omega
theorem spWorded.len {n : Nat} : ∀ vs H Q E, spWorded n vs H Q E → vs.length = 2 := spP.len fun ds d ⟨f, path, k, e, _⟩ => by rw [e]; rfl
/-! ### deep, wide -/
def wrapF (w : Str) : Nat → Fm → Fm
  | 0, f => f
  | n + 1, f => .tie w [wrapF w n f]
theorem wrapF_inv : ∀ (n : Nat) (f : Fm), (wrapF "f" n f).dep = n + f.dep ∧ (wrapF "f" n f).sg = n + f.sg ∧ (f.ok = true → (wrapF "f" n f).ok = true) ∧ (f.sw = true → (wrapF "f" n f).sw = true) ∧ (fine f = true → fine (wrapF "f" n f) = true)
  | 0, f => ⟨by simp [wrapF], by simp [wrapF], id, id, id⟩
  | n + 1, f => by
    obtain ⟨a1, a2, a3, a4, a5⟩ := wrapF_inv n f
    refine ⟨?_, ?_, fun h => ?_, fun h => ?_, fun h => ?_⟩
    · simp only [wrapF, Fm.dep, Fm.depL, a1]; omega
    · simp only [wrapF, Fm.sg, Fm.sgL, a2]; omega
    · simp only [wrapF, Fm.ok, Fm.okL, Bool.and_eq_true, decide_eq_true_eq, List.length_singleton]; exact ⟨⟨by decide +kernel, by decide⟩, a3 h, trivial⟩
    · simp only [wrapF, Fm.sw, Fm.swL, Bool.and_eq_true, decide_eq_true_eq]; exact ⟨by decide +kernel, a4 h, trivial⟩
    · simp only [wrapF, fine, fineL, Bool.and_eq_true, decide_eq_true_eq, List.length_singleton]; exact ⟨⟨by decide +kernel, by decide⟩, a5 h, trivial⟩
theorem wrapF_snoc : ∀ (n : Nat) (f : Fm), wrapF "f" n (.tie "f" [f]) = wrapF "f" (n + 1) f
  | 0, f => rfl
  | n + 1, f => by rw [wrapF, wrapF_snoc n f]; rfl
def spDeep : Sp := spP fun ds r => ∃ n : Nat, ds = [.int ((n : Int) + 1)] ∧ r = (wrapF "f" n (.gap 3)).d ∧ n ≤ 60
theorem spDeep.len : ∀ vs H Q E, spDeep vs H Q E → vs.length = 1 := spP.len fun ds d ⟨f, e, _⟩ => by rw [e]; rfl
def fourA (k : Nat) : Fm := .tie "f" (List.replicate k (.tie "a" []))
/-- the turns of _law_wide -/
def wideL : Nat → Int → List Fm → List Fm
  | 0, _, ps => ps
  | n + 1, many, ps => if 4 < many then
      (let s := min 4 ((many - 1) / 2)
       let ps' := ps ++ [fourA s.toNat]
       if ps'.length = 4 then wideL n (many - 1 - s - 1) [.tie "g" ps'] else wideL n (many - 1 - s) ps')
    else ps
def wideF : Fm := .tie "h" (wideL 200 190 [])
theorem wideF_inv : wideF.ok = true ∧ wideF.sw = true ∧ fine wideF = true ∧ wideF.dep ≤ 20 ∧ 180 ≤ wideF.sg ∧ wideF.sg ≤ 210 := by decide +kernel
theorem wideF_eq : ∃ W0, wideF = .tie "h" W0 ∧ wideL 200 190 [] = W0 := ⟨_, rfl, rfl⟩
def spWide : Sp := spP fun ds r => ds = [.int 190] ∧ r = wideF.d
theorem spWide.len : ∀ vs H Q E, spWide vs H Q E → vs.length = 1 := spP.len fun ds d ⟨e, _⟩ => by rw [e]; rfl
/-- _law_great(cell) -/
def spGreat : Sp := fun vs H Q _ => ∃ c : Int, vs = [.int c] ∧ ∀ (f : Fm) v H', Same H H' → Rp H' f.d v → f.ok = true → f.sw = true → fine f = true → f.dep ≤ 60 → f.sg ≤ 400 → Q v H'
theorem spGreat.len : ∀ vs H Q E, spGreat vs H Q E → vs.length = 1 := fun vs H Q E ⟨_, e, _⟩ => by rw [e]; rfl
/-- what _law_refused tells -/
def marksO : Out → List Bool
  | .ok _ => []
  | .err x => if x = "NoForm" then [true, false, true] else [false, true, true]
def spRefused (n : Nat) : Sp := spP fun ds r => ∃ f : Fm, ds = [f.d] ∧ f.ok = true ∧ f.sw = true ∧ f.dep ≤ n ∧ r = .list ((marksO (lookedO f)).map .bool)
theorem spRefused.len {n : Nat} : ∀ vs H Q E, spRefused n vs H Q E → vs.length = 1 := spP.len fun ds d ⟨f, e, _⟩ => by rw [e]; rfl
/-- a list shown -/
theorem ef_lst {σ : L2.St} {H : Hp} {t : TA} {ds : List PyData} (h : EvA t σ H ds) (hl : ds.length ≤ 1000) : EvF (tLst t) σ H ds := fun H1 s Q q =>
  h H1 s _ fun vs H2 s2 rs => ⟨by rw [rs.length]; exact le1000 hl, fun p hp => q p vs _ (s2.trans (Same.new hp)) (s2.free hp) upd_same (rs.mono (Same.new hp))⟩
/-- _law_drawn within an expression -/
theorem w_drawn {σ : L2.St} {H : Hp} {n : Nat} {t : TA} {E : XK} {c many : Int} {deep : Nat} {Q : VK} (h : EvA t σ H [.int c, .int many, .int deep]) (hm : 0 ≤ many) (h1 : 1 ≤ deep) (hn : deep ≤ n)
    (q : ∀ (f : Fm) v H1, Same H H1 → Rp H1 f.d v → f.gd many = true → f.dep ≤ deep → (f.sg : Int) ≤ 20 + 4 * (deep - 1) → Q v H1) : tCall (spDrawn n) [] E t σ H Q := by
  refine h H (Same.refl _) _ fun vs H1 s1 rs => ?_
  obtain ⟨v1, _, rfl, r1, v2, _, rfl, r2, v3, _, rfl, r3, rfl⟩ := rs
  cases (show v1 = V.int c from r1)
  cases (show v2 = V.int many from r2)
  cases (show v3 = V.int deep from r3)
  exact ⟨c, many, deep, rfl, hm, h1, hn, fun f v H' s' r gd dp sg => q f v H' (s1.trans s') r gd dp sg⟩
theorem ev_max {K : PySem.W.Frag} {σ : L2.St} {H : Hp} {te : TE} {ns : List Int} {m : Int} (h : EvD te σ H (.list (ns.map PyData.int))) (h1 : m ∈ ns) (h2 : ∀ y, y ∈ ns → y ≤ m) : EvD (tCB (rMax K) (tCons te tNil)) σ H (.int m) := ev_cb (ea_cons h ea_nil) fun H xs hx Q q => by
  obtain ⟨v, r, rfl, ⟨a, ys, rfl, ha, hr⟩, hn⟩ := hx
  cases (show r = [] from hn)
  refine ⟨a, ns, rfl, by rw [← RpL.ints_inv hr]; exact .of ha, by cases ns; cases h1; simp, fun m' z1 z2 => ?_⟩
  have e : m' = m := by
    have := z2 _ h1
    have := h2 _ z1
    omega
  subst e
  exact q _ H (Same.refl _) rfl
end Fx
/-! FxU: texts; forms written and read. -/
namespace Fx
open PySem L2 PySem.Spec PyProof.Rows
/-- the text of these signs -/
def sO (l : List Nat) : Str := ⟨l.toArray⟩
theorem sO_tl (l : List Nat) : (sO l).cps.toList = l := by simp [sO]
theorem sO_of (x : Str) : sO x.cps.toList = x := by cases x; simp [sO]
theorem sO_len (l : List Nat) : (sO l).length = l.length := by simp [sO, Str.length]
theorem sO_inj {a b : List Nat} (h : sO a = sO b) : a = b := by rw [← sO_tl a, h, sO_tl]
theorem sO_add (a b : List Nat) : sO a ++ sO b = sO (a ++ b) := by
  show (⟨a.toArray ++ b.toArray⟩ : Str) = _
  simp [sO]
def lOk (l : List Nat) : Bool := l.all fun c => decide (c < 1114112)
theorem strOk_sO {l : List Nat} (h : lOk l = true) : PyData.strOk (sO l) = true := by
  unfold PyData.strOk
  rw [← Array.all_toList, sO_tl]
  exact h
theorem okD_sO {l : List Nat} (h : lOk l = true) : okD (.str (sO l)) = true := okD_str (strOk_sO h)
theorem lOk_app {a b : List Nat} : lOk (a ++ b) = (lOk a && lOk b) := by simp [lOk]
theorem lOk_sub {a b : List Nat} (h : lOk b = true) (hs : ∀ x, x ∈ a → x ∈ b) : lOk a = true := by
  unfold lOk at h ⊢
  rw [List.all_eq_true] at h ⊢
  exact fun x hx => h x (hs x hx)
theorem eqv_sO {a b : List Nat} : PyData.eqv (.str (sO a)) (.str (sO b)) = decide (a = b) := by
  show decide (sO a = sO b) = _
  by_cases h : a = b
  · subst h; simp
  · rw [decide_eq_false h, decide_eq_false fun z => h (sO_inj z)]
theorem cutS_sO (z : List Nat) (i j : Nat) : cutS (sO z) (some (i : Int)) (some (j : Int)) = sO ((z.drop i).take (j - i)) := by
  unfold cutS
  rw [HT.sIx_nat, HT.sIx_nat, sO_tl, sO_len]
  show sO _ = sO _
  congr 1
  by_cases h : i ≤ z.length
  · rw [Nat.min_eq_left h]
    by_cases hj : j ≤ z.length
    · rw [Nat.min_eq_left hj]
    · rw [Nat.min_eq_right (by omega), List.take_of_length_le (by simp), List.take_of_length_le (by simp; omega)]
  · rw [List.drop_of_length_le (by omega : z.length ≤ min i z.length), List.drop_of_length_le (by omega : z.length ≤ i)]; simp
section
variable {K : PySem.W.Frag} {σ : L2.St} {H : Hp} {ta tb ti tj : TE} {l m : List Nat} {i j : Nat}
theorem ev_cut (ha : EvD ta σ H (.str (sO l))) (hi : EvD ti σ H (.int i)) (hj : EvD tj σ H (.int j)) (hl : l.length ≤ 100000) : EvD (tSl rSlS ta (tPart ti) (tPart tj)) σ H (.str (sO ((l.drop i).take (j - i)))) := fun H1 s Q q =>
  ha H1 s _ fun v H2 s2 r2 => hi H2 (s.trans s2) _ fun u H3 s3 r3 => ⟨_, r3, hj H3 ((s.trans s2).trans s3) _ fun x H4 s4 r4 => ⟨_, r4, sO l, r2, by rw [sO_len]; exact Nat.le_trans hl (by decide), by rw [cutS_sO]; exact q _ H4 ((s2.trans s3).trans s4) rfl⟩⟩
def rAddS : R2 := fun x y H Q => ∃ i j, x = .str i ∧ y = .str j ∧ i.length + j.length ≤ sizeLine ∧ Q (.str (i ++ j)) H
theorem op_addS {X : Cx} : OpR X (binaryOp .Add) rAddS := op_add_str
theorem ev_addS (ha : EvD ta σ H (.str (sO l))) (hb : EvD tb σ H (.str (sO m))) (hl : l.length + m.length ≤ 100000) : EvD (tOp rAddS ta tb) σ H (.str (sO (l ++ m))) := ev_op ha hb fun H x y hx hy Q q => by
  cases (show x = V.str _ from hx)
  cases (show y = V.str _ from hy)
  exact ⟨_, _, rfl, rfl, by rw [sO_len, sO_len]; exact Nat.le_trans hl (by decide), by rw [sO_add]; exact q _ H (Same.refl _) rfl⟩
theorem ev_strL {s : Str} : EvD (tC (.str s)) σ H (.str (sO s.cps.toList)) := by rw [sO_of]; exact ev_str
theorem cd_lenSO (hl : l.length ≤ 100000) : CallD (rLen K) [.str (sO l)] (.int l.length) := by
  have := cd_lenS (K := K) (z := sO l) (by rw [sO_len]; exact Nat.le_trans hl (by decide))
  rwa [sO_len] at this
theorem ev_ixSO {c : Nat} (ha : EvD ta σ H (.str (sO l))) (hb : EvD tb σ H (.int i)) (hl : l.length ≤ 100000) (e : l[i]? = some c) : EvD (tOp rIxS ta tb) σ H (.str (sO [c])) :=
  ev_ixS ha hb (by rw [sO_len]; exact Nat.le_trans hl (by decide)) (by rw [sO_tl]; exact atI_nat e)
end
/-! ### reading -/
def isFig (c : Nat) : Bool := decide (48 ≤ c) && decide (c ≤ 57)
def figures : Str := "0123456789"
theorem figures_list : figures.cps.toList = [48, 49, 50, 51, 52, 53, 54, 55, 56, 57] := by decide +kernel
theorem letters_list : letters.cps.toList = [97, 98, 99, 100, 101, 102, 103, 104, 105, 106, 107, 108, 109, 110, 111, 112, 113, 114, 115, 116, 117, 118, 119, 120, 121, 122] := by decide +kernel
theorem fig_mem (c : Nat) : decide (c ∈ figures.cps.toList) = isFig c := by
  rw [figures_list]
  unfold isFig
  rw [← Bool.decide_and]
  refine decide_eq_decide.mpr ?_
  simp only [List.mem_cons, List.not_mem_nil, or_false]
  omega
theorem isLet_iff (c : Nat) : isLet c = true ↔ 97 ≤ c ∧ c ≤ 122 := by
  unfold isLet
  rw [letters_list, decide_eq_true_eq]
  simp only [List.mem_cons, List.not_mem_nil, or_false]
  omega
theorem isFig_iff (c : Nat) : isFig c = true ↔ 48 ≤ c ∧ c ≤ 57 := by simp [isFig]
/-- the number that a row of figures writes -/
def numOf (l : List Nat) : Option Int := if l = [] ∨ 3 < l.length ∨ (l.head? = some 48 ∧ l ≠ [48]) then none else some ((NumText.digitsVal l : Nat) : Int)
def partsW (F : List Nat → Option (Fm × List Nat)) : Nat → List Nat → Option (List Fm × List Nat)
  | 0, _ => none
  | n + 1, r => match F r with
    | none => none
    | some (f, r') => if r'.head? = some 41 then some ([f], r'.tail) else if r'.head? = some 44 then (match partsW F n r'.tail with
      | none => none
      | some (fs, r'') => some (f :: fs, r'')) else none
/-- the form that stands at the head of a text -/
def formA : Nat → List Nat → Option (Fm × List Nat)
  | 0, _ => none
  | k + 1, r => if r.head? = some 63 then (match numOf (r.tail.takeWhile isFig) with
      | none => none
      | some n => some (.gap n, r.tail.dropWhile isFig))
    else if (r.dropWhile isLet).head? = some 40 then (match partsW (formA k) ((r.dropWhile isLet).tail.length + 1) (r.dropWhile isLet).tail with
      | none => none
      | some (ps, r') => some (.tie (sO (r.takeWhile isLet)) ps, r'))
    else some (.tie (sO (r.takeWhile isLet)) [], r.dropWhile isLet)
def Sfx (t r : List Nat) : Prop := ∃ p, t = p ++ r
theorem Sfx.refl (t : List Nat) : Sfx t t := ⟨[], rfl⟩
theorem Sfx.trans {a b c : List Nat} (h : Sfx a b) (g : Sfx b c) : Sfx a c := by
  obtain ⟨p, rfl⟩ := h; obtain ⟨q, rfl⟩ := g; exact ⟨p ++ q, by simp⟩
theorem Sfx.tail (t : List Nat) : Sfx t t.tail := by cases t with
  | nil => exact ⟨[], rfl⟩
  | cons a t => exact ⟨[a], rfl⟩
theorem Sfx.dropW (p : Nat → Bool) (t : List Nat) : Sfx t (t.dropWhile p) := ⟨t.takeWhile p, (List.takeWhile_append_dropWhile).symm⟩
theorem Sfx.len {a b : List Nat} (h : Sfx a b) : b.length ≤ a.length := by obtain ⟨p, rfl⟩ := h; simp
theorem Sfx.drop {a b : List Nat} (h : Sfx a b) : a.drop (a.length - b.length) = b := by obtain ⟨p, rfl⟩ := h; simp
theorem Sfx.ok {a b : List Nat} (h : Sfx a b) (o : lOk a = true) : lOk b = true := by obtain ⟨p, rfl⟩ := h; rw [lOk_app, Bool.and_eq_true] at o; exact o.2
theorem Sfx.sub {a b : List Nat} (h : Sfx a b) : ∀ x, x ∈ b → x ∈ a := by obtain ⟨p, rfl⟩ := h; intro x hx; simp [hx]
theorem partsW_sfx {F : List Nat → Option (Fm × List Nat)} (hF : ∀ r f r', F r = some (f, r') → Sfx r r') : ∀ n r fs r', partsW F n r = some (fs, r') → Sfx r r'
  | 0, r, fs, r', h => by simp [partsW] at h
  | n + 1, r, fs, r', h => by
    rw [partsW] at h
    cases e : F r with
    | none => rw [e] at h; cases h
    | some q =>
      obtain ⟨f, r1⟩ := q
      simp only [e] at h
      have s1 := hF _ _ _ e
      by_cases h1 : r1.head? = some 41
      · rw [if_pos h1] at h
        simp only [Option.some.injEq, Prod.mk.injEq] at h
        rw [← h.2]; exact s1.trans (Sfx.tail _)
      · rw [if_neg h1] at h
        by_cases h2 : r1.head? = some 44
        · rw [if_pos h2] at h
          cases e2 : partsW F n r1.tail with
          | none => rw [e2] at h; cases h
          | some q2 =>
            obtain ⟨gs, r2⟩ := q2
            simp only [e2, Option.some.injEq, Prod.mk.injEq] at h
            rw [← h.2]
            exact (s1.trans (Sfx.tail _)).trans (partsW_sfx hF n _ _ _ e2)
        · rw [if_neg h2] at h; cases h
theorem formA_sfx : ∀ k r f r', formA k r = some (f, r') → Sfx r r'
  | 0, r, f, r', h => by simp [formA] at h
  | k + 1, r, f, r', h => by
    rw [formA] at h
    by_cases h1 : r.head? = some 63
    · rw [if_pos h1] at h
      cases e : numOf (r.tail.takeWhile isFig) with
      | none => rw [e] at h; cases h
      | some n =>
        simp only [e, Option.some.injEq, Prod.mk.injEq] at h
        rw [← h.2]; exact (Sfx.tail _).trans (Sfx.dropW _ _)
    · rw [if_neg h1] at h
      by_cases h2 : (r.dropWhile isLet).head? = some 40
      · rw [if_pos h2] at h
        cases e : partsW (formA k) ((r.dropWhile isLet).tail.length + 1) (r.dropWhile isLet).tail with
        | none => rw [e] at h; cases h
        | some q =>
          obtain ⟨ps, r1⟩ := q
          simp only [e, Option.some.injEq, Prod.mk.injEq] at h
          rw [← h.2]
          exact ((Sfx.dropW _ _).trans (Sfx.tail _)).trans (partsW_sfx (formA_sfx k) _ _ _ _ e)
      · rw [if_neg h2] at h
        simp only [Option.some.injEq, Prod.mk.injEq] at h
        rw [← h.2]; exact Sfx.dropW _ _
theorem depL_of {fs : List Fm} {n : Nat} (h : ∀ f, f ∈ fs → f.dep ≤ n) : Fm.depL fs ≤ n := Fm.depL_le h
theorem partsW_mem {F : List Nat → Option (Fm × List Nat)} {P : Fm → Prop} (hF : ∀ r f r', F r = some (f, r') → P f) : ∀ n r fs r', partsW F n r = some (fs, r') → ∀ f, f ∈ fs → P f
  | 0, r, fs, r', h => by simp [partsW] at h
  | n + 1, r, fs, r', h => by
    rw [partsW] at h
    cases e : F r with
    | none => rw [e] at h; cases h
    | some q =>
      obtain ⟨f, r1⟩ := q
      simp only [e] at h
      have s1 := hF _ _ _ e
      by_cases h1 : r1.head? = some 41
      · rw [if_pos h1] at h
        simp only [Option.some.injEq, Prod.mk.injEq] at h
        rw [← h.1]; intro g hg; rw [List.mem_singleton.mp hg]; exact s1
      · rw [if_neg h1] at h
        by_cases h2 : r1.head? = some 44
        · rw [if_pos h2] at h
          cases e2 : partsW F n r1.tail with
          | none => rw [e2] at h; cases h
          | some q2 =>
            obtain ⟨gs, r2⟩ := q2
            simp only [e2, Option.some.injEq, Prod.mk.injEq] at h
            rw [← h.1]
            intro g hg
            rcases List.mem_cons.mp hg with rfl | hg
            · exact s1
            · exact partsW_mem hF n _ _ _ e2 g hg
        · rw [if_neg h2] at h; cases h
theorem formA_dep : ∀ k r f r', formA k r = some (f, r') → f.dep ≤ k
  | 0, r, f, r', h => by simp [formA] at h
  | k + 1, r, f, r', h => by
    rw [formA] at h
    by_cases h1 : r.head? = some 63
    · rw [if_pos h1] at h
      cases e : numOf (r.tail.takeWhile isFig) with
      | none => rw [e] at h; cases h
      | some n =>
        simp only [e, Option.some.injEq, Prod.mk.injEq] at h
        rw [← h.1]; simp only [Fm.dep]; omega
    · rw [if_neg h1] at h
      by_cases h2 : (r.dropWhile isLet).head? = some 40
      · rw [if_pos h2] at h
        cases e : partsW (formA k) ((r.dropWhile isLet).tail.length + 1) (r.dropWhile isLet).tail with
        | none => rw [e] at h; cases h
        | some q =>
          obtain ⟨ps, r1⟩ := q
          simp only [e, Option.some.injEq, Prod.mk.injEq] at h
          rw [← h.1]
          have := depL_of (partsW_mem (P := fun f => f.dep ≤ k) (formA_dep k) _ _ _ _ e)
          simp only [Fm.dep]; omega
      · rw [if_neg h2] at h
        simp only [Option.some.injEq, Prod.mk.injEq] at h
        rw [← h.1]; simp only [Fm.dep, Fm.depL]; omega
/-! the promises -/
def spTaken : Sp := spP fun ds r => ∃ (t : List Nat) (i : Nat) (g : Str), ds = [.str (sO t), .int i, .str g] ∧ r = .int (i + ((t.drop i).takeWhile fun c => decide (c ∈ g.cps.toList)).length : Nat) ∧ i ≤ t.length ∧ t.length ≤ 100000
theorem spTaken.len : ∀ vs H Q E, spTaken vs H Q E → vs.length = 3 := spP.len fun ds d ⟨f, _, _, e, _⟩ => by rw [e]; rfl
def spNum (mg : Str → Option Value) : Sp := spE mg fun ds o => ∃ l : List Nat, ds = [.str (sO l)] ∧ (l.all isFig) = true ∧ l.length ≤ 100000 ∧ o = match numOf l with
  | none => .err "BadNote"
  | some n => .ok (.int n)
theorem spNum.len {mg : Str → Option Value} : ∀ vs H Q E, spNum mg vs H Q E → vs.length = 1 := spE.len fun ds d ⟨f, e, _⟩ => by rw [e]; rfl
/-- a read thing and the place behind -/
def atO (t : List Nat) : Option (PyData × List Nat) → Out
  | none => .err "BadNote"
  | some (d, r) => .ok (.tuple [d, .int (t.length - r.length : Nat)])
def spFormAt (mg : Str → Option Value) (k : Nat) : Sp := spE mg fun ds o => ∃ (t r : List Nat), ds = [.str (sO t), .int (t.length - r.length : Nat), .int (41 - (k : Int))] ∧ Sfx t r ∧ lOk t = true ∧ t.length ≤ 10000 ∧ k ≤ 40 ∧ o = atO t ((formA k r).map fun p => (p.1.d, p.2))
def spPartsAt (mg : Str → Option Value) (k : Nat) : Sp := spE mg fun ds o => ∃ (t r : List Nat) (j : Nat), k = j + 1 ∧ ds = [.str (sO t), .int (t.length - r.length : Nat), .int (41 - (j : Int))] ∧ Sfx t r ∧ lOk t = true ∧ t.length ≤ 10000 ∧ k ≤ 40 ∧ o = atO t ((partsW (formA j) (r.length + 1) r).map fun p => (.tuple (p.1.map Fm.d), p.2))
theorem spFormAt.len {mg : Str → Option Value} {k : Nat} : ∀ vs H Q E, spFormAt mg k vs H Q E → vs.length = 3 := spE.len fun ds d ⟨f, _, e, _⟩ => by rw [e]; rfl
theorem spPartsAt.len {mg : Str → Option Value} {k : Nat} : ∀ vs H Q E, spPartsAt mg k vs H Q E → vs.length = 3 := spE.len fun ds d ⟨f, _, _, _, e, _⟩ => by rw [e]; rfl
theorem spPartsAt.no {mg : Str → Option Value} : ∀ vs H Q E, ¬ spPartsAt mg 0 vs H Q E := fun vs H Q E ⟨ds, r, _, ⟨_, _, j, hj, _⟩, _⟩ => by omega
/-- what read does -/
def readO (t : List Nat) : Out := match formA 40 t with
  | some (f, []) => (match lookedO f with
    | .ok _ => .ok f.d
    | .err _ => .err "BadNote")
  | _ => .err "BadNote"
def spRead (mg : Str → Option Value) : Sp := spE mg fun ds o => ∃ t : List Nat, ds = [.str (sO t)] ∧ lOk t = true ∧ t.length ≤ 10000 ∧ (∀ f, formA 40 t = some (f, []) → f.ok = true ∧ f.sw = true) ∧ o = readO t
theorem spRead.len {mg : Str → Option Value} : ∀ vs H Q E, spRead mg vs H Q E → vs.length = 1 := spE.len fun ds d ⟨f, e, _⟩ => by rw [e]; rfl
/-- a call that raises -/
theorem w_callE {mg : Str → Option Value} {R : List PyData → Out → Prop} {σ : L2.St} {H : Hp} {t : TA} {E : XK} {ds : List PyData} {x : Str} {Q : VK} (h : EvA t σ H ds) (hR : R ds (.err x)) (q : ∀ C H1, mg x = some (.ref C) → Same H H1 → E (.ref C) none H1) : tCall (spE mg R) [] E t σ H Q :=
  h H (Same.refl _) _ fun vs H1 s1 rs => ⟨ds, .err x, by rw [List.append_nil]; exact rs, hR, fun C H2 g s2 => q C H2 g (s1.trans s2)⟩
theorem w_while {σ : L2.St} {H : Hp} {c : TT} {tb : TS} {D : Ends} (W : Nat → L2.St → Hp → Prop) {m : Nat} (w0 : W m σ H) (hs : ∀ m σ' H', W m σ' H' → ∃ b, EvB c σ' H' b ∧ (b = true → ∀ H1, Same H' H1 → tb { D with nx := fun σ2 H2 => ∃ m', m' < m ∧ W m' σ2 H2, ct := fun σ2 H2 => ∃ m', m' < m ∧ W m' σ2 H2, bk := D.nx } σ' H1) ∧ (b = false → ∀ H1, Same H' H1 → D.nx σ' H1)) : tWhile c tb D σ H := by
  refine ⟨W, ⟨m, w0⟩, fun m σ' H' w => ?_⟩
  obtain ⟨b, hb, h1, h2⟩ := hs m σ' H' w
  refine hb H' (Same.refl _) _ fun H1 s => ?_
  cases b with
  | true => exact iteT ⟨_, fun _ _ n => n, h1 rfl H1 s⟩
  | false => exact iteF (h2 rfl H1 s)
section
variable {P : Program} {w : World} {K : PySem.W.Frag} {mg : Str → Option Value} {base : Heap} {lv : Nat} {x : Str} {st : Stmt} {ps N : List Str} {sp : Sp}
theorem Bn.okN (B : Bn K mg x st ps) (S : FnScope N ps (defScope st)) (len : ∀ vs H Q E, sp vs H Q E → vs.length = ps.length)
    (hbody : ∀ (f : Addr) (cdv : Value) (A : Around) (outer : List Env) (s : Shared) (H : Hp) (vs : List V) (Q : VK) (E : XK), Room lv (A.deeper (envOfC x (defScope st) s.heap.objs.size f cdv)) → sp vs H Q E →
      ∃ t, PSs (cxOf (L2N.CX P w) P w K mg base N x (defScope st) f cdv A outer s H E) (defBody st) t ∧ t { nx := fun _ H' => Q .non H', rt := Q } (start N vs) H) : Df P w K mg base (L2N.CX P w) (lv + 1) x ps sp := by
  obtain ⟨f, fd, F, hb, hm⟩ := B
  obtain ⟨oc, od, kV, doc, pm, an, cdv, ct, osl, e, lk, hcd⟩ := F.ex
  subst e
  exact ⟨f, _, fn_of lk hcd S len fun A outer s H vs Q E hr h => hbody f cdv A outer s H vs Q E hr h, hb, F.kp, hm⟩
end
def onO (o : Out) (f : PyData → Prop) (g : Str → Prop) : Prop := match o with
  | .ok d => f d
  | .err x => g x
/-- a call of a def that reckons or raises -/
theorem w_callO {mg : Str → Option Value} {R : List PyData → Out → Prop} {σ : L2.St} {H : Hp} {t : TA} {E : XK} {ds : List PyData} {o : Out} {Q : VK} (h : EvA t σ H ds) (hR : R ds o) (q : onO o (fun d => ∀ v H1, Same H H1 → Rp H1 d v → Q v H1) (fun x => ∀ C H1, mg x = some (.ref C) → Same H H1 → E (.ref C) none H1)) : tCall (spE mg R) [] E t σ H Q :=
  h H (Same.refl _) _ fun vs H1 s1 rs => ⟨ds, o, by rw [List.append_nil]; exact rs, hR, by
    cases o with
    | ok d => exact fun v H2 s2 r2 => q v H2 (s1.trans s2) r2
    | err x => exact fun C H2 g s2 => q C H2 g (s1.trans s2)⟩
theorem take1 {r : List Nat} {c : Nat} : (r.take 1 = [c]) ↔ r.head? = some c := by cases r <;> simp
section
variable {K : PySem.W.Frag} {σ : L2.St} {H : Hp} {ta ti tj : TE} {t r : List Nat} {c : Nat} {x : Str}
theorem ev_peek (h1 : EvD ta σ H (.str (sO t))) (hi : EvD ti σ H (.int (t.length - r.length : Nat))) (hj : EvD tj σ H (.int ((t.length - r.length : Nat) + 1))) (s : Sfx t r) (ok : lOk t = true) (hl : t.length ≤ 100000) (hx : x = sO [c]) (hc : c < 1114112) :
    EvD (tOp rEqP (tSl rSlS ta (tPart ti) (tPart tj)) (tC (.str x))) σ H (.bool (decide (r.head? = some c))) := by
  subst hx
  have := ev_cut (j := t.length - r.length + 1) h1 hi hj hl
  rw [s.drop, Nat.add_sub_cancel_left] at this
  refine (ev_eq this ev_str (okD_sO (lOk_sub (s.ok ok) fun y hy => List.mem_of_mem_take hy)) (okD_sO (by simp [lOk]; exact hc))).to ?_
  rw [eqv_sO]
  exact congrArg PyData.bool (decide_eq_decide.mpr take1)
theorem ev_peekN (h1 : EvD ta σ H (.str (sO t))) (hi : EvD ti σ H (.int (t.length - r.length : Nat))) (hj : EvD tj σ H (.int ((t.length - r.length : Nat) + 1))) (s : Sfx t r) (ok : lOk t = true) (hl : t.length ≤ 100000) (hx : x = sO [c]) (hc : c < 1114112) :
    EvD (tOp rNeP (tSl rSlS ta (tPart ti) (tPart tj)) (tC (.str x))) σ H (.bool (!decide (r.head? = some c))) := by
  subst hx
  have := ev_cut (j := t.length - r.length + 1) h1 hi hj hl
  rw [s.drop, Nat.add_sub_cancel_left] at this
  refine (ev_ne this ev_str (okD_sO (lOk_sub (s.ok ok) fun y hy => List.mem_of_mem_take hy)) (okD_sO (by simp [lOk]; exact hc))).to ?_
  rw [eqv_sO]
  exact congrArg (fun b => PyData.bool !b) (decide_eq_decide.mpr take1)
end
theorem takeW_len (p : Nat → Bool) (l : List Nat) : l.take (l.takeWhile p).length = l.takeWhile p := by
  conv => lhs; rw [← List.takeWhile_append_dropWhile (p := p) (l := l)]
  rw [List.takeWhile_append_dropWhile]
  have : l.takeWhile p <+: l := List.takeWhile_prefix p
  exact (List.prefix_iff_eq_take.mp this).symm
theorem dropW_len (p : Nat → Bool) (l : List Nat) : (l.takeWhile p).length + (l.dropWhile p).length = l.length := by
  rw [← List.length_append, List.takeWhile_append_dropWhile]
theorem partsW_fuel {F : List Nat → Option (Fm × List Nat)} (hF : ∀ r f r', F r = some (f, r') → Sfx r r') : ∀ (k : Nat) (r : List Nat) (n m : Nat), r.length ≤ k → r.length + 1 ≤ n → r.length + 1 ≤ m → partsW F n r = partsW F m r := by
  intro k
  induction k with
  | zero =>
    intro r n m hk hn hm
    obtain ⟨n', rfl⟩ : ∃ n', n = n' + 1 := ⟨n - 1, by omega⟩
    obtain ⟨m', rfl⟩ : ∃ m', m = m' + 1 := ⟨m - 1, by omega⟩
    rw [partsW, partsW]
    cases e : F r with
    | none => rfl
    | some q =>
      obtain ⟨f, r1⟩ := q
      have := (hF _ _ _ e).len
      obtain rfl : r1 = [] := List.length_eq_zero_iff.mp (by omega)
      simp
  | succ k ih =>
    intro r n m hk hn hm
    obtain ⟨n', rfl⟩ : ∃ n', n = n' + 1 := ⟨n - 1, by omega⟩
    obtain ⟨m', rfl⟩ : ∃ m', m = m' + 1 := ⟨m - 1, by omega⟩
    rw [partsW, partsW]
    cases e : F r with
    | none => rfl
    | some q =>
      obtain ⟨f, r1⟩ := q
      have := (hF _ _ _ e).len
      cases r1 with
      | nil => simp
      | cons c r2 =>
        simp only [List.length_cons] at this
        simp only [List.tail_cons, ih r2 n' m' (by omega) (by omega) (by omega)]
def addF (fs : List Fm) : Option (List Fm × List Nat) → Option (List Fm × List Nat)
  | none => none
  | some (gs, r) => some (fs ++ gs, r)
end Fx
/-! FxV: the text of a form, and what is read of it. -/
namespace Fx
open PySem L2 PySem.Spec PyProof.Rows
mutual
/-- the text of a form -/
def tx : Fm → List Nat
  | .gap n => 63 :: TL.numL n.toNat
  | .tie w [] => w.cps.toList
  | .tie w (p :: ps) => w.cps.toList ++ 40 :: (tx p ++ (txC ps ++ [41]))
/-- each with a comma ahead -/
def txC : List Fm → List Nat
  | [] => []
  | f :: fs => 44 :: (tx f ++ txC fs)
end
theorem txC_join : ∀ (p : Fm) (ps : List Fm), TL.joinL [44] ((p :: ps).map tx) = tx p ++ txC ps
  | p, [] => by simp [TL.joinL, txC]
  | p, q :: ps => by
    have := txC_join q ps
    simp only [List.map_cons] at this ⊢
    rw [TL.joinL, this, txC]
    simp
theorem comma_tl : (("," : Str)).cps.toList = [44] := by decide +kernel
theorem join_tx (p : Fm) (ps : List Fm) : Txt.join "," ((p :: ps).map fun f => sO (tx f)) = sO (tx p ++ txC ps) := by
  have h := TL.tl_join ("," : Str) ((p :: ps).map fun f => sO (tx f))
  have e : List.map TL.tl ((p :: ps).map fun f => sO (tx f)) = (p :: ps).map tx := by
    rw [List.map_map]
    exact List.map_congr_left fun f _ => sO_tl _
  rw [e, show TL.tl ("," : Str) = [44] from comma_tl, txC_join] at h
  rw [TL.join_eq, ← sO_of (Str.join _ _)]
  exact congrArg sO h
theorem numL_fig (n : Nat) : ∀ x, x ∈ TL.numL n → isFig x = true := fun x hx => (isFig_iff x).mpr (TL.numL_digits n x hx)
/-- what may stand behind a form -/
def Stop (r : List Nat) : Prop := r.head? = none ∨ r.head? = some 41 ∨ r.head? = some 44
theorem takeW_app {p : Nat → Bool} {a r : List Nat} (ha : ∀ x, x ∈ a → p x = true) (hr : ∀ c, r.head? = some c → p c = false) : (a ++ r).takeWhile p = a ∧ (a ++ r).dropWhile p = r := by
  induction a with
  | nil =>
    cases r with
    | nil => exact ⟨rfl, rfl⟩
    | cons c r =>
      have := hr c rfl
      simp [this]
  | cons x a ih =>
    obtain ⟨h1, h2⟩ := ih fun y hy => ha y (List.mem_cons_of_mem _ hy)
    have := ha x List.mem_cons_self
    simp [this, h1, h2]
theorem Stop.fig {r : List Nat} (h : Stop r) : ∀ c, r.head? = some c → isFig c = false := by
  intro c hc
  rcases h with h | h | h <;> rw [h] at hc <;> cases hc <;> rfl
theorem Stop.let {r : List Nat} (h : Stop r) : ∀ c, r.head? = some c → isLet c = false := by
  intro c hc
  have : c = 41 ∨ c = 44 := by rcases h with h | h | h <;> rw [h] at hc <;> cases hc <;> simp
  rw [Bool.eq_false_iff]
  intro z
  have := (isLet_iff c).mp z
  omega
theorem numOf_numL {n : Nat} (h : n ≤ 999) : numOf (TL.numL n) = some (n : Int) := by
  have h1 : (TL.numL n).length ≤ 3 := TL.numL_len (by decide) (by omega)
  have h2 := TL.numL_ne n
  have h3 : ∀ m, m < 1000 → (TL.numL m).head? = some 48 → TL.numL m = [48] := by
    intro m hm hh
    by_cases h : m < 10
    · rw [TL.numL_lt h] at hh ⊢
      simp at hh; rw [hh]
    · exfalso
      have e10 : ∀ a, 0 < a → a < 10 → (TL.numL a).head? = some 48 → False := fun a h0 h1 hh => by
        rw [TL.numL_lt h1] at hh; simp at hh; omega
      rw [TL.numL_step (by omega)] at hh
      by_cases h' : m / 10 < 10
      · have hne := TL.numL_ne (m / 10)
        obtain ⟨c, l, e⟩ := List.exists_cons_of_ne_nil hne
        rw [e] at hh
        refine e10 (m / 10) (by omega) h' ?_
        rw [e]; simpa using hh
      · rw [TL.numL_step (by omega), List.append_assoc] at hh
        have hne := TL.numL_ne (m / 10 / 10)
        obtain ⟨c, l, e⟩ := List.exists_cons_of_ne_nil hne
        rw [e] at hh
        refine e10 (m / 10 / 10) (by omega) (by omega) ?_
        rw [e]; simpa using hh
  unfold numOf
  rw [if_neg, TL.numL_val]
  rintro (h | h | ⟨ha, hb⟩)
  · exact h2 h
  · omega
  · exact hb (h3 n (by omega) ha)
theorem word_facts {w : Str} (h : wordOk w = true) : (∀ x, x ∈ w.cps.toList → isLet x = true) ∧ w.cps.toList ≠ [] ∧ w.cps.toList.length ≤ 8 := by
  unfold wordOk at h
  rw [Bool.and_eq_true, Bool.and_eq_true, decide_eq_true_eq, decide_eq_true_eq, List.all_eq_true] at h
  have hl : w.cps.toList.length = w.length := by simp [Str.length]
  refine ⟨h.2, fun z => ?_, by omega⟩
  rw [z] at hl; simp only [List.length_nil] at hl; omega
theorem head_let {l r : List Nat} (h1 : ∀ x, x ∈ l → isLet x = true) (h2 : l ≠ []) : ∃ c, (l ++ r).head? = some c ∧ 97 ≤ c := by
  obtain ⟨c, l', rfl⟩ := List.exists_cons_of_ne_nil h2
  exact ⟨c, rfl, ((isLet_iff c).mp (h1 c List.mem_cons_self)).1⟩
theorem txC_stop (ps : List Fm) (r : List Nat) : Stop (txC ps ++ 41 :: r) := by
  cases ps with
  | nil => exact .inr (.inl rfl)
  | cons f fs => exact .inr (.inr rfl)
theorem partsW_tx {F : List Nat → Option (Fm × List Nat)} (r : List Nat) : ∀ (ps : List Fm) (p : Fm) (n : Nat), (∀ f, f ∈ p :: ps → ∀ r, Stop r → F (tx f ++ r) = some (f, r)) → (tx p ++ (txC ps ++ 41 :: r)).length + 1 ≤ n → partsW F n (tx p ++ (txC ps ++ 41 :: r)) = some (p :: ps, r)
  | ps, p, 0, hF, hn => by omega
  | [], p, n + 1, hF, hn => by
    rw [partsW, hF p (by simp) _ (txC_stop [] r)]
    simp [txC]
  | q :: ps, p, n + 1, hF, hn => by
    rw [partsW, hF p (by simp) _ (txC_stop (q :: ps) r)]
    simp only [txC, List.cons_append, List.head?_cons, List.tail_cons, List.append_assoc]
    rw [if_neg (by decide), if_pos trivial, partsW_tx r ps q n (fun f hf => hF f (List.mem_cons_of_mem _ hf)) ?_]
    simp only [txC, List.length_append, List.length_cons] at hn ⊢
    omega
theorem formA_tx : ∀ (k : Nat) (f : Fm), fine f = true → f.dep ≤ k → ∀ r, Stop r → formA k (tx f ++ r) = some (f, r)
  | 0, f, hf, hd, r, hr => by have := f.dep_pos; omega
  | k + 1, .gap n, hf, hd, r, hr => by
    simp only [fine, Bool.and_eq_true, decide_eq_true_eq] at hf
    obtain ⟨t1, t2⟩ := takeW_app (p := isFig) (numL_fig n.toNat) hr.fig
    rw [formA, tx]
    simp only [List.cons_append, List.head?_cons, List.tail_cons, if_pos, t1, t2]
    rw [numOf_numL (by omega)]
    simp only [Option.some.injEq, Prod.mk.injEq, Fm.gap.injEq, and_true]
    omega
  | k + 1, .tie w [], hf, hd, r, hr => by
    simp only [fine, Bool.and_eq_true, decide_eq_true_eq] at hf
    obtain ⟨w1, w2, w3⟩ := word_facts hf.1.1
    obtain ⟨c, hc, hc2⟩ := head_let (r := r) w1 w2
    obtain ⟨t1, t2⟩ := takeW_app (p := isLet) w1 hr.let
    rw [formA, tx, hc, if_neg (fun z => by cases z; omega), t1, t2, if_neg (fun z => by rcases hr with h | h | h <;> rw [h] at z <;> cases z), sO_of]
  | k + 1, .tie w (p :: ps), hf, hd, r, hr => by
    simp only [fine, Bool.and_eq_true, decide_eq_true_eq] at hf
    obtain ⟨w1, w2, w3⟩ := word_facts hf.1.1
    have e : tx (.tie w (p :: ps)) ++ r = w.cps.toList ++ 40 :: (tx p ++ (txC ps ++ 41 :: r)) := by rw [tx]; simp
    obtain ⟨c, hc, hc2⟩ := head_let (r := 40 :: (tx p ++ (txC ps ++ 41 :: r))) w1 w2
    obtain ⟨t1, t2⟩ := takeW_app (p := isLet) (r := 40 :: (tx p ++ (txC ps ++ 41 :: r))) w1 (fun c hc => by cases hc; decide +kernel)
    rw [e, formA, hc, if_neg (fun z => by cases z; omega), t1, t2, List.head?_cons, if_pos rfl, List.tail_cons, sO_of]
    have hp := partsW_tx (F := formA k) r ps p ((tx p ++ (txC ps ++ 41 :: r)).length + 1) (fun f hfm r hr => formA_tx k f (fine_part hf.2 hfm) (by
      have := Fm.dep_part hfm
      simp only [Fm.dep] at hd
      omega) r hr) (Nat.le_refl _)
    rw [hp]
theorem readO_tx {f : Fm} (h : fine f = true) (hd : f.dep ≤ 40) (hs : f.sg ≤ 200) : readO (tx f) = .ok f.d := by
  have := formA_tx 40 f h hd [] (.inl rfl)
  rw [List.append_nil] at this
  unfold readO
  rw [this]
  show (match lookedO f with
    | .ok _ => Out.ok f.d
    | .err _ => .err "BadNote") = _
  unfold lookedO
  rw [if_pos h, if_neg (by omega)]
theorem formA_txN {f : Fm} (h : fine f = true) (hd : f.dep ≤ 40) : formA 40 (tx f) = some (f, []) := by
  have := formA_tx 40 f h hd [] (.inl rfl)
  rwa [List.append_nil] at this
mutual
theorem tx_len : ∀ f : Fm, fine f = true → (tx f).length + 1 ≤ 12 * f.sg
  | .gap n, h => by
    simp only [fine, Bool.and_eq_true, decide_eq_true_eq] at h
    have := TL.numL_len (n := n.toNat) (k := 3) (by decide) (by omega)
    simp only [tx, List.length_cons, Fm.sg]; omega
  | .tie w [], h => by
    simp only [fine, Bool.and_eq_true] at h
    obtain ⟨w1, w2, w3⟩ := word_facts h.1.1
    simp only [tx, Fm.sg, Fm.sgL]; omega
  | .tie w (p :: ps), h => by
    simp only [fine, fineL, Bool.and_eq_true] at h
    obtain ⟨w1, w2, w3⟩ := word_facts h.1.1
    have := tx_len p h.2.1
    have := txC_len ps h.2.2
    simp only [tx, Fm.sg, Fm.sgL, List.length_append, List.length_cons, List.length_nil]; omega
theorem txC_len : ∀ fs : List Fm, fineL fs = true → (txC fs).length ≤ 12 * Fm.sgL fs
  | [], _ => by simp [txC]
  | f :: fs, h => by
    simp only [fineL, Bool.and_eq_true] at h
    have := tx_len f h.1
    have := txC_len fs h.2
    have : 1 ≤ f.sg := by cases f <;> simp [Fm.sg]
    simp only [txC, Fm.sgL, List.length_append, List.length_cons]; omega
end
theorem okD_parts {ps : List Fm} (h : Fm.okL ps = true) (hd : Fm.depL ps ≤ 90) : okD (.tuple (ps.map Fm.d)) = true := by
  unfold okD
  rw [← Fm.dL_map, Bool.and_eq_true]
  have := Fm.depth_dL ps
  refine ⟨by simp only [PyData.canLay0]; exact Fm.layL ps h, decide_eq_true (by simp only [PyData.depth]; omega)⟩
/-- shown(form), _law_text(form) -/
def spText (n : Nat) : Sp := spP fun ds r => ∃ f : Fm, ds = [f.d] ∧ r = .str (sO (tx f)) ∧ f.dep ≤ n ∧ fine f = true ∧ f.ok = true ∧ f.sg ≤ 500 ∧ f.dep ≤ 90
theorem spText.no : ∀ vs H Q E, ¬ spText 0 vs H Q E := fun vs H Q E ⟨ds, r, _, ⟨f, _, _, hd, _⟩, _⟩ => by have := f.dep_pos; omega
theorem spText.len {n : Nat} : ∀ vs H Q E, spText n vs H Q E → vs.length = 1 := spP.len fun ds d ⟨f, e, _⟩ => by rw [e]; rfl
mutual
theorem fine_ok : ∀ f : Fm, fine f = true → f.ok = true ∧ f.sw = true ∧ lOk (tx f) = true
  | .gap n, h => by
    refine ⟨rfl, rfl, ?_⟩
    rw [tx]
    unfold lOk
    rw [List.all_cons, Bool.and_eq_true, List.all_eq_true]
    refine ⟨by decide, fun x hx => decide_eq_true ?_⟩
    have := (isFig_iff x).mp (numL_fig _ x hx)
    omega
  | .tie w ps, h => by
    simp only [fine, Bool.and_eq_true, decide_eq_true_eq] at h
    obtain ⟨a1, a2, a3⟩ := fine_okL ps h.2
    obtain ⟨w1, w2, w3⟩ := word_facts h.1.1
    have lw : lOk w.cps.toList = true := by
      unfold lOk
      rw [List.all_eq_true]
      intro x hx
      have := (isLet_iff x).mp (w1 x hx)
      exact decide_eq_true (by omega)
    have hw : PyData.strOk w = true := by rw [← sO_of w]; exact strOk_sO lw
    have hl : w.length ≤ 8 := by have : w.cps.toList.length = w.length := by simp [Str.length]
                                 omega
    refine ⟨?_, ?_, ?_⟩
    · simp only [Fm.ok, Bool.and_eq_true, decide_eq_true_eq]; exact ⟨⟨hw, by omega⟩, a1⟩
    · simp only [Fm.sw, Bool.and_eq_true, decide_eq_true_eq]; exact ⟨by omega, a2⟩
    · cases ps with
      | nil => rw [tx]; exact lw
      | cons p ps =>
        have e : txC (p :: ps) = 44 :: (tx p ++ txC ps) := rfl
        rw [e, lOk, List.all_cons, Bool.and_eq_true] at a3
        have a4 : lOk (tx p ++ txC ps) = true := a3.2
        rw [lOk_app, Bool.and_eq_true] at a4
        rw [tx, lOk_app, Bool.and_eq_true]
        refine ⟨lw, ?_⟩
        rw [lOk, List.all_cons, Bool.and_eq_true]
        refine ⟨by decide, ?_⟩
        show lOk _ = true
        rw [lOk_app, lOk_app, a4.1, a4.2]; rfl
theorem fine_okL : ∀ fs : List Fm, fineL fs = true → Fm.okL fs = true ∧ Fm.swL fs = true ∧ lOk (txC fs) = true
  | [], _ => ⟨rfl, rfl, rfl⟩
  | f :: fs, h => by
    simp only [fineL, Bool.and_eq_true] at h
    obtain ⟨a1, a2, a3⟩ := fine_ok f h.1
    obtain ⟨b1, b2, b3⟩ := fine_okL fs h.2
    refine ⟨by simp only [Fm.okL, Bool.and_eq_true]; exact ⟨a1, b1⟩, by simp only [Fm.swL, Bool.and_eq_true]; exact ⟨a2, b2⟩, ?_⟩
    rw [txC, lOk, List.all_cons, Bool.and_eq_true]
    refine ⟨by decide, ?_⟩
    show lOk _ = true
    rw [lOk_app, a3, b3]; rfl
end
mutual
theorem fine_fill {m : FI} (hm : ∀ p, p ∈ m → fine p.2 = true) : ∀ f : Fm, fine f = true → fine (fill m f) = true
  | .gap k, h => by
    rw [fill]
    cases e : lk m k with
    | none => exact h
    | some g => exact hm _ (lk_mem e)
  | .tie w ps, h => by
    simp only [fine, Bool.and_eq_true, decide_eq_true_eq] at h
    simp only [fill, fine, Bool.and_eq_true, decide_eq_true_eq, fillL_length]
    exact ⟨h.1, fine_fillL hm ps h.2⟩
theorem fine_fillL {m : FI} (hm : ∀ p, p ∈ m → fine p.2 = true) : ∀ fs : List Fm, fineL fs = true → fineL (fillL m fs) = true
  | [], _ => rfl
  | f :: fs, h => by
    simp only [fineL, Bool.and_eq_true] at h
    simp only [fillL, fineL, Bool.and_eq_true]
    exact ⟨fine_fill hm f h.1, fine_fillL hm fs h.2⟩
end
theorem ev_cellE {K : PySem.W.Frag} {σ : L2.St} {H : Hp} {i : Nat} {a : Addr} {ns : List Int} {k : Nat} {E : XK} {tk : TE} (h : σ[i]? = some (some (.ref a))) (hS : SqL K H a (ns.map V.int)) (hk : EvD tk σ H (.int k)) : EvD (tCall (spCell K) [] E (tCons (tVar i) (tCons tk tNil))) σ H (.int (cellAt ns k)) := fun H1 s Q q =>
  ⟨.ref a, h, hk H1 s _ fun v H2 s2 r2 => by
    cases (show v = V.int k from r2)
    exact ⟨a, ns, k, rfl, (s.trans s2).seq hS, fun H' s' => q _ H' (s2.trans s') rfl⟩⟩
end Fx
/-! FxW: texts read by a pile (law k14): mathematics. -/
namespace Fx
open PySem L2 PySem.Spec PyProof.Rows
/-- neither bracket nor comma -/
def nS (c : Nat) : Bool := !(decide (c = 40) || decide (c = 41) || decide (c = 44))
def nameL (w : List Nat) : Bool := (decide (1 ≤ (w.length : Int)) && decide ((w.length : Int) ≤ 8)) && w.all isLet
def leafL (w : List Nat) : Option Fm := if w.take 1 = [63] then
    (if w.tail = [] ∨ 3 < w.tail.length ∨ (w.tail.head? = some 48 ∧ w.tail ≠ [48]) then none
     else if w.tail.all isFig then some (.gap ((NumText.digitsVal w.tail : Nat) : Int)) else none)
  else if nameL w then some (.tie (sO w) []) else none
/-- a pile: its frames, the top one last; the word so far; the form that is done -/
structure Pl where
  fr : List (List Nat × List Fm)
  wd : List Nat
  dn : Option Fm
/-- one sign -/
def stepP (c : Nat) (s : Pl) : Option Pl :=
  if c = 40 then (if s.dn.isSome || !nameL s.wd then none else some ⟨s.fr ++ [(s.wd, [])], [], none⟩)
  else if c = 44 ∨ c = 41 then
    match (match s.dn with | some f => some f | none => leafL s.wd) with
    | none => none
    | some f => if (s.fr.length = 1 ∧ c = 44) ∨ s.fr.length = 0 then none
      else match s.fr.getLast? with
        | none => none
        | some (w, fs) => if c = 41 then
            (if 4 < fs.length + 1 then none
             else if s.fr.length = 1 then some ⟨s.fr.dropLast, [], (fs ++ [f]).head?⟩
             else some ⟨s.fr.dropLast, [], some (.tie (sO w) (fs ++ [f]))⟩)
          else some ⟨s.fr.dropLast ++ [(w, fs ++ [f])], [], none⟩
  else if s.dn.isSome then none else some ⟨s.fr, s.wd ++ [c], none⟩
def accP : List Nat → Pl → Option Fm
  | [], s => if s.fr = [] then s.dn else none
  | c :: r, s => match stepP c s with
    | none => none
    | some s' => accP r s'
def dueL (t : List Nat) : Option Fm := accP (t ++ [41]) ⟨[([], [])], [], none⟩
/-- the strict parser -/
def gS : Nat → List Nat → Option (Fm × List Nat)
  | 0, _ => none
  | k + 1, r => if (r.dropWhile nS).head? = some 40 then
      (if nameL (r.takeWhile nS) then (match partsW (gS k) ((r.dropWhile nS).tail.length + 1) (r.dropWhile nS).tail with
        | none => none
        | some (ps, r') => if ps.length ≤ 4 then some (.tie (sO (r.takeWhile nS)) ps, r') else none) else none)
    else (match leafL (r.takeWhile nS) with
      | none => none
      | some f => some (f, r.dropWhile nS))
theorem gS_sfx : ∀ k r f r', gS k r = some (f, r') → Sfx r r'
  | 0, r, f, r', h => by simp [gS] at h
  | k + 1, r, f, r', h => by
    rw [gS] at h
    by_cases h1 : (r.dropWhile nS).head? = some 40
    · rw [if_pos h1] at h
      by_cases h2 : nameL (r.takeWhile nS) = true
      · rw [if_pos h2] at h
        cases e : partsW (gS k) ((r.dropWhile nS).tail.length + 1) (r.dropWhile nS).tail with
        | none => rw [e] at h; cases h
        | some q =>
          obtain ⟨ps, r1⟩ := q
          simp only [e] at h
          by_cases h3 : ps.length ≤ 4
          · rw [if_pos h3] at h
            simp only [Option.some.injEq, Prod.mk.injEq] at h
            rw [← h.2]
            exact ((Sfx.dropW _ _).trans (Sfx.tail _)).trans (partsW_sfx (gS_sfx k) _ _ _ _ e)
          · rw [if_neg h3] at h; cases h
      · rw [if_neg h2] at h; cases h
    · rw [if_neg h1] at h
      cases e : leafL (r.takeWhile nS) with
      | none => rw [e] at h; cases h
      | some g =>
        simp only [e, Option.some.injEq, Prod.mk.injEq] at h
        rw [← h.2]; exact Sfx.dropW _ _
/-! ### the pile and the strict parser -/
theorem accP_word {fr : List (List Nat × List Fm)} : ∀ (a r : List Nat) (w : List Nat), (∀ x, x ∈ a → nS x = true) → accP (a ++ r) ⟨fr, w, none⟩ = accP r ⟨fr, w ++ a, none⟩
  | [], r, w, _ => by simp
  | c :: a, r, w, h => by
    have hc := h c List.mem_cons_self
    unfold nS at hc
    simp only [Bool.not_eq_true', Bool.or_eq_false_iff, decide_eq_false_iff_not] at hc
    have e : stepP c ⟨fr, w, none⟩ = some ⟨fr, w ++ [c], none⟩ := by
      unfold stepP
      rw [if_neg hc.1.1, if_neg (by omega)]
      simp
    rw [List.cons_append, accP, e]
    show accP (a ++ r) _ = _
    rw [accP_word a r _ fun x hx => h x (List.mem_cons_of_mem _ hx)]
    simp
def cnt40 (r : List Nat) : Nat := r.count 40
theorem cnt40_sfx {a b : List Nat} (h : Sfx a b) : cnt40 b ≤ cnt40 a := by
  obtain ⟨p, rfl⟩ := h
  unfold cnt40
  rw [List.count_append]; omega
theorem head_sep {r : List Nat} {c : Nat} {r2 : List Nat} (h : r.dropWhile nS = c :: r2) : c = 40 ∨ c = 41 ∨ c = 44 := by
  have : nS c = false := by
    have := List.head?_dropWhile_not (p := nS) (l := r)
    rw [h] at this
    simpa using this
  unfold nS at this
  simp only [Bool.not_eq_false', Bool.or_eq_true, decide_eq_true_eq] at this
  omega
theorem parts_acc {k : Nat} (ih : ∀ (r : List Nat) (fr : List (List Nat × List Fm)), fr ≠ [] → cnt40 r < k → accP r ⟨fr, [], none⟩ = match gS k r with
      | none => none
      | some (f, r') => accP r' ⟨fr, [], some f⟩) : ∀ (n : Nat) (r : List Nat) (fr : List (List Nat × List Fm)) (w : List Nat) (fs : List Fm), fr ≠ [] → cnt40 r < k → r.length + 1 ≤ n →
    accP r ⟨fr ++ [(w, fs)], [], none⟩ = match partsW (gS k) n r with
      | none => none
      | some (ps, r') => if (fs ++ ps).length ≤ 4 then accP r' ⟨fr, [], some (.tie (sO w) (fs ++ ps))⟩ else none
  | 0, r, fr, w, fs, hf, hk, hn => by omega
  | n + 1, r, fr, w, fs, hf, hk, hn => by
    rw [ih r _ (by simp) hk, partsW]
    cases e : gS k r with
    | none => rfl
    | some q =>
      obtain ⟨f, r1⟩ := q
      have s1 := gS_sfx _ _ _ _ e
      have hl := s1.len
      have hfl : 0 < fr.length := List.length_pos_iff.mpr hf
      cases r1 with
      | nil => simp [accP]
      | cons c r2 =>
        simp only [List.length_cons] at hl
        by_cases c1 : c = 41
        · subst c1
          simp only [List.head?_cons, if_pos, List.tail_cons, accP]
          have es : stepP 41 ⟨fr ++ [(w, fs)], [], some f⟩ = if 4 < fs.length + 1 then none else some ⟨fr, [], some (.tie (sO w) (fs ++ [f]))⟩ := by
            unfold stepP
            rw [if_neg (by decide), if_pos (.inr rfl)]
            simp only [List.length_append, List.length_singleton]
            rw [if_neg (by omega)]
            simp only [List.getLast?_concat, List.dropLast_concat, if_pos]
            by_cases h4 : 4 < fs.length + 1
            · rw [if_pos h4, if_pos h4]
            · rw [if_neg h4, if_neg h4, if_neg (by omega)]
          rw [es]
          by_cases h4 : 4 < fs.length + 1
          · rw [if_pos h4, if_neg (by simp; omega)]
          · rw [if_neg h4, if_pos (by simp; omega)]
        · by_cases c2 : c = 44
          · subst c2
            simp only [List.head?_cons, List.tail_cons, accP]
            rw [if_neg (by decide), if_pos trivial]
            have es : stepP 44 ⟨fr ++ [(w, fs)], [], some f⟩ = some ⟨fr ++ [(w, fs ++ [f])], [], none⟩ := by
              unfold stepP
              rw [if_neg (by decide), if_pos (.inl rfl)]
              simp only [List.length_append, List.length_singleton]
              rw [if_neg (by omega)]
              simp only [List.getLast?_concat, List.dropLast_concat]
              rw [if_neg (by decide)]
            rw [es]
            show accP r2 _ = _
            have s2 : Sfx r r2 := s1.trans (Sfx.tail _)
            rw [parts_acc ih n r2 fr w (fs ++ [f]) hf (by have := cnt40_sfx s2; omega) (by omega)]
            cases partsW (gS k) n r2 with
            | none => rfl
            | some q2 =>
              obtain ⟨ps, r3⟩ := q2
              simp
          · have es : stepP c ⟨fr ++ [(w, fs)], [], some f⟩ = none := by
              unfold stepP
              by_cases c3 : c = 40
              · rw [if_pos c3]; rfl
              · rw [if_neg c3, if_neg (by omega)]; rfl
            show accP (c :: r2) _ = _
            rw [accP, es]
            simp only [List.head?_cons, Option.some.injEq, if_neg c1, if_neg c2]
theorem gS_acc : ∀ (k : Nat) (r : List Nat) (fr : List (List Nat × List Fm)), fr ≠ [] → cnt40 r < k → accP r ⟨fr, [], none⟩ = match gS k r with
      | none => none
      | some (f, r') => accP r' ⟨fr, [], some f⟩
  | 0, r, fr, hf, hk => by omega
  | k + 1, r, fr, hf, hk => by
    have hfl : 0 < fr.length := List.length_pos_iff.mpr hf
    have e1 : accP r ⟨fr, [], none⟩ = accP (r.dropWhile nS) ⟨fr, r.takeWhile nS, none⟩ := by
      conv => lhs; rw [← List.takeWhile_append_dropWhile (p := nS) (l := r)]
      rw [accP_word _ _ _ fun x hx => by
        have := List.all_takeWhile (p := nS) (l := r)
        rw [List.all_eq_true] at this
        exact this x hx]
      simp
    rw [e1, gS]
    have sd := Sfx.dropW nS r
    cases ed : r.dropWhile nS with
    | nil =>
      simp only [List.head?_nil, reduceCtorEq, if_false, accP]
      rw [if_neg hf]
      cases leafL (r.takeWhile nS) with
      | none => rfl
      | some f => simp [accP, hf]
    | cons c r2 =>
      rw [ed] at sd
      have hc := cnt40_sfx sd
      rcases head_sep ed with rfl | h2
      · simp only [List.head?_cons, if_pos, List.tail_cons, accP]
        have hc2 : cnt40 (40 :: r2) = cnt40 r2 + 1 := by simp [cnt40]
        have es : stepP 40 ⟨fr, r.takeWhile nS, none⟩ = if nameL (r.takeWhile nS) = true then some ⟨fr ++ [(r.takeWhile nS, [])], [], none⟩ else none := by
          unfold stepP
          rw [if_pos rfl]
          by_cases hn : nameL (r.takeWhile nS) = true
          · rw [hn]; rfl
          · rw [Bool.eq_false_iff.mpr hn]; rfl
        rw [es]
        by_cases hn : nameL (r.takeWhile nS) = true
        · rw [if_pos hn, if_pos hn]
          show accP r2 _ = _
          rw [parts_acc (gS_acc k) (r2.length + 1) r2 fr (r.takeWhile nS) [] hf (by omega) (Nat.le_refl _)]
          cases partsW (gS k) (r2.length + 1) r2 with
          | none => rfl
          | some q =>
            obtain ⟨ps, r3⟩ := q
            simp only [List.nil_append]
            by_cases h4 : ps.length ≤ 4
            · rw [if_pos h4, if_pos h4]
            · rw [if_neg h4, if_neg h4]
        · rw [if_neg hn, if_neg hn]
      · rw [List.head?_cons, if_neg (fun z => by cases z; omega)]
        cases el : leafL (r.takeWhile nS) with
        | none =>
          rw [accP]
          have es : stepP c ⟨fr, r.takeWhile nS, none⟩ = none := by
            unfold stepP
            rw [if_neg (by omega), if_pos (by omega)]
            simp only [el]
          rw [es]
        | some f =>
          show _ = accP (c :: r2) ⟨fr, [], some f⟩
          rw [accP, accP]
          have es : stepP c ⟨fr, r.takeWhile nS, none⟩ = stepP c ⟨fr, [], some f⟩ := by
            unfold stepP
            rw [if_neg (by omega), if_pos (by omega), if_neg (by omega), if_pos (by omega)]
            simp only [el]
          rw [es]
theorem due_gS {t : List Nat} {k : Nat} (hk : cnt40 t < k) {f : Fm} : dueL t = some f ↔ gS k (t ++ [41]) = some (f, [41]) := by
  have hc : cnt40 (t ++ [41]) = cnt40 t := by simp [cnt40]
  unfold dueL
  rw [gS_acc k _ _ (by simp) (by omega)]
  cases e : gS k (t ++ [41]) with
  | none => simp
  | some q =>
    obtain ⟨g, r⟩ := q
    show accP r _ = _ ↔ _
    cases r with
    | nil => simp [accP]
    | cons c r2 =>
      by_cases c1 : c = 41
      · subst c1
        have es : stepP 41 ⟨[([], [])], [], some g⟩ = some ⟨[], [], some g⟩ := by simp [stepP]
        rw [accP, es]
        show accP r2 ⟨[], [], some g⟩ = _ ↔ _
        cases r2 with
        | nil => simp [accP]
        | cons d r3 =>
          have es : stepP d ⟨[], [], some g⟩ = none := by
            unfold stepP
            by_cases d1 : d = 40
            · rw [if_pos d1]; rfl
            · rw [if_neg d1]
              by_cases d2 : d = 44 ∨ d = 41
              · rw [if_pos d2]; simp
              · rw [if_neg d2]; rfl
          rw [accP, es]
          simp
      · have es : stepP c ⟨[([], [])], [], some g⟩ = none := by
          unfold stepP
          by_cases d1 : c = 40
          · rw [if_pos d1]; rfl
          · rw [if_neg d1]
            by_cases d2 : c = 44 ∨ c = 41
            · rw [if_pos d2]
              have : c = 44 := by omega
              subst this; simp
            · rw [if_neg d2]; rfl
        rw [accP, es]
        constructor
        · intro z; cases z
        · intro z
          simp only [Option.some.injEq, Prod.mk.injEq, List.cons.injEq] at z
          exact absurd z.2.1 c1
end Fx
/-! FxX: the strict parser and the program's. -/
namespace Fx
open PySem L2 PySem.Spec PyProof.Rows
theorem wordOk_sO (w : List Nat) : wordOk (sO w) = nameL w := by
  unfold wordOk nameL
  rw [sO_len, sO_tl]
theorem digits_lt : ∀ (l : List Nat) (a : Nat), (∀ x, x ∈ l → isFig x = true) → l.foldl (fun acc c => acc * 10 + (c - 48)) a < (a + 1) * 10 ^ l.length
  | [], a, _ => by simp
  | c :: l, a, h => by
    have hc := (isFig_iff c).mp (h c List.mem_cons_self)
    have := digits_lt l (a * 10 + (c - 48)) fun x hx => h x (List.mem_cons_of_mem _ hx)
    simp only [List.foldl_cons, List.length_cons]
    refine Nat.lt_of_lt_of_le this ?_
    rw [Nat.pow_succ, Nat.mul_comm (10 ^ l.length) 10, ← Nat.mul_assoc]
    exact Nat.mul_le_mul_right _ (by omega)
theorem digitsVal_lt {l : List Nat} (h : ∀ x, x ∈ l → isFig x = true) (hl : l.length ≤ 3) : NumText.digitsVal l < 1000 := by
  have h1 : NumText.digitsVal l < (0 + 1) * 10 ^ l.length := digits_lt l 0 h
  have : 10 ^ l.length ≤ 10 ^ 3 := Nat.pow_le_pow_right (by decide) hl
  omega
theorem leafL_q (ds : List Nat) : leafL (63 :: ds) = if ds = [] ∨ 3 < ds.length ∨ (ds.head? = some 48 ∧ ds ≠ [48]) then none else if ds.all isFig then some (.gap ((NumText.digitsVal ds : Nat) : Int)) else none := rfl
theorem leafL_some {w : List Nat} {f : Fm} (h : leafL w = some f) : fine f = true ∧ ((∃ ds n, w = 63 :: ds ∧ f = .gap n ∧ numOf ds = some n ∧ (∀ x, x ∈ ds → isFig x = true)) ∨ (f = .tie (sO w) [] ∧ nameL w = true)) := by
  by_cases h1 : w.take 1 = [63]
  · obtain ⟨ds, rfl⟩ : ∃ ds, w = 63 :: ds := by
      cases w with
      | nil => simp at h1
      | cons a ds => simp at h1; subst h1; exact ⟨ds, rfl⟩
    rw [leafL_q] at h
    by_cases h2 : ds = [] ∨ 3 < ds.length ∨ (ds.head? = some 48 ∧ ds ≠ [48])
    · rw [if_pos h2] at h; cases h
    · rw [if_neg h2] at h
      by_cases h3 : ds.all isFig = true
      · rw [if_pos h3] at h
        rw [List.all_eq_true] at h3
        cases h
        have h3l : ds.length ≤ 3 := by
          by_cases z : 3 < ds.length
          · exact absurd (.inr (.inl z)) h2
          · omega
        have := digitsVal_lt h3 h3l
        refine ⟨?_, .inl ⟨ds, _, rfl, rfl, ?_, h3⟩⟩
        · simp only [fine, Bool.and_eq_true, decide_eq_true_eq]; omega
        · unfold numOf; rw [if_neg h2]
      · rw [if_neg h3] at h; cases h
  · unfold leafL at h
    rw [if_neg h1] at h
    by_cases h2 : nameL w = true
    · rw [if_pos h2] at h
      cases h
      refine ⟨?_, .inr ⟨rfl, h2⟩⟩
      simp only [fine, fineL, Bool.and_eq_true, decide_eq_true_eq, wordOk_sO]
      exact ⟨⟨h2, by simp⟩, trivial⟩
    · rw [if_neg h2] at h; cases h
theorem nameL_facts {w : List Nat} (h : nameL w = true) : (∀ x, x ∈ w → isLet x = true) ∧ w ≠ [] := by
  rw [← wordOk_sO] at h
  have := word_facts h
  rw [sO_tl] at this
  exact ⟨this.1, this.2.1⟩
theorem nS_let {c : Nat} (h : isLet c = true) : nS c = true := by
  have := (isLet_iff c).mp h
  unfold nS
  simp only [Bool.not_eq_true', Bool.or_eq_false_iff, decide_eq_false_iff_not]; omega
theorem nS_fig {c : Nat} (h : isFig c = true) : nS c = true := by
  have := (isFig_iff c).mp h
  unfold nS
  simp only [Bool.not_eq_true', Bool.or_eq_false_iff, decide_eq_false_iff_not]; omega
theorem drop_head {r : List Nat} {p : Nat → Bool} : ∀ c, (r.dropWhile p).head? = some c → p c = false := by
  intro c h
  have := List.head?_dropWhile_not (p := p) (l := r)
  rw [h] at this
  simpa using this
theorem partsW_map {F G : List Nat → Option (Fm × List Nat)} : ∀ (n : Nat) (r : List Nat) (fs : List Fm) (r' : List Nat), (∀ r f r', f ∈ fs → F r = some (f, r') → Stop r' → G r = some (f, r')) → partsW F n r = some (fs, r') → partsW G n r = some (fs, r')
  | 0, r, fs, r', _, h => by simp [partsW] at h
  | n + 1, r, fs, r', hG, h => by
    rw [partsW] at h ⊢
    cases e : F r with
    | none => rw [e] at h; cases h
    | some q =>
      obtain ⟨f, r1⟩ := q
      simp only [e] at h
      by_cases h1 : r1.head? = some 41
      · rw [if_pos h1] at h
        cases h
        rw [hG r f r1 (by simp) e (.inr (.inl h1))]
        simp only [if_pos h1]
      · rw [if_neg h1] at h
        by_cases h2 : r1.head? = some 44
        · rw [if_pos h2] at h
          cases e2 : partsW F n r1.tail with
          | none => rw [e2] at h; cases h
          | some q2 =>
            obtain ⟨gs, r2⟩ := q2
            simp only [e2] at h
            cases h
            rw [hG r f r1 (by simp) e (.inr (.inr h2))]
            simp only [if_neg h1, if_pos h2]
            rw [partsW_map n _ _ _ (fun r g r' hg => hG r g r' (List.mem_cons_of_mem _ hg)) e2]
        · rw [if_neg h2] at h; cases h
theorem gS_formA : ∀ (k : Nat) (r : List Nat) (f : Fm) (r' : List Nat), gS k r = some (f, r') → formA k r = some (f, r') ∧ fine f = true
  | 0, r, f, r', h => by simp [gS] at h
  | k + 1, r, f, r', h => by
    rw [gS] at h
    have er := List.takeWhile_append_dropWhile (p := nS) (l := r)
    have hd := drop_head (r := r) (p := nS)
    generalize r.takeWhile nS = wd at er h
    generalize r.dropWhile nS = r1 at er h hd
    subst er
    by_cases h1 : r1.head? = some 40
    · rw [if_pos h1] at h
      obtain ⟨r2, rfl⟩ : ∃ r2, r1 = 40 :: r2 := by
        cases r1 with
        | nil => cases h1
        | cons a r2 => simp only [List.head?_cons, Option.some.injEq] at h1; subst h1; exact ⟨r2, rfl⟩
      simp only [List.tail_cons] at h
      by_cases h2 : nameL wd = true
      · rw [if_pos h2] at h
        obtain ⟨w1, w2⟩ := nameL_facts h2
        cases e : partsW (gS k) (r2.length + 1) r2 with
        | none => rw [e] at h; cases h
        | some q =>
          obtain ⟨ps, r3⟩ := q
          simp only [e] at h
          by_cases h3 : ps.length ≤ 4
          · rw [if_pos h3] at h
            cases h
            have hp := partsW_map (G := formA k) _ _ _ _ (fun r g r' _ hg _ => (gS_formA k r g r' hg).1) e
            have hfi := partsW_mem (P := fun f => fine f = true) (fun r g r' hg => (gS_formA k r g r' hg).2) _ _ _ _ e
            obtain ⟨c, hc, hc2⟩ := head_let (r := 40 :: r2) w1 w2
            obtain ⟨t1, t2⟩ := takeW_app (p := isLet) (r := 40 :: r2) w1 (fun c hc => by cases hc; decide +kernel)
            refine ⟨?_, ?_⟩
            · rw [formA, hc, if_neg (fun z => by cases z; omega), t1, t2, List.head?_cons, if_pos rfl, List.tail_cons, hp]
            · simp only [fine, Bool.and_eq_true, decide_eq_true_eq, wordOk_sO]
              refine ⟨⟨h2, h3⟩, ?_⟩
              rw [fineL_all, List.all_eq_true]; exact hfi
          · rw [if_neg h3] at h; cases h
      · rw [if_neg h2] at h; cases h
    · rw [if_neg h1] at h
      cases e : leafL wd with
      | none => rw [e] at h; cases h
      | some g =>
        simp only [e] at h
        cases h
        obtain ⟨hf, ⟨ds, n, rfl, rfl, hn, hds⟩ | ⟨rfl, hw⟩⟩ := leafL_some e
        · refine ⟨?_, hf⟩
          obtain ⟨t1, t2⟩ := takeW_app (p := isFig) (r := r') hds (fun c hc => by
            rw [Bool.eq_false_iff]; intro z
            have := hd c hc
            rw [nS_fig z] at this; cases this)
          rw [formA]
          simp only [List.cons_append, List.head?_cons, List.tail_cons, if_pos, t1, t2, hn]
        · refine ⟨?_, hf⟩
          obtain ⟨w1, w2⟩ := nameL_facts hw
          obtain ⟨c, hc, hc2⟩ := head_let (r := r') w1 w2
          obtain ⟨t1, t2⟩ := takeW_app (p := isLet) (r := r') w1 (fun c hc => by
            rw [Bool.eq_false_iff]; intro z
            have := hd c hc
            rw [nS_let z] at this; cases this)
          rw [formA, hc, if_neg (fun z => by cases z; omega), t1, t2, if_neg h1]
theorem Stop.nS {r : List Nat} (h : Stop r) : ∀ c, r.head? = some c → Fx.nS c = false := by
  intro c hc
  rcases h with h | h | h <;> rw [h] at hc <;> cases hc <;> rfl
theorem formA_gS : ∀ (k : Nat) (r : List Nat) (f : Fm) (r' : List Nat), formA k r = some (f, r') → fine f = true → Stop r' → gS k r = some (f, r')
  | 0, r, f, r', h, _, _ => by simp [formA] at h
  | k + 1, r, f, r', h, hf, hs => by
    rw [formA] at h
    by_cases h1 : r.head? = some 63
    · rw [if_pos h1] at h
      obtain ⟨r1, rfl⟩ : ∃ r1, r = 63 :: r1 := by
        cases r with
        | nil => cases h1
        | cons a r1 => simp only [List.head?_cons, Option.some.injEq] at h1; subst h1; exact ⟨r1, rfl⟩
      simp only [List.tail_cons] at h
      cases e : numOf (r1.takeWhile isFig) with
      | none => rw [e] at h; cases h
      | some n =>
        simp only [e] at h
        cases h
        have er := List.takeWhile_append_dropWhile (p := isFig) (l := r1)
        have ha : ∀ x, x ∈ r1.takeWhile isFig → isFig x = true := fun x hx => by
          have := List.all_takeWhile (p := isFig) (l := r1)
          rw [List.all_eq_true] at this
          exact this x hx
        generalize r1.takeWhile isFig = ds at er e ha
        generalize r1.dropWhile isFig = r2 at er hs
        subst er
        obtain ⟨t1, t2⟩ := takeW_app (p := Fx.nS) (a := 63 :: ds) (r := r2) (fun x hx => by
          rcases List.mem_cons.mp hx with rfl | hx
          · rfl
          · exact nS_fig (ha x hx)) hs.nS
        rw [List.cons_append] at t1 t2
        rw [gS, t1, t2, if_neg (fun z => by rcases hs with h | h | h <;> rw [h] at z <;> cases z)]
        unfold numOf at e
        by_cases h2 : ds = [] ∨ 3 < ds.length ∨ (ds.head? = some 48 ∧ ds ≠ [48])
        · rw [if_pos h2] at e; cases e
        · rw [if_neg h2] at e
          cases e
          have : leafL (63 :: ds) = some (.gap ((NumText.digitsVal ds : Nat) : Int)) := by
            rw [leafL_q, if_neg h2, if_pos (by rw [List.all_eq_true]; exact ha)]
          rw [this]
    · rw [if_neg h1] at h
      have er := List.takeWhile_append_dropWhile (p := isLet) (l := r)
      have ha : ∀ x, x ∈ r.takeWhile isLet → isLet x = true := fun x hx => by
        have := List.all_takeWhile (p := isLet) (l := r)
        rw [List.all_eq_true] at this
        exact this x hx
      generalize r.takeWhile isLet = wd at er h ha
      generalize r.dropWhile isLet = r1 at er h
      subst er
      by_cases h2 : r1.head? = some 40
      · rw [if_pos h2] at h
        obtain ⟨r2, rfl⟩ : ∃ r2, r1 = 40 :: r2 := by
          cases r1 with
          | nil => cases h2
          | cons a r2 => simp only [List.head?_cons, Option.some.injEq] at h2; subst h2; exact ⟨r2, rfl⟩
        simp only [List.tail_cons] at h
        cases e : partsW (formA k) (r2.length + 1) r2 with
        | none => rw [e] at h; cases h
        | some q =>
          obtain ⟨ps, r3⟩ := q
          simp only [e] at h
          cases h
          simp only [fine, Bool.and_eq_true, decide_eq_true_eq, wordOk_sO] at hf
          obtain ⟨t1, t2⟩ := takeW_app (p := Fx.nS) (a := wd) (r := 40 :: r2) (fun x hx => nS_let (ha x hx)) (fun c hc => by cases hc; rfl)
          have hp := partsW_map (G := gS k) _ _ _ _ (fun r g r' hg h1 h2 => formA_gS k r g r' h1 (fine_part hf.2 hg) h2) e
          rw [gS, t1, t2, List.head?_cons, if_pos rfl, if_pos hf.1.1, List.tail_cons, hp]
          simp only [if_pos hf.1.2]
      · rw [if_neg h2] at h
        cases h
        simp only [fine, Bool.and_eq_true, decide_eq_true_eq, wordOk_sO] at hf
        obtain ⟨t1, t2⟩ := takeW_app (p := Fx.nS) (a := wd) (r := r') (fun x hx => nS_let (ha x hx)) hs.nS
        obtain ⟨w1, w2⟩ := nameL_facts hf.1.1
        rw [gS, t1, t2, if_neg h2]
        have : leafL wd = some (.tie (sO wd) []) := by
          unfold leafL
          rw [if_neg, if_pos hf.1.1]
          intro z
          obtain ⟨c, l, rfl⟩ := List.exists_cons_of_ne_nil w2
          simp at z
          have := (isLet_iff c).mp (w1 c List.mem_cons_self)
          omega
        rw [this]
/-! ### one sign more behind the text -/
theorem takeW_snoc {p : Nat → Bool} (hp : p 41 = false) : ∀ r : List Nat, (r ++ [41]).takeWhile p = r.takeWhile p ∧ (r ++ [41]).dropWhile p = r.dropWhile p ++ [41]
  | [] => by simp [hp]
  | c :: r => by
    obtain ⟨h1, h2⟩ := takeW_snoc hp r
    by_cases hc : p c = true
    · simp [hc, h1, h2]
    · simp [hc]
theorem head_snoc {r : List Nat} {c : Nat} (hc : c ≠ 41) : (r ++ [41]).head? = some c ↔ r.head? = some c := by
  cases r with
  | nil => simp; omega
  | cons a r => simp
theorem partsW_snoc {F : List Nat → Option (Fm × List Nat)} (hF : ∀ r f y, F (r ++ [41]) = some (f, y) → y = [] ∨ ∃ x, y = x ++ [41] ∧ F r = some (f, x)) : ∀ (n : Nat) (r : List Nat) (fs : List Fm) (y : List Nat), partsW F n (r ++ [41]) = some (fs, y) → y = [] ∨ ∃ x, y = x ++ [41] ∧ partsW F n r = some (fs, x)
  | 0, r, fs, y, h => by simp [partsW] at h
  | n + 1, r, fs, y, h => by
    rw [partsW] at h
    cases e : F (r ++ [41]) with
    | none => rw [e] at h; cases h
    | some q =>
      obtain ⟨f, z⟩ := q
      simp only [e] at h
      rcases hF _ _ _ e with rfl | ⟨x, rfl, ex⟩
      · simp at h
      · cases x with
        | nil =>
          simp at h
          exact .inl h.2
        | cons c x =>
          simp only [List.cons_append, List.head?_cons, List.tail_cons, Option.some.injEq] at h
          by_cases c1 : c = 41
          · subst c1
            rw [if_pos rfl] at h
            cases h
            refine .inr ⟨x, rfl, ?_⟩
            rw [partsW, ex]; simp
          · rw [if_neg c1] at h
            by_cases c2 : c = 44
            · subst c2
              rw [if_pos rfl] at h
              cases e2 : partsW F n (x ++ [41]) with
              | none => rw [e2] at h; cases h
              | some q2 =>
                obtain ⟨gs, y2⟩ := q2
                simp only [e2] at h
                cases h
                rcases partsW_snoc hF n x gs y e2 with rfl | ⟨x2, rfl, ex2⟩
                · exact .inl rfl
                · refine .inr ⟨x2, rfl, ?_⟩
                  rw [partsW, ex]
                  simp [ex2]
            · rw [if_neg c2] at h; cases h
theorem formA_snoc : ∀ (k : Nat) (r : List Nat) (f : Fm) (y : List Nat), formA k (r ++ [41]) = some (f, y) → y = [] ∨ ∃ x, y = x ++ [41] ∧ formA k r = some (f, x)
  | 0, r, f, y, h => by simp [formA] at h
  | k + 1, r, f, y, h => by
    rw [formA] at h
    by_cases h1 : r.head? = some 63
    · obtain ⟨r1, rfl⟩ : ∃ r1, r = 63 :: r1 := by
        cases r with
        | nil => cases h1
        | cons a r1 => simp only [List.head?_cons, Option.some.injEq] at h1; subst h1; exact ⟨r1, rfl⟩
      obtain ⟨t1, t2⟩ := takeW_snoc (p := isFig) rfl r1
      simp only [List.cons_append, List.head?_cons, if_pos, List.tail_cons, t1, t2] at h
      cases e : numOf (r1.takeWhile isFig) with
      | none => rw [e] at h; cases h
      | some n =>
        simp only [e] at h
        cases h
        refine .inr ⟨_, rfl, ?_⟩
        rw [formA]
        simp only [List.head?_cons, if_pos, List.tail_cons, e]
    · obtain ⟨t1, t2⟩ := takeW_snoc (p := isLet) (by decide +kernel) r
      rw [if_neg (fun z => h1 ((head_snoc (by decide)).mp z)), t1, t2] at h
      by_cases h2 : (r.dropWhile isLet).head? = some 40
      · rw [if_pos ((head_snoc (by decide)).mpr h2)] at h
        obtain ⟨r2, e2⟩ : ∃ r2, r.dropWhile isLet = 40 :: r2 := by
          cases z : r.dropWhile isLet with
          | nil => rw [z] at h2; cases h2
          | cons a r2 => rw [z] at h2; simp only [List.head?_cons, Option.some.injEq] at h2; subst h2; exact ⟨r2, rfl⟩
        rw [e2] at h
        simp only [List.cons_append, List.tail_cons] at h
        cases e : partsW (formA k) ((r2 ++ [41]).length + 1) (r2 ++ [41]) with
        | none => rw [e] at h; cases h
        | some q =>
          obtain ⟨ps, r3⟩ := q
          simp only [e] at h
          cases h
          rcases partsW_snoc (formA_snoc k) _ _ _ _ e with rfl | ⟨x, rfl, ex⟩
          · exact .inl rfl
          · refine .inr ⟨x, rfl, ?_⟩
            rw [formA, if_neg h1, e2, List.head?_cons, if_pos rfl, List.tail_cons, ← partsW_fuel (formA_sfx k) r2.length r2 ((r2 ++ [41]).length + 1) (r2.length + 1) (Nat.le_refl _) (by simp) (Nat.le_refl _), ex]
      · rw [if_neg (fun z => h2 ((head_snoc (by decide)).mp z))] at h
        cases h
        refine .inr ⟨_, rfl, ?_⟩
        rw [formA, if_neg h1, if_neg h2]
theorem partsW_more {F : List Nat → Option (Fm × List Nat)} (hF : ∀ r f x, F r = some (f, x) → F (r ++ [41]) = some (f, x ++ [41])) : ∀ (n m : Nat) (r : List Nat) (fs : List Fm) (x : List Nat), n ≤ m → partsW F n r = some (fs, x) → partsW F m (r ++ [41]) = some (fs, x ++ [41])
  | 0, m, r, fs, x, _, h => by simp [partsW] at h
  | n + 1, 0, r, fs, x, hm, h => by omega
  | n + 1, m + 1, r, fs, x, hm, h => by
    rw [partsW] at h ⊢
    cases e : F r with
    | none => rw [e] at h; cases h
    | some q =>
      obtain ⟨f, r1⟩ := q
      simp only [e] at h
      rw [hF _ _ _ e]
      cases r1 with
      | nil => simp at h
      | cons c r2 =>
        simp only [List.cons_append, List.head?_cons, List.tail_cons, Option.some.injEq] at h ⊢
        by_cases c1 : c = 41
        · rw [if_pos c1] at h ⊢
          cases h; rfl
        · rw [if_neg c1] at h ⊢
          by_cases c2 : c = 44
          · rw [if_pos c2] at h ⊢
            cases e2 : partsW F n r2 with
            | none => rw [e2] at h; cases h
            | some q2 =>
              obtain ⟨gs, y2⟩ := q2
              simp only [e2] at h
              cases h
              rw [partsW_more hF n m r2 gs x (by omega) e2]
          · rw [if_neg c2] at h; cases h
theorem formA_more : ∀ (k : Nat) (r : List Nat) (f : Fm) (x : List Nat), formA k r = some (f, x) → formA k (r ++ [41]) = some (f, x ++ [41])
  | 0, r, f, x, h => by simp [formA] at h
  | k + 1, r, f, x, h => by
    rw [formA] at h ⊢
    by_cases h1 : r.head? = some 63
    · rw [if_pos h1] at h
      obtain ⟨r1, rfl⟩ : ∃ r1, r = 63 :: r1 := by
        cases r with
        | nil => cases h1
        | cons a r1 => simp only [List.head?_cons, Option.some.injEq] at h1; subst h1; exact ⟨r1, rfl⟩
      obtain ⟨t1, t2⟩ := takeW_snoc (p := isFig) rfl r1
      simp only [List.tail_cons] at h
      simp only [List.cons_append, List.head?_cons, if_pos, List.tail_cons, t1, t2]
      cases e : numOf (r1.takeWhile isFig) with
      | none => rw [e] at h; cases h
      | some n => simp only [e] at h; cases h; rfl
    · rw [if_neg h1] at h
      obtain ⟨t1, t2⟩ := takeW_snoc (p := isLet) (by decide +kernel) r
      rw [if_neg (fun z => h1 ((head_snoc (by decide)).mp z)), t1, t2]
      by_cases h2 : (r.dropWhile isLet).head? = some 40
      · rw [if_pos h2] at h
        rw [if_pos ((head_snoc (by decide)).mpr h2)]
        obtain ⟨r2, e2⟩ : ∃ r2, r.dropWhile isLet = 40 :: r2 := by
          cases z : r.dropWhile isLet with
          | nil => rw [z] at h2; cases h2
          | cons a r2 => rw [z] at h2; simp only [List.head?_cons, Option.some.injEq] at h2; subst h2; exact ⟨r2, rfl⟩
        rw [e2] at h ⊢
        simp only [List.cons_append, List.tail_cons] at h ⊢
        cases e : partsW (formA k) (r2.length + 1) r2 with
        | none => rw [e] at h; cases h
        | some q =>
          obtain ⟨ps, r3⟩ := q
          simp only [e] at h
          cases h
          have hm := partsW_more (formA_more k) (r2.length + 1) ((r2 ++ [41]).length + 1) r2 _ _ (by simp) e
          rw [hm]
      · rw [if_neg h2] at h
        rw [if_neg (fun z => h2 ((head_snoc (by decide)).mp z))]
        cases h; rfl
theorem due_formA {t : List Nat} {k : Nat} (hk : cnt40 t < k) {f : Fm} : dueL t = some f ↔ formA k t = some (f, []) ∧ fine f = true := by
  rw [due_gS hk]
  constructor
  · intro h
    obtain ⟨h1, h2⟩ := gS_formA k _ _ _ h
    refine ⟨?_, h2⟩
    rcases formA_snoc k _ _ _ h1 with z | ⟨x, ex, h3⟩
    · cases z
    · have : x = [] := by cases x with
        | nil => rfl
        | cons a x => simp at ex
      rw [this] at h3; exact h3
  · rintro ⟨h1, h2⟩
    exact formA_gS k _ _ _ (formA_more k _ _ _ h1) h2 (.inr (.inl rfl))
end Fx
/-! FxY: how large what is read is; the promises of law k14. -/
namespace Fx
open PySem L2 PySem.Spec PyProof.Rows
/-- opening brackets and commas -/
def cs (r : List Nat) : Nat := r.count 40 + r.count 44
theorem cs_app (a b : List Nat) : cs (a ++ b) = cs a + cs b := by unfold cs; rw [List.count_append, List.count_append]; omega
theorem cs_sfx {a b : List Nat} (h : Sfx a b) : cs b ≤ cs a := by obtain ⟨p, rfl⟩ := h; rw [cs_app]; omega
theorem cs_40 (r : List Nat) : cs (40 :: r) = cs r + 1 := by simp [cs]; omega
theorem cs_44 (r : List Nat) : cs (44 :: r) = cs r + 1 := by simp [cs]; omega
theorem cs_41 (r : List Nat) : cs (41 :: r) = cs r := by simp [cs]
theorem cs_of {l : List Nat} (h : ∀ x, x ∈ l → x ≠ 40 ∧ x ≠ 44) : cs l = 0 := by
  unfold cs
  rw [List.count_eq_zero.mpr fun z => (h _ z).1 rfl, List.count_eq_zero.mpr fun z => (h _ z).2 rfl]
theorem cs_let {l : List Nat} (h : ∀ x, x ∈ l → isLet x = true) : cs l = 0 := cs_of fun x hx => by have := (isLet_iff x).mp (h x hx); omega
theorem cs_fig {l : List Nat} (h : ∀ x, x ∈ l → isFig x = true) : cs l = 0 := cs_of fun x hx => by have := (isFig_iff x).mp (h x hx); omega
theorem takeW_mem {p : Nat → Bool} {r : List Nat} : ∀ x, x ∈ r.takeWhile p → p x = true := fun x hx => by
  have := List.all_takeWhile (p := p) (l := r)
  rw [List.all_eq_true] at this
  exact this x hx
theorem partsW_sg {F : List Nat → Option (Fm × List Nat)} (hF : ∀ r f r', F r = some (f, r') → f.sg + cs r' ≤ 1 + cs r) : ∀ n r fs r', partsW F n r = some (fs, r') → Fm.sgL fs + cs r' ≤ 1 + cs r
  | 0, r, fs, r', h => by simp [partsW] at h
  | n + 1, r, fs, r', h => by
    rw [partsW] at h
    cases e : F r with
    | none => rw [e] at h; cases h
    | some q =>
      obtain ⟨f, r1⟩ := q
      simp only [e] at h
      have s1 := hF _ _ _ e
      cases r1 with
      | nil => simp at h
      | cons c r2 =>
        simp only [List.head?_cons, List.tail_cons, Option.some.injEq] at h
        by_cases c1 : c = 41
        · subst c1
          rw [if_pos rfl] at h
          cases h
          rw [cs_41] at s1
          simp only [Fm.sgL]; omega
        · rw [if_neg c1] at h
          by_cases c2 : c = 44
          · subst c2
            rw [if_pos rfl] at h
            cases e2 : partsW F n r2 with
            | none => rw [e2] at h; cases h
            | some q2 =>
              obtain ⟨gs, r3⟩ := q2
              simp only [e2] at h
              cases h
              have := partsW_sg hF n _ _ _ e2
              rw [cs_44] at s1
              simp only [Fm.sgL]; omega
          · rw [if_neg c2] at h; cases h
theorem formA_sg : ∀ k r f r', formA k r = some (f, r') → f.sg + cs r' ≤ 1 + cs r
  | 0, r, f, r', h => by simp [formA] at h
  | k + 1, r, f, r', h => by
    have hs := cs_sfx (formA_sfx (k + 1) r f r' h)
    rw [formA] at h
    by_cases h1 : r.head? = some 63
    · rw [if_pos h1] at h
      cases e : numOf (r.tail.takeWhile isFig) with
      | none => rw [e] at h; cases h
      | some n =>
        simp only [e] at h
        cases h
        simp only [Fm.sg]; omega
    · rw [if_neg h1] at h
      by_cases h2 : (r.dropWhile isLet).head? = some 40
      · rw [if_pos h2] at h
        cases e : partsW (formA k) ((r.dropWhile isLet).tail.length + 1) (r.dropWhile isLet).tail with
        | none => rw [e] at h; cases h
        | some q =>
          obtain ⟨ps, r1⟩ := q
          simp only [e] at h
          cases h
          have := partsW_sg (formA_sg k) _ _ _ _ e
          obtain ⟨r2, e2⟩ : ∃ r2, r.dropWhile isLet = 40 :: r2 := by
            cases z : r.dropWhile isLet with
            | nil => rw [z] at h2; cases h2
            | cons a r2 => rw [z] at h2; simp only [List.head?_cons, Option.some.injEq] at h2; subst h2; exact ⟨r2, rfl⟩
          rw [e2, List.tail_cons] at this
          have h3 := cs_sfx (Sfx.dropW isLet r)
          rw [e2, cs_40] at h3
          simp only [Fm.sg]; omega
      · rw [if_neg h2] at h
        cases h
        simp only [Fm.sg, Fm.sgL]; omega
theorem partsW_memS {F : List Nat → Option (Fm × List Nat)} {P : Fm → Prop} {C : List Nat → Prop} (hC : ∀ r s, C r → Sfx r s → C s) (hS : ∀ r f r', F r = some (f, r') → Sfx r r') (hF : ∀ r f r', C r → F r = some (f, r') → P f) : ∀ n r fs r', C r → partsW F n r = some (fs, r') → ∀ f, f ∈ fs → P f
  | 0, r, fs, r', _, h => by simp [partsW] at h
  | n + 1, r, fs, r', c, h => by
    rw [partsW] at h
    cases e : F r with
    | none => rw [e] at h; cases h
    | some q =>
      obtain ⟨f, r1⟩ := q
      simp only [e] at h
      have s1 := hF _ _ _ c e
      by_cases h1 : r1.head? = some 41
      · rw [if_pos h1] at h
        cases h
        intro g hg; rw [List.mem_singleton.mp hg]; exact s1
      · rw [if_neg h1] at h
        by_cases h2 : r1.head? = some 44
        · rw [if_pos h2] at h
          cases e2 : partsW F n r1.tail with
          | none => rw [e2] at h; cases h
          | some q2 =>
            obtain ⟨gs, r2⟩ := q2
            simp only [e2] at h
            cases h
            intro g hg
            rcases List.mem_cons.mp hg with rfl | hg
            · exact s1
            · exact partsW_memS hC hS hF n _ _ _ (hC _ _ c ((hS _ _ _ e).trans (Sfx.tail _))) e2 g hg
        · rw [if_neg h2] at h; cases h
theorem okL_all : ∀ fs : List Fm, Fm.okL fs = fs.all Fm.ok
  | [] => rfl
  | f :: fs => by rw [Fm.okL, okL_all fs]; rfl
theorem sgL_len : ∀ fs : List Fm, fs.length ≤ Fm.sgL fs
  | [] => Nat.zero_le _
  | f :: fs => by
    have := sgL_len fs
    have : 1 ≤ f.sg := by cases f <;> simp [Fm.sg]
    simp only [List.length_cons, Fm.sgL]; omega
/-- a text that isn't too long -/
def Sh (r : List Nat) : Prop := r.length ≤ 1000 ∧ cs r ≤ 199
theorem Sh.sfx {r s : List Nat} (h : Sh r) (x : Sfx r s) : Sh s := ⟨Nat.le_trans x.len h.1, Nat.le_trans (cs_sfx x) h.2⟩
theorem word_ok {w : List Nat} (h : ∀ x, x ∈ w → isLet x = true) : PyData.strOk (sO w) = true := strOk_sO (by
  unfold lOk
  rw [List.all_eq_true]
  intro x hx
  have := (isLet_iff x).mp (h x hx)
  exact decide_eq_true (by omega))
theorem formA_ok : ∀ k r f r', Sh r → formA k r = some (f, r') → f.ok = true ∧ f.sw = true
  | 0, r, f, r', _, h => by simp [formA] at h
  | k + 1, r, f, r', hs, h => by
    rw [formA] at h
    by_cases h1 : r.head? = some 63
    · rw [if_pos h1] at h
      cases e : numOf (r.tail.takeWhile isFig) with
      | none => rw [e] at h; cases h
      | some n => simp only [e] at h; cases h; exact ⟨rfl, rfl⟩
    · rw [if_neg h1] at h
      have hw := word_ok (w := r.takeWhile isLet) takeW_mem
      have hl : (sO (r.takeWhile isLet)).length ≤ 1000 := by
        rw [sO_len]
        have := dropW_len isLet r
        have := hs.1
        omega
      by_cases h2 : (r.dropWhile isLet).head? = some 40
      · rw [if_pos h2] at h
        cases e : partsW (formA k) ((r.dropWhile isLet).tail.length + 1) (r.dropWhile isLet).tail with
        | none => rw [e] at h; cases h
        | some q =>
          obtain ⟨ps, r1⟩ := q
          simp only [e] at h
          cases h
          have hs2 : Sh (r.dropWhile isLet).tail := (hs.sfx (Sfx.dropW _ _)).sfx (Sfx.tail _)
          have hm := partsW_memS (C := Sh) (P := fun f => f.ok = true ∧ f.sw = true) (fun _ _ => Sh.sfx) (formA_sfx k) (formA_ok k) _ _ _ _ hs2 e
          have hsg := partsW_sg (formA_sg k) _ _ _ _ e
          have := sgL_len ps
          have := hs2.2
          refine ⟨?_, ?_⟩
          · simp only [Fm.ok, Bool.and_eq_true, decide_eq_true_eq, okL_all, List.all_eq_true]
            exact ⟨⟨hw, by omega⟩, fun g hg => (hm g hg).1⟩
          · simp only [Fm.sw, Bool.and_eq_true, decide_eq_true_eq, swL_all, List.all_eq_true]
            exact ⟨hl, fun g hg => (hm g hg).2⟩
      · rw [if_neg h2] at h
        cases h
        refine ⟨?_, ?_⟩
        · simp only [Fm.ok, Fm.okL, Bool.and_eq_true, decide_eq_true_eq]; exact ⟨⟨hw, by simp⟩, trivial⟩
        · simp only [Fm.sw, Fm.swL, Bool.and_eq_true, decide_eq_true_eq]; exact ⟨hl, trivial⟩
/-- reading, and the law's reading -/
theorem read_due {t : List Nat} (hl : t.length ≤ 1000) (hc : cs t ≤ 39) : (readO t = match dueL t with
    | some f => .ok f.d
    | none => .err "BadNote") ∧ (∀ f, dueL t = some f → fine f = true ∧ f.dep ≤ 40 ∧ f.sg ≤ 200) := by
  have hk : cnt40 t < 40 := by unfold cs at hc; unfold cnt40; omega
  have key := fun f => due_formA (t := t) (k := 40) hk (f := f)
  have hsg : ∀ f, formA 40 t = some (f, []) → f.dep ≤ 40 ∧ f.sg ≤ 200 := fun f hf => by
    have h1 := formA_sg _ _ _ _ hf
    have h2 := formA_dep _ _ _ _ hf
    omega
  refine ⟨?_, fun f hf => ?_⟩
  · cases e : dueL t with
    | some f =>
      obtain ⟨h1, h2⟩ := (key f).mp e
      obtain ⟨h3, h4⟩ := hsg f h1
      unfold readO
      rw [h1]
      show (match lookedO f with
        | .ok _ => Out.ok f.d
        | .err _ => .err "BadNote") = _
      unfold lookedO
      rw [if_pos h2, if_neg (by omega)]
    | none =>
      unfold readO
      cases ef : formA 40 t with
      | none => rfl
      | some q =>
        obtain ⟨f, r⟩ := q
        cases r with
        | cons c r => rfl
        | nil =>
          have hn : fine f = false := by
            rw [Bool.eq_false_iff]; intro z
            have := (key f).mpr ⟨ef, z⟩
            rw [e] at this; cases this
          show (match lookedO f with
            | .ok _ => Out.ok f.d
            | .err _ => .err "BadNote") = _
          unfold lookedO
          rw [hn]; rfl
  · obtain ⟨h1, h2⟩ := (key f).mp hf
    exact ⟨h2, hsg f h1⟩
/-! the text of a form -/
mutual
theorem cs_tx : ∀ f : Fm, fine f = true → cs (tx f) + 1 = f.sg
  | .gap n, h => by
    have : cs (tx (.gap n)) = 0 := by
      rw [tx]
      refine cs_of fun x hx => ?_
      rcases List.mem_cons.mp hx with rfl | hx
      · omega
      · have := (isFig_iff x).mp (numL_fig _ x hx); omega
    rw [this]; rfl
  | .tie w [], h => by
    simp only [fine, Bool.and_eq_true] at h
    obtain ⟨w1, w2, w3⟩ := word_facts h.1.1
    rw [tx, cs_let w1]; rfl
  | .tie w (p :: ps), h => by
    simp only [fine, fineL, Bool.and_eq_true] at h
    obtain ⟨w1, w2, w3⟩ := word_facts h.1.1
    have h1 := cs_tx p h.2.1
    have h2 := cs_txC ps h.2.2
    rw [tx, cs_app, cs_let w1, cs_40, cs_app, cs_app]
    have : cs [41] = 0 := rfl
    simp only [Fm.sg, Fm.sgL]; omega
theorem cs_txC : ∀ fs : List Fm, fineL fs = true → cs (txC fs) = Fm.sgL fs
  | [], _ => rfl
  | f :: fs, h => by
    simp only [fineL, Bool.and_eq_true] at h
    have h1 := cs_tx f h.1
    have h2 := cs_txC fs h.2
    rw [txC, cs_44, cs_app]
    simp only [Fm.sgL]; omega
end
/-- a chain that is too deep -/
theorem formA_deep : ∀ (k n : Nat) (r : List Nat), k ≤ n → formA k (tx (wrapF "f" n (.gap 3)) ++ r) = none
  | 0, n, r, h => rfl
  | k + 1, 0, r, h => by omega
  | k + 1, n + 1, r, h => by
    have hw : (("f" : Str)).cps.toList = [102] := by decide +kernel
    have e : tx (wrapF "f" (n + 1) (.gap 3)) ++ r = 102 :: 40 :: (tx (wrapF "f" n (.gap 3)) ++ (41 :: r)) := by
      rw [wrapF, tx, hw]; simp [txC]
    have l1 : isLet 102 = true := by decide +kernel
    have l2 : isLet 40 = false := by decide +kernel
    rw [e, formA]
    simp only [List.head?_cons, Option.some.injEq, List.dropWhile_cons, List.takeWhile_cons, l1, l2, if_true, Bool.false_eq_true, if_false, List.tail_cons]
    rw [if_neg (by decide), partsW, formA_deep k n _ (by omega)]
theorem read_deep {n : Nat} (h : 40 ≤ n) : readO (tx (wrapF "f" n (.gap 3))) = .err "BadNote" := by
  have := formA_deep 40 n [] h
  rw [List.append_nil] at this
  unfold readO
  rw [this]
theorem read_big {f : Fm} (h : fine f = true) (hd : f.dep ≤ 40) (hs : 200 < f.sg) : readO (tx f) = .err "BadNote" := by
  unfold readO
  rw [formA_txN h hd]
  show (match lookedO f with
    | .ok _ => Out.ok f.d
    | .err _ => .err "BadNote") = _
  unfold lookedO
  rw [if_pos h, if_pos (.inl hs)]
/-! the promises -/
def optD : Option Fm → PyData
  | none => .none
  | some f => f.d
def spName : Sp := spP fun ds r => ∃ w : List Nat, ds = [.str (sO w)] ∧ r = .bool (nameL w) ∧ w.length ≤ 2000
theorem spName.len : ∀ vs H Q E, spName vs H Q E → vs.length = 1 := spP.len fun ds d ⟨f, e, _⟩ => by rw [e]; rfl
def spLeaf : Sp := spP fun ds r => ∃ w : List Nat, ds = [.str (sO w)] ∧ r = optD (leafL w) ∧ w.length ≤ 2000 ∧ lOk w = true
theorem spLeaf.len : ∀ vs H Q E, spLeaf vs H Q E → vs.length = 1 := spP.len fun ds d ⟨f, e, _⟩ => by rw [e]; rfl
def spDue : Sp := spP fun ds r => ∃ t : List Nat, ds = [.str (sO t)] ∧ r = optD (dueL t) ∧ t.length ≤ 1000 ∧ lOk t = true
theorem spDue.len : ∀ vs H Q E, spDue vs H Q E → vs.length = 1 := spP.len fun ds d ⟨f, e, _⟩ => by rw [e]; rfl
/-- a text that isn't bad: short, few brackets -/
def Tt (t : List Nat) (n c : Nat) : Prop := lOk t = true ∧ t.length ≤ n ∧ cs t ≤ c
def spOdd : Sp := fun vs H Q _ => ∃ c : Int, vs = [.int c] ∧ ∀ t H', Same H H' → Tt t 40 20 → Q (.str (sO t)) H'
theorem spOdd.len : ∀ vs H Q E, spOdd vs H Q E → vs.length = 1 := fun vs H Q E ⟨_, e, _⟩ => by rw [e]; rfl
def spSpoil : Sp := fun vs H Q _ => ∃ (c : Int) (t : List Nat), vs = [.str (sO t), .int c] ∧ Tt t 900 37 ∧ ∀ t' H', Same H H' → Tt t' 950 38 → Q (.str (sO t')) H'
theorem spSpoil.len : ∀ vs H Q E, spSpoil vs H Q E → vs.length = 2 := fun vs H Q E ⟨_, _, e, _⟩ => by rw [e]; rfl
def toldD : Out → PyData
  | .ok d => d
  | .err _ => .list ([true, true, false, false].map .bool)
def spToldR : Sp := spP fun ds r => ∃ t : List Nat, ds = [.str (sO t)] ∧ r = toldD (readO t) ∧ lOk t = true ∧ t.length ≤ 10000 ∧ ∀ f, formA 40 t = some (f, []) → f.ok = true ∧ f.sw = true
theorem spToldR.len : ∀ vs H Q E, spToldR vs H Q E → vs.length = 1 := spP.len fun ds d ⟨f, e, _⟩ => by rw [e]; rfl
def spGreatR : Sp := fun vs H Q _ => ∃ c : Int, vs = [.int c] ∧ ∀ (f : Fm) (b : Bool) v H', Same H H' → Rp H' (.tuple [f.d, .bool b]) v → fine f = true → f.dep ≤ 45 → f.sg ≤ 210 → readO (tx f) = (if b = true then .ok f.d else .err "BadNote") → (f.dep ≤ 40 ∨ formA 40 (tx f) = none) → Q v H'
theorem spGreatR.len : ∀ vs H Q E, spGreatR vs H Q E → vs.length = 1 := fun vs H Q E ⟨_, e, _⟩ => by rw [e]; rfl
def spReadGreat : Sp := spP fun ds r => ∃ c : Int, ds = [.int c] ∧ r = .bool true
theorem spReadGreat.len : ∀ vs H Q E, spReadGreat vs H Q E → vs.length = 1 := spP.len fun ds d ⟨f, e, _⟩ => by rw [e]; rfl
theorem cutS_to (z : List Nat) (j : Nat) : cutS (sO z) none (some (j : Int)) = sO (z.take j) := by
  have := cutS_sO z 0 j
  rw [List.drop_zero, Nat.sub_zero] at this
  rw [← this]
  unfold cutS
  rw [HT.sIx_none, HT.sIx_nat, HT.sIx_nat, Nat.zero_min]
theorem cutS_from (z : List Nat) (i : Nat) : cutS (sO z) (some (i : Int)) none = sO (z.drop i) := by
  have := cutS_sO z i z.length
  rw [List.take_of_length_le (by simp)] at this
  rw [← this]
  unfold cutS
  rw [HT.sIx_none, HT.sIx_nat, HT.sIx_nat, sO_len]
  simp
section
variable {K : PySem.W.Frag} {σ : L2.St} {H : Hp} {ta ti : TE} {l : List Nat} {i : Nat}
theorem ev_cutTo (ha : EvD ta σ H (.str (sO l))) (hi : EvD ti σ H (.int i)) (hl : l.length ≤ 100000) : EvD (tSl rSlS ta tNoPart (tPart ti)) σ H (.str (sO (l.take i))) := fun H1 s Q q =>
  ha H1 s _ fun v H2 s2 r2 => hi H2 (s.trans s2) _ fun u H3 s3 r3 => ⟨_, r3, sO l, r2, by rw [sO_len]; exact Nat.le_trans hl (by decide), by rw [cutS_to]; exact q _ H3 (s2.trans s3) rfl⟩
theorem ev_cutFrom (ha : EvD ta σ H (.str (sO l))) (hi : EvD ti σ H (.int i)) (hl : l.length ≤ 100000) : EvD (tSl rSlS ta (tPart ti) tNoPart) σ H (.str (sO (l.drop i))) := fun H1 s Q q =>
  ha H1 s _ fun v H2 s2 r2 => hi H2 (s.trans s2) _ fun u H3 s3 r3 => ⟨_, r3, sO l, r2, by rw [sO_len]; exact Nat.le_trans hl (by decide), by rw [cutS_from]; exact q _ H3 (s2.trans s3) rfl⟩
/-- how many signs of a text lie not in another -/
theorem ev_lenNot {te : TE} {z : Str} {j : Nat} (h : EvD te σ H (.str (sO l))) (hl : l.length ≤ 1000) (hj : j < σ.length) : EvD (tCB (rLen K) (tCons (tLc (iStr te) (gName j) (tTest (tOp rNinS (tVar j) (tC (.str z)))) (tVar j) [j]) tNil)) σ H (.int ((l.filter fun c => !decide (c ∈ z.cps.toList)).length : Nat)) := by
  have hi := (ei_str h).j
  rw [sO_tl] at hi
  have := ev_lc (tt := tTest (tOp rNinS (tVar j) (tC (.str z)))) (te := tVar j) l (fun c => .str ⟨#[c]⟩) hi (fun c => !decide (c ∈ z.cps.toList)) (fun c => .str ⟨#[c]⟩) (fun x hx v H1 s1 r1 => by
    have hv : ((σ.set j none).set j (some v))[j]? = some (some v) := List.getElem?_set_self (by simpa using hj)
    exact ⟨et_test (ev_ninS (ev_var hv r1) ev_str), fun _ => ev_var hv r1⟩) (fun _ _ => rfl) hl
  refine (ev_cb (ea_cons this ea_nil) cd_lenL).to ?_
  rw [List.length_map]
end
def oddL : List Str := [("" : Str), ("?" : Str), ("?00" : Str), ("?01" : Str), ("?1000" : Str), ("?-1" : Str), ("?1 " : Str), (" a" : Str), ("A" : Str), ("a1" : Str), ("abcdefghi" : Str), ("a(" : Str), ("a)" : Str), ("a()" : Str), ("a(b" : Str), ("a(b,)" : Str), ("a(,b)" : Str), ("a(b))" : Str), ("(a)" : Str), ("a,b" : Str), ("a(b)c" : Str), ("?1(a)" : Str), ("a(b,c,d,?1,?2)" : Str), ("a((b))" : Str), ("?a" : Str), ("a?1" : Str), ("a(b c)" : Str), ("a\n" : Str), ("xyz(?0)" : Str), ("ijklmnop" : Str), ("qrstuvwx(z)" : Str), ("?999" : Str), ("abcdefgh(?0)" : Str), ("?1_0" : Str), ("?+1" : Str), ("a(?)" : Str), ("()" : Str)]
theorem oddL_ok : ∀ x, x ∈ oddL → lOk x.cps.toList = true ∧ x.cps.toList.length ≤ 40 ∧ cs x.cps.toList ≤ 20 := by decide +kernel
def signL : Str := "?(),az019 Z-_.~`{\t\n"
theorem signL_ok : ∀ c, c ∈ signL.cps.toList → lOk [c] = true ∧ cs [c] ≤ 1 := by decide +kernel
theorem signL_len : signL.cps.toList.length = 19 := by decide +kernel
theorem readO_cases (t : List Nat) : (∃ f, readO t = .ok f) ∨ readO t = .err "BadNote" := by
  unfold readO
  split
  · split
    · exact .inl ⟨_, rfl⟩
    · exact .inr rfl
  · exact .inr rfl
def rowF : Fm := .tie "f" [.tie "a" [], .tie "a" [], .tie "a" [], .tie "a" []]
def gF : Fm := .tie "g" [rowF, rowF, rowF, rowF]
def hF : Fm := .tie "h" [gF, gF, gF, gF]
def baseF : Fm := .tie "h" [hF, .tie "f" [hF, .tie "f" [rowF, .tie "a" [], rowF]]]
theorem baseF_ok : fine baseF = true ∧ baseF.dep ≤ 7 ∧ baseF.sg = 184 := by decide +kernel
end Fx
/-! FxZ: the pile of law k14 in the heap. -/
namespace Fx
open PySem L2 PySem.Spec PyProof.Rows
/-- a frame's list, its forms' list, the forms -/
abbrev FA := Addr × Addr × List V
def FrOk (H : Hp) : List (List Nat × List Fm) → List FA → Prop
  | [], as => as = []
  | (w, fs) :: fr, as => ∃ q r vs as', as = (q, r, vs) :: as' ∧ H q = some (.lst [.str (sO w), .ref r]) ∧ H r = some (.lst vs) ∧ RpL H (fs.map Fm.d) vs ∧ FrOk H fr as'
def adr (as : List FA) : List Addr := as.flatMap fun x => [x.1, x.2.1]
theorem adr_app (as bs : List FA) : adr (as ++ bs) = adr as ++ adr bs := by simp [adr]
/-- these objects and the tuples are kept -/
structure Kp (L : List Addr) (H H' : Hp) : Prop where
  k : ∀ a, a ∈ L → ∀ o, H a = some o → H' a = some o
  t : KT H H'
theorem Kp.of {L : List Addr} {H H' : Hp} (s : Same H H') : Kp L H H' := ⟨fun a _ o h => s a o h, KT.of s⟩
theorem Kp.upd {L : List Addr} {H : Hp} {a : Addr} {o : HO} (ha : ¬ a ∈ L) (ht : ∀ xs, H a ≠ some (.tup xs)) : Kp L H (L2.upd H a o) := ⟨fun b hb u h => by rw [upd_ne (fun z => ha (by rw [← z]; exact hb))]; exact h, KT.upd ht⟩
theorem Kp.sub {L M : List Addr} {H H' : Hp} (k : Kp L H H') (h : ∀ a, a ∈ M → a ∈ L) : Kp M H H' := ⟨fun a ha => k.k a (h a ha), k.t⟩
theorem FrOk.kp {H H' : Hp} : ∀ {fr : List (List Nat × List Fm)} {as : List FA}, FrOk H fr as → Kp (adr as) H H' → FrOk H' fr as
  | [], _, h, _ => h
  | (w, fs) :: fr, _, ⟨q, r, vs, as', e, h1, h2, h3, h4⟩, k => by
    subst e
    exact ⟨q, r, vs, as', rfl, k.k q (by simp [adr]) _ h1, k.k r (by simp [adr]) _ h2, RpL.kt k.t _ _ Fm.immL_d h3, FrOk.kp h4 (k.sub fun a ha => by simp only [adr, List.flatMap_cons, List.mem_append]; exact .inr ha)⟩
theorem FrOk.length {H : Hp} : ∀ {fr : List (List Nat × List Fm)} {as : List FA}, FrOk H fr as → as.length = fr.length
  | [], _, h => by rw [show _ = [] from h]; rfl
  | (w, fs) :: fr, _, ⟨q, r, vs, as', e, h1, h2, h3, h4⟩ => by subst e; simp [FrOk.length h4]
theorem FrOk.snoc {H : Hp} {w : List Nat} {fs : List Fm} {q r : Addr} {vs : List V} (h1 : H q = some (.lst [.str (sO w), .ref r])) (h2 : H r = some (.lst vs)) (h3 : RpL H (fs.map Fm.d) vs) : ∀ {fr : List (List Nat × List Fm)} {as : List FA}, FrOk H fr as → FrOk H (fr ++ [(w, fs)]) (as ++ [(q, r, vs)])
  | [], _, h => by rw [show _ = [] from h]; exact ⟨q, r, vs, [], rfl, h1, h2, h3, rfl⟩
  | (w', fs') :: fr, _, ⟨q', r', vs', as', e, a1, a2, a3, a4⟩ => by subst e; exact ⟨q', r', vs', _, rfl, a1, a2, a3, FrOk.snoc h1 h2 h3 a4⟩
theorem FrOk.top {H : Hp} {w : List Nat} {fs : List Fm} : ∀ {fr : List (List Nat × List Fm)} {as : List FA}, FrOk H (fr ++ [(w, fs)]) as → ∃ q r vs as', as = as' ++ [(q, r, vs)] ∧ H q = some (.lst [.str (sO w), .ref r]) ∧ H r = some (.lst vs) ∧ RpL H (fs.map Fm.d) vs ∧ FrOk H fr as'
  | [], _, ⟨q, r, vs, as', e, h1, h2, h3, h4⟩ => by
    subst e
    exact ⟨q, r, vs, [], by rw [show as' = [] from h4]; rfl, h1, h2, h3, rfl⟩
  | (w', fs') :: fr, _, ⟨q', r', vs', as', e, a1, a2, a3, a4⟩ => by
    subst e
    obtain ⟨q, r, vs, as'', e, h1, h2, h3, h4⟩ := FrOk.top a4
    subst e
    exact ⟨q, r, vs, (q', r', vs') :: as'', rfl, h1, h2, h3, q', r', vs', as'', rfl, a1, a2, a3, h4⟩
/-- the pile at p, all of it new since H0 -/
structure PileOk (H0 H : Hp) (p : Addr) (fr : List (List Nat × List Fm)) (as : List FA) : Prop where
  l : H p = some (.lst (as.map fun x => .ref x.1))
  f : FrOk H fr as
  n : (p :: adr as).Nodup
  z : ∀ a, a ∈ p :: adr as → H0 a = none
theorem PileOk.kp {H0 H H' : Hp} {p : Addr} {fr : List (List Nat × List Fm)} {as : List FA} (h : PileOk H0 H p fr as) (k : Kp (p :: adr as) H H') : PileOk H0 H' p fr as :=
  ⟨k.k p (by simp) _ h.l, h.f.kp (k.sub fun a ha => List.mem_cons_of_mem _ ha), h.n, h.z⟩
theorem PileOk.same {H0 H H' : Hp} {p : Addr} {fr : List (List Nat × List Fm)} {as : List FA} (h : PileOk H0 H p fr as) (s : Same H H') : PileOk H0 H' p fr as := h.kp (.of s)
/-- what stands new is apart from the pile -/
theorem FrOk.live {H : Hp} : ∀ {fr : List (List Nat × List Fm)} {as : List FA}, FrOk H fr as → ∀ a, a ∈ adr as → H a ≠ none
  | [], _, h, a, ha => by rw [show _ = [] from h] at ha; cases ha
  | (w, fs) :: fr, _, ⟨q, r, vs, as', e, h1, h2, h3, h4⟩, a, ha => by
    subst e
    simp only [adr, List.flatMap_cons, List.mem_append, List.mem_cons, List.not_mem_nil, or_false] at ha
    rcases ha with (rfl | rfl) | ha
    · rw [h1]; simp
    · rw [h2]; simp
    · exact FrOk.live h4 a ha
theorem PileOk.live {H0 H : Hp} {p : Addr} {fr : List (List Nat × List Fm)} {as : List FA} (h : PileOk H0 H p fr as) : ∀ a, a ∈ p :: adr as → H a ≠ none := fun a ha => by
  rcases List.mem_cons.mp ha with rfl | ha
  · rw [h.l]; simp
  · exact h.f.live a ha
theorem PileOk.new {H0 H : Hp} {p : Addr} {fr : List (List Nat × List Fm)} {as : List FA} (h : PileOk H0 H p fr as) {a : Addr} (ha : H a = none) : ¬ a ∈ p :: adr as := fun z => h.live a z ha
/-- a frame is put upon it -/
theorem PileOk.push {H0 H : Hp} {p : Addr} {fr : List (List Nat × List Fm)} {as : List FA} (h : PileOk H0 H p fr as) (s : Same H0 H ∨ True) {q r : Addr} {w : List Nat} (hr : H r = none) (hq : (L2.upd H r (.lst [])) q = none) (zr : H0 r = none) (zq : H0 q = none) :
    PileOk H0 (L2.upd (L2.upd (L2.upd H r (.lst [])) q (.lst [.str (sO w), .ref r])) p (.lst ((as.map fun x => .ref x.1) ++ [.ref q]))) p (fr ++ [(w, [])]) (as ++ [(q, r, [])]) := by
  have nr := h.new hr
  have hqr : q ≠ r := fun z => by rw [z, upd_same] at hq; cases hq
  have hqH : H q = none := by rw [← hq, upd_ne hqr]
  have nq := h.new hqH
  have hp : p ≠ q := fun z => nq (by simp [z])
  have hpr : p ≠ r := fun z => nr (by simp [z])
  have k1 : Kp (adr as) H (L2.upd (L2.upd (L2.upd H r (.lst [])) q (.lst [.str (sO w), .ref r])) p (.lst ((as.map fun x => .ref x.1) ++ [.ref q]))) := by
    refine ⟨fun a ha o e => ?_, ?_⟩
    · have hap : a ≠ p := fun z => by subst z; exact (List.nodup_cons.mp h.n).1 ha
      have haq : a ≠ q := fun z => nq (by subst z; exact List.mem_cons_of_mem _ ha)
      have har : a ≠ r := fun z => nr (by subst z; exact List.mem_cons_of_mem _ ha)
      rw [upd_ne hap, upd_ne haq, upd_ne har]; exact e
    · refine ((KT.of (Fx.Same.new hr)).trans (KT.of (Fx.Same.new hq))).trans (KT.upd fun xs => ?_)
      rw [upd_ne hp, upd_ne hpr, h.l]; intro z; cases z
  refine ⟨?_, ?_, ?_, ?_⟩
  · rw [upd_same, List.map_append]; rfl
  · refine FrOk.snoc (fs := []) (vs := []) ?_ ?_ rfl (h.f.kp k1)
    · rw [upd_ne hp.symm, upd_same]
    · rw [upd_ne hpr.symm, upd_ne hqr.symm, upd_same]
  · rw [adr_app]
    have hn := h.n
    simp only [adr, List.flatMap_cons, List.flatMap_nil, List.append_nil] at hn ⊢
    rw [← List.cons_append, List.nodup_append]
    refine ⟨hn, by simp [hqr], fun a ha b hb => ?_⟩
    simp only [List.mem_cons, List.not_mem_nil, or_false] at hb
    rcases hb with rfl | rfl
    · exact fun z => nq (by rw [← z]; exact ha)
    · exact fun z => nr (by rw [← z]; exact ha)
  · intro a ha
    rw [adr_app, ← List.cons_append, List.mem_append] at ha
    rcases ha with ha | ha
    · exact h.z a ha
    · simp only [adr, List.flatMap_cons, List.flatMap_nil, List.append_nil, List.mem_cons, List.not_mem_nil, or_false] at ha
      rcases ha with rfl | rfl
      · exact zq
      · exact zr
/-- a form is put into the top frame -/
theorem PileOk.add {H0 H : Hp} {p : Addr} {fr : List (List Nat × List Fm)} {as : List FA} {w : List Nat} {fs : List Fm} {q r : Addr} {vs : List V} {f : Fm} {v : V} (h : PileOk H0 H p (fr ++ [(w, fs)]) (as ++ [(q, r, vs)])) (hv : Rp H f.d v) :
    PileOk H0 (L2.upd H r (.lst (vs ++ [v]))) p (fr ++ [(w, fs ++ [f])]) (as ++ [(q, r, vs ++ [v])]) := by
  obtain ⟨q', r', vs', as', e, h1, h2, h3, h4⟩ := h.f.top
  obtain ⟨e1, e2⟩ := List.append_inj' e rfl
  subst e1
  cases e2
  have hn := h.n
  have hz := h.z
  rw [adr_app] at hn hz
  simp only [adr, List.flatMap_cons, List.flatMap_nil, List.append_nil] at hn hz
  rw [← List.cons_append, List.nodup_append] at hn
  have nr : ¬ r ∈ p :: adr as := fun z => hn.2.2 r z r (by simp) rfl
  have hqr : q ≠ r := by have := hn.2.1; simp at this; exact this
  have hpr : p ≠ r := fun z => nr (by simp [z])
  have nt : ∀ xs, H r ≠ some (.tup xs) := fun xs => by rw [h2]; intro z; cases z
  have k : Kp (adr as) H (L2.upd H r (.lst (vs ++ [v]))) := (Kp.upd (L := p :: adr as) nr nt).sub fun a ha => List.mem_cons_of_mem _ ha
  refine ⟨?_, ?_, ?_, ?_⟩
  · rw [upd_ne hpr, h.l]; simp
  · refine FrOk.snoc ?_ upd_same ?_ (h4.kp k)
    · rw [upd_ne hqr]; exact h1
    · rw [List.map_append]
      exact RpL.kt (KT.upd nt) _ _ (by rw [← List.map_append]; exact Fm.immL_d) (h3.snoc hv)
  · rw [adr_app]
    simp only [adr, List.flatMap_cons, List.flatMap_nil, List.append_nil]
    rw [← List.cons_append, List.nodup_append]; exact hn
  · rw [adr_app]
    simp only [adr, List.flatMap_cons, List.flatMap_nil, List.append_nil]
    exact hz
/-- the top frame is taken off -/
theorem PileOk.pop {H0 H : Hp} {p : Addr} {fr : List (List Nat × List Fm)} {as : List FA} {w : List Nat} {fs : List Fm} {q r : Addr} {vs : List V} (h : PileOk H0 H p (fr ++ [(w, fs)]) (as ++ [(q, r, vs)])) :
    PileOk H0 (L2.upd H p (.lst (as.map fun x => .ref x.1))) p fr as := by
  obtain ⟨q', r', vs', as', e, h1, h2, h3, h4⟩ := h.f.top
  obtain ⟨e1, e2⟩ := List.append_inj' e rfl
  subst e1
  have hn := h.n
  have hz := h.z
  rw [adr_app] at hn hz
  have np : ¬ p ∈ adr as := fun z => (List.nodup_cons.mp hn).1 (List.mem_append_left _ z)
  have nt : ∀ xs, H p ≠ some (.tup xs) := fun xs => by rw [h.l]; intro z; cases z
  refine ⟨upd_same, h4.kp (Kp.upd np nt), ?_, fun a ha => hz a ?_⟩
  · rw [← List.cons_append, List.nodup_append] at hn; exact hn.1
  · rw [← List.cons_append]; exact List.mem_append_left _ ha
/-- len(xs) of a list at a slot -/
theorem ev_lenP {K : PySem.W.Frag} {σ : L2.St} {H : Hp} {i : Nat} {p : Addr} {xs : List V} (h : σ[i]? = some (some (.ref p))) (e : H p = some (.lst xs)) : EvD (tCB (rLen K) (tCons (tVar i) tNil)) σ H (.int xs.length) := fun H1 s Q q =>
  ⟨.ref p, h, .ref p, xs.length, rfl, .inl ⟨xs, .of (s _ _ e), rfl⟩, q _ H1 (Same.refl _) rfl⟩
theorem ev_isNone {σ : L2.St} {H : Hp} {ta : TE} {o : Option Fm} (h : EvD ta σ H (optD o)) : EvD (tIsN ta) σ H (.bool o.isNone) := by
  cases o with
  | none => exact ev_isN h
  | some f => cases f <;> exact ev_isN h
theorem ev_isSome {σ : L2.St} {H : Hp} {ta : TE} {o : Option Fm} (h : EvD ta σ H (optD o)) : EvD (tNotN ta) σ H (.bool o.isSome) := by
  cases o with
  | none => exact ev_notN h
  | some f => cases f <;> exact ev_notN h
theorem optD_imm (o : Option Fm) : imm (optD o) = true := by
  cases o with
  | none => rfl
  | some f => exact Fm.imm_d f
def fmP (s : Pl) : Option Fm := match s.dn with
  | some f => some f
  | none => leafL s.wd
theorem stepP_no {c : Nat} {s : Pl} (h1 : ¬ c = 40) (h2 : c = 44 ∨ c = 41) (h : fmP s = none ∨ ((s.fr.length = 1 ∧ c = 44) ∨ s.fr.length = 0)) : stepP c s = none := by
  unfold fmP at h
  unfold stepP
  rw [if_neg h1, if_pos h2]
  cases e : s.dn with
  | none =>
    rw [e] at h
    simp only at h ⊢
    cases el : leafL s.wd with
    | none => rfl
    | some f =>
      rw [el] at h
      rcases h with h | h
      · cases h
      · simp only [if_pos h]
  | some f =>
    rw [e] at h
    simp only at h ⊢
    rcases h with h | h
    · cases h
    · simp only [if_pos h]
theorem stepP_sep {c : Nat} {s : Pl} {f : Fm} {fr : List (List Nat × List Fm)} {w : List Nat} {fs : List Fm} (h1 : ¬ c = 40) (h2 : c = 44 ∨ c = 41) (h : fmP s = some f) (h3 : ¬ ((s.fr.length = 1 ∧ c = 44) ∨ s.fr.length = 0)) (h4 : s.fr = fr ++ [(w, fs)]) :
    stepP c s = if c = 41 then (if 4 < fs.length + 1 then none else if fr.length = 0 then some ⟨fr, [], (fs ++ [f]).head?⟩ else some ⟨fr, [], some (.tie (sO w) (fs ++ [f]))⟩) else some ⟨fr ++ [(w, fs ++ [f])], [], none⟩ := by
  unfold fmP at h
  unfold stepP
  rw [if_neg h1, if_pos h2]
  have hl : (fr.length + 1 = 1) = (fr.length = 0) := propext (by omega)
  have hn : ¬ ((fr.length = 0 ∧ c = 44) ∨ fr.length + 1 = 0) := fun z => h3 (by
    rw [h4, List.length_append, List.length_singleton]
    rcases z with z | z
    · exact .inl ⟨by omega, z.2⟩
    · exact .inr z)
  cases ed : s.dn with
  | none =>
    rw [ed] at h
    simp only at h ⊢
    rw [h]
    simp only [if_neg h3, h4, List.getLast?_concat, List.dropLast_concat, List.length_append, List.length_singleton, hl]
    rw [if_neg hn]
  | some g =>
    rw [ed] at h
    simp only at h ⊢
    cases h
    simp only [if_neg h3, h4, List.getLast?_concat, List.dropLast_concat, List.length_append, List.length_singleton, hl]
    rw [if_neg hn]
end Fx
namespace Fx
open PySem L2 PySem.Spec PyProof.Rows RZ
def topS (i : Nat) : Stmt := PySem.Challenge.pw_commonforms_k14_texts_refused.main.body.getD i (.Pass ⟨0, 0, 0, 0⟩)
abbrev s_is_word : Stmt := topS 11
abbrev N_is_word : List Str := ["word", "letter"]
theorem sc_is_word : FnScope N_is_word ["word"] (defScope s_is_word) := ⟨rfl, rfl, rfl, by decide +kernel, rfl, by decide +kernel, by decide +kernel⟩
abbrev s_see : Stmt := topS 12
abbrev N_see : List Str := ["form", "part"]
theorem sc_see : FnScope N_see ["form"] (defScope s_see) := ⟨rfl, rfl, rfl, by decide +kernel, rfl, by decide +kernel, by decide +kernel⟩
abbrev s_parts_of : Stmt := topS 13
abbrev N_parts_of : List Str := ["form"]
theorem sc_parts_of : FnScope N_parts_of ["form"] (defScope s_parts_of) := ⟨rfl, rfl, rfl, by decide +kernel, rfl, by decide +kernel, by decide +kernel⟩
abbrev s_signs : Stmt := topS 14
abbrev N_signs : List Str := ["form", "part"]
theorem sc_signs : FnScope N_signs ["form"] (defScope s_signs) := ⟨rfl, rfl, rfl, by decide +kernel, rfl, by decide +kernel, by decide +kernel⟩
abbrev s_depth : Stmt := topS 15
abbrev N_depth : List Str := ["form", "part"]
theorem sc_depth : FnScope N_depth ["form"] (defScope s_depth) := ⟨rfl, rfl, rfl, by decide +kernel, rfl, by decide +kernel, by decide +kernel⟩
abbrev s_looked : Stmt := topS 16
abbrev N_looked : List Str := ["form", "many"]
theorem sc_looked : FnScope N_looked ["form"] (defScope s_looked) := ⟨rfl, rfl, rfl, by decide +kernel, rfl, by decide +kernel, by decide +kernel⟩
abbrev s_taken : Stmt := topS 19
abbrev N_taken : List Str := ["text", "at", "signs"]
theorem sc_taken : FnScope N_taken ["text", "at", "signs"] (defScope s_taken) := ⟨rfl, rfl, rfl, by decide +kernel, rfl, by decide +kernel, by decide +kernel⟩
abbrev s_number_of : Stmt := topS 20
abbrev N_number_of : List Str := ["word"]
theorem sc_number_of : FnScope N_number_of ["word"] (defScope s_number_of) := ⟨rfl, rfl, rfl, by decide +kernel, rfl, by decide +kernel, by decide +kernel⟩
abbrev s_parts_at : Stmt := topS 21
abbrev N_parts_at : List Str := ["text", "at", "deep", "parts", "form"]
theorem sc_parts_at : FnScope N_parts_at ["text", "at", "deep"] (defScope s_parts_at) := ⟨rfl, rfl, rfl, by decide +kernel, rfl, by decide +kernel, by decide +kernel⟩
abbrev s_form_at : Stmt := topS 22
abbrev N_form_at : List Str := ["text", "at", "deep", "end", "word", "parts"]
theorem sc_form_at : FnScope N_form_at ["text", "at", "deep"] (defScope s_form_at) := ⟨rfl, rfl, rfl, by decide +kernel, rfl, by decide +kernel, by decide +kernel⟩
abbrev s_read : Stmt := topS 23
abbrev N_read : List Str := ["text", "form", "at"]
theorem sc_read : FnScope N_read ["text"] (defScope s_read) := ⟨rfl, rfl, rfl, by decide +kernel, rfl, by decide +kernel, by decide +kernel⟩
abbrev s__law_cell_at : Stmt := topS 25
abbrev N__law_cell_at : List Str := ["script", "k"]
theorem sc__law_cell_at : FnScope N__law_cell_at ["script", "k"] (defScope s__law_cell_at) := ⟨rfl, rfl, rfl, by decide +kernel, rfl, by decide +kernel, by decide +kernel⟩
abbrev s__law_whole : Stmt := topS 26
abbrev N__law_whole : List Str := ["found"]
theorem sc__law_whole : FnScope N__law_whole ["found"] (defScope s__law_whole) := ⟨rfl, rfl, rfl, by decide +kernel, rfl, by decide +kernel, by decide +kernel⟩
abbrev s__law_form : Stmt := topS 27
abbrev N__law_form : List Str := ["spot", "many", "deep", "number", "words", "size", "parts", "k"]
theorem sc__law_form : FnScope N__law_form ["spot", "many", "deep"] (defScope s__law_form) := ⟨rfl, rfl, rfl, by decide +kernel, rfl, by decide +kernel, by decide +kernel⟩
abbrev s__law_drawn : Stmt := topS 28
abbrev N__law_drawn : List Str := ["cell", "many", "deep"]
theorem sc__law_drawn : FnScope N__law_drawn ["cell", "many", "deep"] (defScope s__law_drawn) := ⟨rfl, rfl, rfl, by decide +kernel, rfl, by decide +kernel, by decide +kernel⟩
abbrev s__law_is_form : Stmt := topS 29
abbrev N__law_is_form : List Str := ["form", "part"]
theorem sc__law_is_form : FnScope N__law_is_form ["form"] (defScope s__law_is_form) := ⟨rfl, rfl, rfl, by decide +kernel, rfl, by decide +kernel, by decide +kernel⟩
abbrev s__law_text : Stmt := topS 31
abbrev N__law_text : List Str := ["form", "part"]
theorem sc__law_text : FnScope N__law_text ["form"] (defScope s__law_text) := ⟨rfl, rfl, rfl, by decide +kernel, rfl, by decide +kernel, by decide +kernel⟩
abbrev s__law_name : Stmt := topS 32
abbrev N__law_name : List Str := ["word", "sign"]
theorem sc__law_name : FnScope N__law_name ["word"] (defScope s__law_name) := ⟨rfl, rfl, rfl, by decide +kernel, rfl, by decide +kernel, by decide +kernel⟩
abbrev s__law_leaf : Stmt := topS 33
abbrev N__law_leaf : List Str := ["word", "figures", "sign"]
theorem sc__law_leaf : FnScope N__law_leaf ["word"] (defScope s__law_leaf) := ⟨rfl, rfl, rfl, by decide +kernel, rfl, by decide +kernel, by decide +kernel⟩
abbrev s__law_due : Stmt := topS 34
abbrev N__law_due : List Str := ["text", "pile", "word", "done", "sign", "form", "over"]
theorem sc__law_due : FnScope N__law_due ["text"] (defScope s__law_due) := ⟨rfl, rfl, rfl, by decide +kernel, rfl, by decide +kernel, by decide +kernel⟩
abbrev s__law_odd : Stmt := topS 35
abbrev N__law_odd : List Str := ["cell", "some"]
theorem sc__law_odd : FnScope N__law_odd ["cell"] (defScope s__law_odd) := ⟨rfl, rfl, rfl, by decide +kernel, rfl, by decide +kernel, by decide +kernel⟩
abbrev s__law_told : Stmt := topS 36
abbrev N__law_told : List Str := ["text", "told", "e"]
theorem sc__law_told : FnScope N__law_told ["text"] (defScope s__law_told) := ⟨rfl, rfl, rfl, by decide +kernel, rfl, by decide +kernel, by decide +kernel⟩
abbrev s__law_spoiled : Stmt := topS 37
abbrev N__law_spoiled : List Str := ["text", "cell", "at", "sign", "way"]
theorem sc__law_spoiled : FnScope N__law_spoiled ["text", "cell"] (defScope s__law_spoiled) := ⟨rfl, rfl, rfl, by decide +kernel, rfl, by decide +kernel, by decide +kernel⟩
abbrev s__law_signs : Stmt := topS 38
abbrev N__law_signs : List Str := ["form", "part"]
theorem sc__law_signs : FnScope N__law_signs ["form"] (defScope s__law_signs) := ⟨rfl, rfl, rfl, by decide +kernel, rfl, by decide +kernel, by decide +kernel⟩
abbrev s__law_great : Stmt := topS 39
abbrev N__law_great : List Str := ["cell", "form", "k", "leaf", "row"]
theorem sc__law_great : FnScope N__law_great ["cell"] (defScope s__law_great) := ⟨rfl, rfl, rfl, by decide +kernel, rfl, by decide +kernel, by decide +kernel⟩
abbrev s__law_read_great : Stmt := topS 40
abbrev N__law_read_great : List Str := ["cell", "form", "right", "found"]
theorem sc__law_read_great : FnScope N__law_read_great ["cell"] (defScope s__law_read_great) := ⟨rfl, rfl, rfl, by decide +kernel, rfl, by decide +kernel, by decide +kernel⟩
abbrev s__law_worded : Stmt := topS 41
abbrev N__law_worded : List Str := ["form", "cell", "letters", "place", "word", "j", "part"]
theorem sc__law_worded : FnScope N__law_worded ["form", "cell"] (defScope s__law_worded) := ⟨rfl, rfl, rfl, by decide +kernel, rfl, by decide +kernel, by decide +kernel⟩
abbrev s_law : Stmt := topS 42
abbrev N_law : List Str := ["script", "text", "k", "spoiled", "due", "found"]
theorem sc_law : FnScope N_law ["script"] (defScope s_law) := ⟨rfl, rfl, rfl, by decide +kernel, rfl, by decide +kernel, by decide +kernel⟩
/-- what the top leaves -/
structure Tp (K : PySem.W.Frag) (mg : Str → Option Value) : Prop where
  z_len : mg "len" = none
  z_tuple : mg "tuple" = none
  z_isinstance : mg "isinstance" = none
  z_dict : mg "dict" = none
  z_str : mg "str" = none
  z_int : mg "int" = none
  z_sum : mg "sum" = none
  z_range : mg "range" = none
  z_all : mg "all" = none
  z_max : mg "max" = none
  z_bool : mg "bool" = none
  z_ValueError : mg "ValueError" = none
  b_is_word : Bn K mg "is_word" s_is_word ["word"]
  b_see : Bn K mg "see" s_see ["form"]
  b_parts_of : Bn K mg "parts_of" s_parts_of ["form"]
  b_signs : Bn K mg "signs" s_signs ["form"]
  b_depth : Bn K mg "depth" s_depth ["form"]
  b_looked : Bn K mg "looked" s_looked ["form"]
  b_taken : Bn K mg "taken" s_taken ["text", "at", "signs"]
  b_number_of : Bn K mg "number_of" s_number_of ["word"]
  b_parts_at : Bn K mg "parts_at" s_parts_at ["text", "at", "deep"]
  b_form_at : Bn K mg "form_at" s_form_at ["text", "at", "deep"]
  b_read : Bn K mg "read" s_read ["text"]
  b__law_cell_at : Bn K mg "_law_cell_at" s__law_cell_at ["script", "k"]
  b__law_whole : Bn K mg "_law_whole" s__law_whole ["found"]
  b__law_form : Bn K mg "_law_form" s__law_form ["spot", "many", "deep"]
  b__law_drawn : Bn K mg "_law_drawn" s__law_drawn ["cell", "many", "deep"]
  b__law_is_form : Bn K mg "_law_is_form" s__law_is_form ["form"]
  b__law_text : Bn K mg "_law_text" s__law_text ["form"]
  b__law_name : Bn K mg "_law_name" s__law_name ["word"]
  b__law_leaf : Bn K mg "_law_leaf" s__law_leaf ["word"]
  b__law_due : Bn K mg "_law_due" s__law_due ["text"]
  b__law_odd : Bn K mg "_law_odd" s__law_odd ["cell"]
  b__law_told : Bn K mg "_law_told" s__law_told ["text"]
  b__law_spoiled : Bn K mg "_law_spoiled" s__law_spoiled ["text", "cell"]
  b__law_signs : Bn K mg "_law_signs" s__law_signs ["form"]
  b__law_great : Bn K mg "_law_great" s__law_great ["cell"]
  b__law_read_great : Bn K mg "_law_read_great" s__law_read_great ["cell"]
  b__law_worded : Bn K mg "_law_worded" s__law_worded ["form", "cell"]
  b_law : Bn K mg "law" s_law ["script"]
  g_LETTERS : ∃ t, mg "LETTERS" = some (.str "abcdefghijklmnopqrstuvwxyz" t)
  g_MOST_SIGNS : ∃ t, mg "MOST_SIGNS" = some (.int 200 t)
  g_MOST_DEPTH : ∃ t, mg "MOST_DEPTH" = some (.int 40 t)
  g_MOST_PARTS : ∃ t, mg "MOST_PARTS" = some (.int 4 t)
  g_MOST_GAP : ∃ t, mg "MOST_GAP" = some (.int 999 t)
  g_FIGURES : ∃ t, mg "FIGURES" = some (.str "0123456789" t)
  c_FormError : ∃ C, ExC K mg "FormError" C
  c_NoForm : ∃ C, ExC K mg "NoForm" C
  c_TooMany : ∃ C, ExC K mg "TooMany" C
  c_BadNote : ∃ C, ExC K mg "BadNote" C
  s_FormError_FormError : SubC K mg "FormError" "FormError" true
  s_FormError_NoForm : SubC K mg "FormError" "NoForm" false
  s_FormError_TooMany : SubC K mg "FormError" "TooMany" false
  s_FormError_BadNote : SubC K mg "FormError" "BadNote" false
  s_NoForm_FormError : SubC K mg "NoForm" "FormError" true
  s_NoForm_NoForm : SubC K mg "NoForm" "NoForm" true
  s_NoForm_TooMany : SubC K mg "NoForm" "TooMany" false
  s_NoForm_BadNote : SubC K mg "NoForm" "BadNote" false
  s_TooMany_FormError : SubC K mg "TooMany" "FormError" true
  s_TooMany_NoForm : SubC K mg "TooMany" "NoForm" false
  s_TooMany_TooMany : SubC K mg "TooMany" "TooMany" true
  s_TooMany_BadNote : SubC K mg "TooMany" "BadNote" false
  s_BadNote_FormError : SubC K mg "BadNote" "FormError" true
  s_BadNote_NoForm : SubC K mg "BadNote" "NoForm" false
  s_BadNote_TooMany : SubC K mg "BadNote" "TooMany" false
  s_BadNote_BadNote : SubC K mg "BadNote" "BadNote" true
local macro_rules | `(tactic| walk_at "rp") => `(tactic| first | assumption | exact Rp.mono (by assumption) (by assumption) | exact Rp.mono (Rp.mono (by assumption) (by assumption)) (by assumption))
local macro_rules | `(tactic| walk_at "ev") => `(tactic| with_reducible first
  | exact ev_int | exact ev_str | exact ev_bl | exact ev_non | exact et_yes | exact ea_nil
  | (refine ev_var rfl ?_; walk_at "rp")
  | (refine et_test ?_; walk_at "ev") | (refine et_B ?_; walk_at "ev") | (refine et_not ?_; walk_at "ev")
  | (refine ea_cons ?_ ?_ <;> walk_at "ev")
  | (refine ev_isgap ?_; walk_at "ev") | (refine ev_istie ?_; walk_at "ev") | (refine ev_nottie ?_; walk_at "ev")
  | (refine ev_f0 ?_; walk_at "ev") | (refine ev_f1 ?_; walk_at "ev") | (refine ev_f2 ?_; walk_at "ev")
  | (refine ev_isi ?_; walk_at "ev")
  | (refine ev_add ?_ ?_ <;> walk_at "ev") | (refine ev_sub ?_ ?_ <;> walk_at "ev")
  | (refine ev_lt ?_ ?_ <;> walk_at "ev") | (refine ev_gt ?_ ?_ <;> walk_at "ev") | (refine ev_le ?_ ?_ <;> walk_at "ev") | (refine ev_ge ?_ ?_ <;> walk_at "ev")
  | (refine ev_tup ?_; walk_at "ev") | (refine ev_lst ?_; walk_at "ev")
  | (refine ev_din ?_ ?_ <;> walk_at "ev") | (refine ev_dnotin ?_ ?_ <;> walk_at "ev"))
section
variable {P : Program} {w : World} {K : PySem.W.Frag} {mg : Str → Option Value} {base : Heap}
theorem ok_parts_of (T : Tp K mg) : Df P w K mg base CX0 1 "parts_of" ["form"] spParts := by
  refine T.b_parts_of.ok sc_parts_of spParts.len (fun f cdv A outer s H vs Q E hr h => ?_)
  obtain ⟨ds, r, hR, ⟨f, rfl, rfl⟩, q⟩ := h
  obtain ⟨v1, _, rfl, h1, rfl⟩ := hR
  refine ⟨_, (pss_cons (ps_if (pt_cmpR (op_eqP (un_of hr)) (pe_ix ix_tup (pv 0) pe_int (fun _ _ => rfl)) pe_str (nomark _)) (pss_one (ps_ret (pe_tup pa_nil))) pss_nil) (pss_one (ps_ret (pe_ix ix_tup (pv 0) pe_int (fun _ _ => rfl))))), ?_⟩
  refine EvR.run ?_ q
  cases f with
  | gap k => exact er_here (er_ifT (et_test (ev_isgap (f := .gap k) (ev_f0 (ev_var rfl h1)))) (er_ret (ev_tup ea_nil (Nat.zero_le _))))
  | tie w ps => exact er_skip (et_test (ev_isgap (f := .tie w ps) (ev_f0 (ev_var rfl h1)))) (er_ret ((ev_f2 (ev_var rfl h1)).to (by rw [Fm.dL_map]; rfl)))
theorem ok_signs (T : Tp K mg) : ∀ n, Df P w K mg base CX0 (n + 1) "signs" ["form"] (spSigns n) := by
  refine T.b_signs.recK 1 spSigns.no fun n D_signs => ?_
  have D_parts_of := ok_parts_of (P := P) (w := w) (base := base) T
  refine T.b_signs.ok sc_signs spSigns.len (fun f cdv A outer s H vs Q E hr h => ?_)
  obtain ⟨ds, r, hR, ⟨f, rfl, rfl, hd, hp⟩, q⟩ := h
  obtain ⟨v1, _, rfl, h1, rfl⟩ := hR
  refine ⟨_, (pss_one (ps_ret (pe_op op_add pe_int (pe_callB (cr_sum rfl) (by rfl) T.z_sum (by decide +kernel) (pa_cons (pe_lc (own := [("part", 1)]) (g := gName 1) (by rfl) sc_signs.nd (pi_tup (pe_df D_parts_of (hr.mono (by omega)) (by rfl) pass0 (pa_cons (pv 0) pa_nil))) (blkOk_by (own := [("part", 1)]) (N := N_signs) (sc := defScope s_signs) (by decide +kernel)) (fun _ _ _ _ _ => pg_name (i := 1) sc_signs.nd rfl (Or.inl rfl)) (fun _ _ _ _ _ => pts_nil) (fun _ _ _ _ _ => (pe_df D_signs (hr.mono (by omega)) (by rfl) pass0 (pa_cons (pv 1) pa_nil)))) pa_nil))))), ?_⟩
  refine EvR.run ?_ q
  have hps : f.parts.length ≤ 1000 := by
    cases f with
    | gap _ => exact Nat.zero_le _
    | tie w ps => simp only [Fm.ok, Bool.and_eq_true, decide_eq_true_eq] at hp; simp only [Fm.parts]; omega
  have e : (f.sg : Int) = 1 + (f.parts.map fun g => (g.sg : Int)).sum := by
    cases f with
    | gap _ => rfl
    | tie w ps => have := sgL_sum ps; simp only [Fm.sg, Fm.parts]; omega
  rw [e]
  refine er_ret (ev_add ev_int (ev_cb (ea_cons ((ev_lc1 f.parts Fm.d (fun g => .int g.sg) (ei_tup ((ev_call (ea_cons (ev_var rfl h1) ea_nil) (spP.d ⟨f, rfl, rfl⟩)).to (by rw [Fm.dL_map])) Fm.immL_d).j (fun x hx v H1 s1 r1 => ?_) (fun _ _ => rfl) hps).to (d' := .list ((f.parts.map fun g => (g.sg : Int)).map .int)) (by rw [List.map_map]; rfl)) ea_nil) cd_sum))
  refine ev_call (ea_cons (ev_var rfl r1) ea_nil) (spP.d ⟨x, rfl, rfl, ?_, ?_⟩)
  · cases f with
    | gap _ => cases hx
    | tie w ps =>
      have := Fm.dep_part (ps := ps) hx
      simp only [Fm.dep] at hd
      omega
  · cases f with
    | gap _ => cases hx
    | tie w ps =>
      simp only [Fm.ok, Bool.and_eq_true] at hp
      exact Fm.ok_part hp.2 hx
end
section
variable {P : Program} {w : World} {K : PySem.W.Frag} {mg : Str → Option Value} {base : Heap}
theorem ok_is_word (T : Tp K mg) : Df P w K mg base CX0 1 "is_word" ["word"] spWord := by
  refine T.b_is_word.ok sc_is_word spWord.len (fun f cdv A outer s H vs Q E hr h => ?_)
  obtain ⟨ds, r, hR, ⟨z, rfl, rfl, hz⟩, q⟩ := h
  obtain ⟨v1, _, rfl, h1, rfl⟩ := hR
  refine ⟨_, (pss_one (ps_ret (pe_and (pe_chain op_le op_le pe_int (pe_callB cr_len (by rfl) T.z_len (by decide +kernel) (pa_cons (pv 0) pa_nil)) pe_int) (pe_one (pe_callB (cr_all rfl) (by rfl) T.z_all (by decide +kernel) (pa_cons (pe_lc (own := [("letter", 1)]) (g := gName 1) (by rfl) sc_is_word.nd (pi_str (pv 0)) (blkOk_by (own := [("letter", 1)]) (N := N_is_word) (sc := defScope s_is_word) (by decide +kernel)) (fun _ _ _ _ _ => pg_name (i := 1) sc_is_word.nd rfl (Or.inl rfl)) (fun _ _ _ _ _ => pts_nil) (fun _ _ _ _ _ => (pe_cmpR op_inS (pv 1) (pe_glob (v := .str "abcdefghijklmnopqrstuvwxyz") (by rfl) T.g_LETTERS.choose_spec ⟨_, rfl⟩) rfl))) pa_nil)))))), ?_⟩
  refine EvR.run ?_ q
  have hl : ∀ {σ : L2.St} {H' : Hp}, σ[0]? = some (some v1) → Same H H' → EvD (tCB (rLen K) (tCons (tVar 0) tNil)) σ H' (.int z.length) := fun e s => ev_cb (ea_cons (ev_var e (h1.mono s)) ea_nil) (cd_lenS (Nat.le_trans hz (by decide)))
  refine er_ret (ev_and (ev_chain ev_int (hl rfl (Same.refl _)) ev_int od_le fun _ => od_le) fun c => ?_)
  rw [Bool.and_eq_true, decide_eq_true_eq, decide_eq_true_eq] at c
  have e : z.cps.toList.all isLet = (z.cps.toList.map isLet).all id := by rw [List.all_map]; rfl
  rw [e]
  refine ev_cb (ea_cons ((ev_lc1 z.cps.toList (fun c => .str ⟨#[c]⟩) (fun c => .bool (isLet c)) (ei_str (ev_var rfl h1)).j (fun x hx v H1 s1 r1 => ?_) (fun _ _ => rfl) ?_).to (d' := .list ((z.cps.toList.map isLet).map .bool)) (by rw [List.map_map]; rfl)) ea_nil) cd_all
  · exact ev_inS (ev_var rfl r1) ev_str
  · have : z.cps.toList.length = z.length := by simp [Str.length]
    omega
theorem ok_see (T : Tp K mg) : ∀ n, Df P w K mg base (L2N.CX P w) (n + 1) "see" ["form"] (spSee mg n) := by
  refine T.b_see.recK 1 spSee.no fun n D_see => ?_
  have D_is_word := ok_is_word (P := P) (w := w) (base := base) T
  obtain ⟨C_NoForm, X_NoForm⟩ := T.c_NoForm
  refine T.b_see.okN sc_see spSee.len (fun f cdv A outer s H vs Q E hr h => ?_)
  obtain ⟨ds, o, hR, ⟨f, rfl, okf, swf, dpf, rfl⟩, q⟩ := h
  obtain ⟨v1, _, rfl, h1, rfl⟩ := hR
  refine ⟨_, (pss_one (ps_if (pt_cmpR (op_eqP (un_of hr)) (pe_ix ix_tup (pv 0) pe_int (fun _ _ => rfl)) pe_str (nomark _)) (pss_one (ps_if (PW.pt (pw_or (pt_cmpR op_lt (pe_ix ix_tup (pv 0) pe_int (fun _ _ => rfl)) pe_int (nomark _)) (pw_or1 (pt_cmpR op_gt (pe_ix ix_tup (pv 0) pe_int (fun _ _ => rfl)) (pe_glob (v := .int 999) (by rfl) T.g_MOST_GAP.choose_spec ⟨_, rfl⟩) (nomark _))))) (pss_one (L2N.ps_raise rfl (L2N.takes_of rfl rfl rfl rfl) (L2N.pmk_own PySem.F.excBase_ValueError X_NoForm.q X_NoForm.g X_NoForm.k (raises_own X_NoForm.b X_NoForm.t) (by rfl)))) pss_nil)) (pss_cons (ps_if (PW.pt (pw_or (pt_not (pt_val (pe_df D_is_word (hr.mono (by omega)) (by rfl) pass0 (pa_cons (pe_ix ix_tup (pv 0) pe_int (fun _ _ => rfl)) pa_nil)))) (pw_or1 (pt_cmpR op_gt (pe_callB cr_len (by rfl) T.z_len (by decide +kernel) (pa_cons (pe_ix ix_tup (pv 0) pe_int (fun _ _ => rfl)) pa_nil)) (pe_glob (v := .int 4) (by rfl) T.g_MOST_PARTS.choose_spec ⟨_, rfl⟩) (nomark _))))) (pss_one (L2N.ps_raise rfl (L2N.takes_of rfl rfl rfl rfl) (L2N.pmk_own PySem.F.excBase_ValueError X_NoForm.q X_NoForm.g X_NoForm.k (raises_own X_NoForm.b X_NoForm.t) (by rfl)))) pss_nil) (pss_one (ps_for (passes_of rfl) rfl (pi_tup (pe_ix ix_tup (pv 0) pe_int (fun _ _ => rfl))) (pg_name (i := 1) sc_see.nd rfl (by first | exact Or.inl rfl | exact Or.inr rfl)) (pss_one (ps_expr (pe_df D_see (hr.mono (by omega)) (by rfl) (L2N.passes_call (L2N.takes_of rfl rfl rfl rfl) (fun _ _ _ _ h => h)) (pa_cons (pv 1) pa_nil))))))))), ?_⟩
  cases f with
  | gap k =>
    refine w_ifT (et_test (ev_isgap (f := .gap k) (ev_f0 (ev_var rfl h1)))) fun H1 s1 => ?_
    refine w_if (et_or (et_test (ev_lt (i := k) (ev_f1 (f := .gap k) (ev_var rfl (h1.mono s1))) ev_int)) fun _ => et_test (ev_gt (i := k) (ev_f1 (f := .gap k) (ev_var rfl (h1.mono s1))) ev_int)) (fun c H2 s2 => ?_) (fun c H2 s2 => ?_)
    · have e : fine (.gap k) = false := by
        rw [Bool.or_eq_true, decide_eq_true_eq, decide_eq_true_eq] at c
        simp only [fine, Bool.and_eq_false_iff, decide_eq_false_iff_not]
        omega
      rw [e] at q
      exact q _ H2 X_NoForm.g (s1.trans s2)
    · have e : fine (.gap k) = true := by
        rw [Bool.or_eq_false_iff, decide_eq_false_iff_not, decide_eq_false_iff_not] at c
        simp only [fine, Bool.and_eq_true, decide_eq_true_eq]
        omega
      rw [e] at q
      exact q _ H2 (s1.trans s2) rfl
  | tie w ps =>
    have swf' := swf
    have okf' := okf
    simp only [Fm.sw, Bool.and_eq_true, decide_eq_true_eq] at swf'
    simp only [Fm.ok, Bool.and_eq_true, decide_eq_true_eq] at okf'
    simp only [Fm.dep] at dpf
    refine w_ifF (et_test (ev_isgap (f := .tie w ps) (ev_f0 (ev_var rfl h1)))) fun H1 s1 => ?_
    have h11 := h1.mono s1
    refine w_guard (et_or (et_not (et_test (ev_call (d := .bool (wordOk w)) (ea_cons (ev_f1 (f := .tie w ps) (ev_var rfl h11)) ea_nil) (spP.d ⟨w, rfl, rfl, swf'.1⟩)))) fun _ => et_test (ev_gt (i := ((ps.map Fm.d).length : Nat)) (ev_cb (ea_cons (ev_f2 (w := w) (ps := ps) (ev_var rfl h11)) ea_nil) cd_lenT) ev_int)) (fun c H2 s2 => ?_) (fun c H2 s2 => ?_)
    · have e : fine (.tie w ps) = false := by
        rw [Bool.or_eq_true, decide_eq_true_eq, Bool.not_eq_true', List.length_map] at c
        simp only [fine]
        rcases c with c | c
        · rw [c]; rfl
        · rw [decide_eq_false (by omega : ¬ ps.length ≤ 4)]; simp
      rw [e] at q
      exact q _ H2 X_NoForm.g (s1.trans s2)
    · rw [Bool.or_eq_false_iff, decide_eq_false_iff_not, Bool.not_eq_false', List.length_map] at c
      have h12 := h11.mono s2
      refine w_for (ei_tup (ev_f2 (w := w) (ps := ps) (ev_var (i := 0) rfl h12)) Fm.immL_d) fun H3 s3 => ?_
      refine ⟨fun i σ' H' => i ≤ ps.length ∧ (∃ x, σ' = [some v1, x]) ∧ Same H H' ∧ fineL (ps.take i) = true, ⟨Nat.zero_le _, ⟨_, rfl⟩, (s1.trans s2).trans s3, rfl⟩, ?_, ?_⟩
      · rintro i d x σ' H' H4 ed kt ⟨hi, ⟨x0, rfl⟩, sH, hf⟩ sx rx
        rw [List.getElem?_map] at ed
        obtain ⟨g, eg, rfl⟩ := Option.map_eq_some_iff.mp ed
        have hg := List.mem_of_getElem? eg
        have hgd := Fm.dep_part hg
        refine ⟨x, rfl, [g.d], _, .cons rx .nil, ⟨g, rfl, Fm.ok_part okf'.2 hg, sw_part swf'.2 hg, by omega, rfl⟩, ?_⟩
        by_cases hfg : fine g = true
        · rw [if_pos hfg]
          intro v5 H5 s5 r5
          refine ⟨(kt.trans (KT.of sx)).trans (KT.of s5), ?_, ⟨_, rfl⟩, (sH.trans sx).trans s5, ?_⟩
          · exact (List.getElem?_eq_some_iff.mp eg).1
          · rw [fineL_take eg, hf, hfg]; rfl
        · rw [if_neg hfg]
          intro C5 H5 g5 s5
          have e : fine (.tie w ps) = false := by
            rw [Bool.eq_false_iff]
            intro z
            simp only [fine, Bool.and_eq_true] at z
            exact hfg (fine_part z.2 hg)
          rw [e] at q
          exact q C5 H5 g5 ((sH.trans sx).trans s5)
      · rintro σ' H' kt ⟨_, ⟨x, rfl⟩, sH, hf⟩
        rw [List.length_map, List.take_length] at hf
        have e : fine (.tie w ps) = true := by
          simp only [fine, Bool.and_eq_true, decide_eq_true_eq]
          exact ⟨⟨c.1, by omega⟩, hf⟩
        rw [e] at q
        exact q _ H' sH rfl
theorem ok_depth (T : Tp K mg) : ∀ n, Df P w K mg base CX0 (n + 1) "depth" ["form"] (spDep n) := by
  refine T.b_depth.recK 1 spDep.no fun n D_depth => ?_
  have D_parts_of := ok_parts_of (P := P) (w := w) (base := base) T
  refine T.b_depth.ok sc_depth spDep.len (fun f cdv A outer s H vs Q E hr h => ?_)
  obtain ⟨ds, r, hR, ⟨f, rfl, rfl, hd, hp⟩, q⟩ := h
  obtain ⟨v1, _, rfl, h1, rfl⟩ := hR
  refine ⟨_, (pss_one (ps_ret (pe_op op_add pe_int (pe_callBK (cr_maxD rfl) (by rfl) T.z_max (by decide +kernel) (pa_cons (pe_lc (own := [("part", 1)]) (g := gName 1) (by rfl) sc_depth.nd (pi_tup (pe_df D_parts_of (hr.mono (by omega)) (by rfl) pass0 (pa_cons (pv 0) pa_nil))) (blkOk_by (own := [("part", 1)]) (N := N_depth) (sc := defScope s_depth) (by decide +kernel)) (fun _ _ _ _ _ => pg_name (i := 1) sc_depth.nd rfl (Or.inl rfl)) (fun _ _ _ _ _ => pts_nil) (fun _ _ _ _ _ => (pe_df D_depth (hr.mono (by omega)) (by rfl) pass0 (pa_cons (pv 1) pa_nil)))) pa_nil) (pk_cons pe_int pk_nil))))), ?_⟩
  refine EvR.run ?_ q
  have hps : f.parts.length ≤ 1000 := by
    cases f with
    | gap _ => exact Nat.zero_le _
    | tie w ps => simp only [Fm.ok, Bool.and_eq_true, decide_eq_true_eq] at hp; simp only [Fm.parts]; omega
  have e : (f.dep : Int) = 1 + ((Fm.depL f.parts : Nat) : Int) := by
    cases f with
    | gap _ => rfl
    | tie w ps => simp only [Fm.dep, Fm.parts]; omega
  rw [e]
  refine er_ret (ev_add ev_int (ev_maxD (d0 := 0) (ns := f.parts.map fun g => (g.dep : Int)) ((ev_lc1 f.parts Fm.d (fun g => .int g.dep) (ei_tup ((ev_call (ea_cons (ev_var rfl h1) ea_nil) (spP.d ⟨f, rfl, rfl⟩)).to (by rw [Fm.dL_map])) Fm.immL_d).j (fun x hx v H1 s1 r1 => ?_) (fun _ _ => rfl) hps).to (by rw [List.map_map]; rfl)) ev_int (fun z => ?_) (fun z => ?_)))
  · refine ev_call (ea_cons (ev_var rfl r1) ea_nil) (spP.d ⟨x, rfl, rfl, ?_, ?_⟩)
    · cases f with
      | gap _ => cases hx
      | tie w ps =>
        have := Fm.dep_part (ps := ps) hx
        simp only [Fm.dep] at hd
        omega
    · cases f with
      | gap _ => cases hx
      | tie w ps =>
        simp only [Fm.ok, Bool.and_eq_true] at hp
        exact Fm.ok_part hp.2 hx
  · have : f.parts = [] := List.map_eq_nil_iff.mp z
    rw [this]; rfl
  · exact depL_max fun y => z (by rw [y]; rfl)
theorem ok_looked (T : Tp K mg) (n : Nat) : Df P w K mg base (L2N.CX P w) (n + 2) "looked" ["form"] (spLooked mg n) := by
  have D_see := ok_see (P := P) (w := w) (base := base) T n
  have D_signs := ok_signs (P := P) (w := w) (base := base) T n
  have D_depth := ok_depth (P := P) (w := w) (base := base) T n
  obtain ⟨C_TooMany, X_TooMany⟩ := T.c_TooMany
  refine T.b_looked.okN sc_looked spLooked.len (fun f cdv A outer s H vs Q E hr h => ?_)
  obtain ⟨ds, o, hR, ⟨f, rfl, okf, swf, dpf, rfl⟩, q⟩ := h
  obtain ⟨v1, _, rfl, h1, rfl⟩ := hR
  refine ⟨_, (pss_cons (ps_expr (pe_df D_see (hr.mono (by omega)) (by rfl) (L2N.passes_call (L2N.takes_of rfl rfl rfl rfl) (fun _ _ _ _ h => h)) (pa_cons (pv 0) pa_nil))) (pss_cons (ps_set (i := 1) sc_looked.nd rfl (by first | exact Or.inl rfl | exact Or.inr rfl) (pe_df D_signs (hr.mono (by omega)) (by rfl) pass0 (pa_cons (pv 0) pa_nil))) (pss_cons (ps_if (PW.pt (pw_or (pt_cmpR op_gt (pv 1) (pe_glob (v := .int 200) (by rfl) T.g_MOST_SIGNS.choose_spec ⟨_, rfl⟩) (nomark _)) (pw_or1 (pt_cmpR op_gt (pe_df D_depth (hr.mono (by omega)) (by rfl) pass0 (pa_cons (pv 0) pa_nil)) (pe_glob (v := .int 40) (by rfl) T.g_MOST_DEPTH.choose_spec ⟨_, rfl⟩) (nomark _))))) (pss_one (L2N.ps_raise rfl (L2N.takes_of rfl rfl rfl rfl) (L2N.pmk_own PySem.F.excBase_ValueError X_TooMany.q X_TooMany.g X_TooMany.k (raises_own X_TooMany.b X_TooMany.t) (by rfl)))) pss_nil) (pss_one (ps_ret (pv 1)))))), ?_⟩
  refine ⟨v1, rfl, [f.d], _, .cons h1 .nil, ⟨f, rfl, okf, swf, dpf, rfl⟩, ?_⟩
  unfold lookedO at q
  by_cases hf : fine f = true
  · rw [if_pos hf] at q ⊢
    intro v2 H2 s2 r2
    have h12 := h1.mono s2
    refine w_sset (d := .int f.sg) (ev_call (ea_cons (ev_var rfl h12) ea_nil) (spP.d ⟨f, rfl, rfl, dpf, okf⟩)) fun v3 H3 s3 r3 => ?_
    cases (show v3 = V.int f.sg from r3)
    have h13 := h12.mono s3
    refine w_guard (et_or (et_test (ev_gt (ev_var (i := 1) (d := .int f.sg) rfl rfl) ev_int)) fun _ => et_test (ev_gt (i := (f.dep : Int)) (ev_call (ea_cons (ev_var rfl h13) ea_nil) (spP.d ⟨f, rfl, rfl, dpf, okf⟩)) ev_int)) (fun c H4 s4 => ?_) (fun c H4 s4 => ?_)
    · rw [Bool.or_eq_true, decide_eq_true_eq, decide_eq_true_eq] at c
      rw [if_pos (by omega)] at q
      exact q _ H4 X_TooMany.g ((s2.trans s3).trans s4)
    · rw [Bool.or_eq_false_iff, decide_eq_false_iff_not, decide_eq_false_iff_not] at c
      rw [if_neg (by omega)] at q
      exact w_ret (ev_var (i := 1) (d := .int f.sg) rfl rfl) fun v5 H5 s5 r5 => q v5 H5 (((s2.trans s3).trans s4).trans s5) r5
  · rw [if_neg hf] at q ⊢
    intro C2 H2 g2 s2
    exact q C2 H2 g2 s2
end
section
variable {P : Program} {w : World} {K : PySem.W.Frag} {mg : Str → Option Value} {base : Heap}
theorem ok_taken (T : Tp K mg) : Df P w K mg base CX0 1 "taken" ["text", "at", "signs"] spTaken := by
  refine T.b_taken.ok sc_taken spTaken.len (fun fa cdv A outer s H vs Q E hr h => ?_)
  obtain ⟨ds, r, hR, ⟨t, i, g, rfl, rfl, hi, hl⟩, q⟩ := h
  obtain ⟨v1, _, rfl, h1, v2, _, rfl, h2, v3, _, rfl, h3, rfl⟩ := hR
  cases (show v1 = V.str (sO t) from h1)
  cases (show v2 = V.int i from h2)
  cases (show v3 = V.str g from h3)
  refine ⟨_, (pss_cons (ps_while PassesOwn.never (PW.pt (pw_and (pt_cmpR op_lt (pv 1) (pe_callB cr_len (by rfl) T.z_len (by decide +kernel) (pa_cons (pv 0) pa_nil)) (nomark _)) (pw_and1 (pt_cmpR op_inS (pe_ix ix_str (pv 0) (pv 1) (fun _ _ => rfl)) (pv 2) rfl)))) (pss_one (ps_set (i := 1) sc_taken.nd rfl (by first | exact Or.inl rfl | exact Or.inr rfl) (pe_op op_add (pv 1) pe_int)))) (pss_one (ps_ret (pv 1)))), ?_⟩
  refine w_swhile (m := t.length - i) (fun m σ' H' => ∃ i' : Nat, σ' = [some (.str (sO t)), some (.int i'), some (.str g)] ∧ m = t.length - i' ∧ i' ≤ t.length ∧ i' + ((t.drop i').takeWhile fun c => decide (c ∈ g.cps.toList)).length = i + ((t.drop i).takeWhile fun c => decide (c ∈ g.cps.toList)).length ∧ Same H H') ⟨i, rfl, rfl, hi, rfl, Same.refl _⟩ ?_
  rintro m σ' H' ⟨i', rfl, rfl, hi', ei, sH⟩
  have vt : ∀ {H' : Hp}, EvD (tVar 0) [some (.str (sO t)), some (.int (i' : Int)), some (.str g)] H' (.str (sO t)) := ev_var rfl rfl
  have vi : ∀ {H' : Hp}, EvD (tVar 1) [some (.str (sO t)), some (.int (i' : Int)), some (.str g)] H' (.int i') := ev_var rfl rfl
  refine ⟨decide ((i' : Int) < (t.length : Nat)) && (match t[i']? with
    | some c => decide (c ∈ g.cps.toList)
    | none => false), et_and (et_test (ev_lt vi (ev_cb (ea_cons vt ea_nil) (cd_lenSO hl)))) fun c => ?_, fun c H1 s1 => ?_, fun c H1 s1 => ?_⟩
  · rw [decide_eq_true_eq] at c
    have ei' : t[i']? = some (t[i']'(by omega)) := List.getElem?_eq_getElem (by omega)
    rw [ei']
    exact et_test (ev_inS (ev_ixSO vt vi hl ei') (ev_var (i := 2) rfl rfl))
  · rw [Bool.and_eq_true, decide_eq_true_eq] at c
    have ei' : t[i']? = some (t[i']'(by omega)) := List.getElem?_eq_getElem (by omega)
    have hd : t.drop i' = t[i']'(by omega) :: t.drop (i' + 1) := List.drop_eq_getElem_cons (by omega)
    rw [ei'] at c
    refine w_set (ev_add vi ev_int) fun v2 H2 s2 r2 => ?_
    cases (show v2 = V.int ((i' : Int) + 1) from r2)
    refine ⟨t.length - (i' + 1), by omega, i' + 1, rfl, rfl, by omega, ?_, (sH.trans s1).trans s2⟩
    rw [← ei, hd, List.takeWhile_cons_of_pos (by exact c.2)]
    simp only [List.length_cons]; omega
  · refine w_ret vi fun v2 H2 s2 r2 => ?_
    cases (show v2 = V.int i' from r2)
    refine q _ H2 ((sH.trans s1).trans s2) ?_
    have e0 : ((t.drop i').takeWhile fun c => decide (c ∈ g.cps.toList)) = [] := by
      by_cases hlt : i' < t.length
      · have ei' : t[i']? = some (t[i']'hlt) := List.getElem?_eq_getElem hlt
        rw [ei', decide_eq_true (by omega : (i' : Int) < (t.length : Nat)), Bool.true_and] at c
        rw [List.drop_eq_getElem_cons hlt]
        refine List.takeWhile_cons_of_neg ?_
        rw [show decide _ = false from c]; decide
      · rw [List.drop_of_length_le (by omega)]; rfl
    rw [e0] at ei
    show V.int _ = V.int _
    rw [← ei]; simp
theorem ok_number_of (T : Tp K mg) : Df P w K mg base (L2.CX P w) 1 "number_of" ["word"] (spNum mg) := by
  obtain ⟨C_BadNote, X_BadNote⟩ := T.c_BadNote
  refine T.b_number_of.okX sc_number_of spNum.len (fun fa cdv A outer s H vs Q E hr h => ?_)
  obtain ⟨ds, o, hR, ⟨l, rfl, hf, hl, rfl⟩, q⟩ := h
  obtain ⟨v1, _, rfl, h1, rfl⟩ := hR
  refine ⟨_, (pss_cons (ps_if (PW.pt (pw_or (pt_cmpR (op_eqP (un_of hr)) (pv 0) pe_str (nomark _)) (pw_or (pt_cmpR op_gt (pe_callB cr_len (by rfl) T.z_len (by decide +kernel) (pa_cons (pv 0) pa_nil)) pe_int (nomark _)) (pw_or1 (PW.pt (pw_and (pt_cmpR (op_eqP (un_of hr)) (pe_ix ix_str (pv 0) pe_int (fun _ _ => rfl)) pe_str (nomark _)) (pw_and1 (pt_cmpR (op_neP (un_of hr)) (pv 0) pe_str (nomark _))))))))) (pss_one (ps_raise rfl (takes_of rfl rfl rfl rfl) (pmk_own PySem.F.excBase_ValueError X_BadNote.q X_BadNote.g X_BadNote.k (raises_own X_BadNote.b X_BadNote.t) (by rfl)))) pss_nil) (pss_one (ps_ret (pe_callTy cr_intS (by rfl) T.z_int (by decide +kernel) (pa_cons (pv 0) pa_nil))))), ?_⟩
  have okl : lOk l = true := by
    unfold lOk
    rw [List.all_eq_true] at hf ⊢
    intro x hx
    have := (isFig_iff x).mp (hf x hx)
    exact decide_eq_true (by omega)
  have e0 : ("0" : Str) = sO [48] := by decide +kernel
  have en : ("" : Str) = sO [] := by decide +kernel
  refine w_guard (b := decide (l = [] ∨ 3 < l.length ∨ (l.head? = some 48 ∧ l ≠ [48]))) ((et_or (a := decide (l = [])) (b := decide (3 < l.length ∨ (l.head? = some 48 ∧ l ≠ [48]))) (et_test ((ev_eq (e := .str "") (ev_var (i := 0) rfl h1) ev_str (okD_sO okl) (by rw [en]; exact okD_sO rfl)).to (by rw [en, eqv_sO]))) fun c1 => (et_or (a := decide (3 < (l.length : Int))) (b := decide (l.head? = some 48 ∧ l ≠ [48])) (et_test (ev_gt (ev_cb (ea_cons (ev_var (i := 0) rfl h1) ea_nil) (cd_lenSO hl)) ev_int)) fun c2 => ?_).to (by rw [← Bool.decide_or]; exact decide_eq_decide.mpr ⟨fun h => Or.elim h (fun a => Or.inl (by omega)) Or.inr, fun h => Or.elim h (fun a => Or.inl (by omega)) Or.inr⟩)).to (by rw [← Bool.decide_or])) (fun c H1 s1 => ?_) (fun c H1 s1 => ?_)
  · have hne : l ≠ [] := fun z => by rw [z] at c1; simp at c1
    obtain ⟨c, l', rfl⟩ := List.exists_cons_of_ne_nil hne
    have hc : lOk [c] = true := lOk_sub okl fun x hx => by rw [List.mem_singleton.mp hx]; exact List.mem_cons_self
    refine (et_and (a := decide ([c] = [48])) (b := !decide (c :: l' = [48])) (et_test ((ev_eq (e := .str "0") (ev_ixSO (i := 0) (c := c) (ev_var (i := 0) rfl h1) ev_int hl rfl) ev_str (okD_sO hc) (by rw [e0]; exact okD_sO rfl)).to (by rw [e0, eqv_sO]))) fun _ => et_test ((ev_ne (e := .str "0") (ev_var (i := 0) rfl h1) ev_str (okD_sO okl) (by rw [e0]; exact okD_sO rfl)).to (by rw [e0, eqv_sO]))).to ?_
    by_cases h : c = 48 <;> by_cases h' : l' = [] <;> simp [h, h']
  · rw [decide_eq_true_eq] at c
    rw [numOf, if_pos c] at q
    exact q _ H1 X_BadNote.g s1
  · rw [decide_eq_false_iff_not] at c
    rw [numOf, if_neg c] at q
    have hne : l ≠ [] := fun z => c (.inl z)
    have h3 : l.length ≤ 3 := by
      by_cases z : 3 < l.length
      · exact absurd (.inr (.inl z)) c
      · omega
    exact w_ret (ev_cb (ea_cons (ev_var (i := 0) rfl (h1.mono s1)) ea_nil) (cd_intS (SX.int_S (a := l) hf hne (by omega)) (by rw [sO_len]; omega))) fun v2 H2 s2 r2 => q v2 H2 (s1.trans s2) r2
theorem form_step (T : Tp K mg) (k : Nat) (D_parts_at : Df P w K mg base (L2.CX P w) (2 * k + 4) "parts_at" ["text", "at", "deep"] (spPartsAt mg k)) : Df P w K mg base (L2.CX P w) (2 * k + 5) "form_at" ["text", "at", "deep"] (spFormAt mg k) := by
  have D_taken := ok_taken (P := P) (w := w) (base := base) T
  have D_number_of := ok_number_of (P := P) (w := w) (base := base) T
  obtain ⟨C_BadNote, X_BadNote⟩ := T.c_BadNote
  refine T.b_form_at.okX sc_form_at spFormAt.len (fun fa cdv A outer s H vs Q E hr h => ?_)
  obtain ⟨ds, o, hR, ⟨t, r, rfl, st, okt, hl, hk, rfl⟩, q⟩ := h
  obtain ⟨v1, _, rfl, h1, v2, _, rfl, h2, v3, _, rfl, h3, rfl⟩ := hR
  cases (show v1 = V.str (sO t) from h1)
  cases (show v2 = V.int (t.length - r.length : Nat) from h2)
  cases (show v3 = V.int (41 - (k : Int)) from h3)
  refine ⟨_, (pss_cons (ps_if (pt_cmpR op_gt (pv 2) pe_int (nomark _)) (pss_one (ps_raise rfl (takes_of rfl rfl rfl rfl) (pmk_own PySem.F.excBase_ValueError X_BadNote.q X_BadNote.g X_BadNote.k (raises_own X_BadNote.b X_BadNote.t) (by rfl)))) pss_nil) (pss_cons (ps_if (pt_cmpR (op_eqP (un_of hr)) (pe_slice sl_str (pv 0) (po_some (pv 1)) (po_some (pe_op op_add (pv 1) pe_int))) pe_str (nomark _)) (pss_cons (ps_set (i := 3) sc_form_at.nd rfl (by first | exact Or.inl rfl | exact Or.inr rfl) (pe_df D_taken (hr.mono (by omega)) (by rfl) pass0 (pa_cons (pv 0) (pa_cons (pe_op op_add (pv 1) pe_int) (pa_cons (pe_glob (v := .str "0123456789") (by rfl) T.g_FIGURES.choose_spec ⟨_, rfl⟩) pa_nil))))) (pss_one (ps_ret (pe_tup (pa_cons (pe_tup (pa_cons pe_str (pa_cons (pe_df D_number_of (hr.mono (by omega)) (by rfl) (passes_call (takes_of rfl rfl rfl rfl) (fun _ _ _ _ h => h)) (pa_cons (pe_slice sl_str (pv 0) (po_some (pe_op op_add (pv 1) pe_int)) (po_some (pv 3))) pa_nil)) pa_nil))) (pa_cons (pv 3) pa_nil)))))) pss_nil) (pss_cons (ps_set (i := 3) sc_form_at.nd rfl (by first | exact Or.inl rfl | exact Or.inr rfl) (pe_df D_taken (hr.mono (by omega)) (by rfl) pass0 (pa_cons (pv 0) (pa_cons (pv 1) (pa_cons (pe_glob (v := .str "abcdefghijklmnopqrstuvwxyz") (by rfl) T.g_LETTERS.choose_spec ⟨_, rfl⟩) pa_nil))))) (pss_cons (ps_set (i := 4) sc_form_at.nd rfl (by first | exact Or.inl rfl | exact Or.inr rfl) (pe_slice sl_str (pv 0) (po_some (pv 1)) (po_some (pv 3)))) (pss_cons (ps_if (pt_cmpR (op_neP (un_of hr)) (pe_slice sl_str (pv 0) (po_some (pv 3)) (po_some (pe_op op_add (pv 3) pe_int))) pe_str (nomark _)) (pss_one (ps_ret (pe_tup (pa_cons (pe_tup (pa_cons pe_str (pa_cons (pv 4) (pa_cons (pe_tup pa_nil) pa_nil)))) (pa_cons (pv 3) pa_nil))))) pss_nil) (pss_cons (ps_asg (pe_df D_parts_at (hr.mono (by omega)) (by rfl) (passes_call (takes_of rfl rfl rfl rfl) (fun _ _ _ _ h => h)) (pa_cons (pv 0) (pa_cons (pe_op op_add (pv 3) pe_int) (pa_cons (pe_op op_add (pv 2) pe_int) pa_nil)))) (pg_tup (by rfl) (pgs_cons (pg_name (i := 5) sc_form_at.nd rfl (by first | exact Or.inl rfl | exact Or.inr rfl)) (pgs_cons (pg_name (i := 3) sc_form_at.nd rfl (by first | exact Or.inl rfl | exact Or.inr rfl)) pgs_nil)))) (pss_one (ps_ret (pe_tup (pa_cons (pe_tup (pa_cons pe_str (pa_cons (pv 4) (pa_cons (pv 5) pa_nil)))) (pa_cons (pv 3) pa_nil))))))))))), ?_⟩
  have hl2 : t.length ≤ 100000 := by omega
  have vt : ∀ {a b c d e : Option V} {H' : Hp}, EvD (tVar 0) [some (.str (sO t)), a, b, c, d, e] H' (.str (sO t)) := ev_var rfl rfl
  have va : ∀ {a b c d e : Option V} {H' : Hp}, EvD (tVar 1) [a, some (.int (t.length - r.length : Nat)), b, c, d, e] H' (.int (t.length - r.length : Nat)) := ev_var rfl rfl
  refine w_guard (et_test (ev_gt (ev_var (i := 2) (d := .int (41 - (k : Int))) rfl rfl) ev_int)) (fun c H1 s1 => ?_) (fun c H1 s1 => ?_)
  · rw [decide_eq_true_eq] at c
    obtain rfl : k = 0 := by omega
    exact q _ H1 X_BadNote.g s1
  rw [decide_eq_false_iff_not] at c
  obtain ⟨k, rfl⟩ : ∃ k', k = k' + 1 := ⟨k - 1, by omega⟩
  rw [formA] at q
  have sl := st.len
  refine w_guard (et_test (ev_peek vt va (ev_add va ev_int) st okt hl2 (x := "?") (c := 63) (by decide +kernel) (by decide))) (fun c2 H2 s2 => ?_) (fun c2 H2 s2 => ?_)
  · -- a gap
    rw [decide_eq_true_eq] at c2
    rw [if_pos c2] at q
    obtain ⟨r1, rfl⟩ : ∃ r1, r = 63 :: r1 := by
      cases r with
      | nil => cases c2
      | cons a r1 => simp only [List.head?_cons, Option.some.injEq] at c2; subst c2; exact ⟨r1, rfl⟩
    simp only [List.tail_cons] at q
    have st1 : Sfx t r1 := st.trans (Sfx.tail _)
    simp only [List.length_cons] at sl
    have ea : (((t.length - (63 :: r1).length : Nat) : Int) + 1) = ((t.length - r1.length : Nat) : Int) := by simp only [List.length_cons]; omega
    have dl := dropW_len isFig r1
    have efig : (fun c => decide (c ∈ figures.cps.toList)) = isFig := funext fig_mem
    have eend : t.length - r1.length + (r1.takeWhile isFig).length = t.length - (r1.dropWhile isFig).length := by omega
    refine w_sset (d := .int (t.length - (r1.dropWhile isFig).length : Nat)) (ev_call (ds := [.str (sO t), .int (t.length - r1.length : Nat), .str figures]) (ea_cons vt (ea_cons ((ev_add va ev_int).to (by rw [ea])) (ea_cons ev_str ea_nil))) (spP.d ⟨t, t.length - r1.length, figures, rfl, by rw [st1.drop, efig, eend], by omega, hl2⟩)) fun v5 H3 s3 r3 => ?_
    cases (show v5 = V.int (t.length - (r1.dropWhile isFig).length : Nat) from r3)
    have cut : EvD _ [some (.str (sO t)), some (.int (t.length - (63 :: r1).length : Nat)), some (.int (41 - ((k + 1 : Nat) : Int))), some (.int (t.length - (r1.dropWhile isFig).length : Nat)), none, none] H3 (.str (sO (r1.takeWhile isFig))) := (ev_cut vt ((ev_add va ev_int).to (by rw [ea])) (ev_var (i := 3) (d := .int (t.length - (r1.dropWhile isFig).length : Nat)) rfl rfl) hl2).to (by
      rw [st1.drop, show t.length - (r1.dropWhile isFig).length - (t.length - r1.length) = (r1.takeWhile isFig).length by omega, takeW_len])
    have hall : (r1.takeWhile isFig).all isFig = true := List.all_takeWhile
    have tl1 : (r1.takeWhile isFig).length ≤ 100000 := by omega
    cases en : numOf (r1.takeWhile isFig) with
    | none =>
      rw [en] at q
      exact w_callE (ea_cons cut ea_nil) ⟨_, rfl, hall, tl1, by rw [en]⟩ fun C H4 g s4 => q C H4 g (((s1.trans s2).trans s3).trans s4)
    | some n =>
      rw [en] at q
      exact w_ret (ev_tup (ea_cons (ev_tup (ds := [.str "gap", .int n]) (ea_cons ev_str (ea_cons (ev_call (d := .int n) (ea_cons cut ea_nil) (spE.d ⟨_, rfl, hall, tl1, by rw [en]⟩)) ea_nil))) (ea_cons (ev_var (i := 3) (d := .int (t.length - (r1.dropWhile isFig).length : Nat)) rfl rfl) ea_nil))) fun v6 H6 s6 r6 => q v6 H6 (((s1.trans s2).trans s3).trans s6) r6
  · rw [decide_eq_false_iff_not] at c2
    rw [if_neg c2] at q
    have dl := dropW_len isLet r
    have eend : t.length - r.length + (r.takeWhile isLet).length = t.length - (r.dropWhile isLet).length := by omega
    have s2' := st.trans (Sfx.dropW isLet r)
    refine w_sset (d := .int (t.length - (r.dropWhile isLet).length : Nat)) (ev_call (ds := [.str (sO t), .int (t.length - r.length : Nat), .str letters]) (ea_cons vt (ea_cons va (ea_cons ev_str ea_nil))) (spP.d ⟨t, t.length - r.length, letters, rfl, by rw [st.drop]; exact congrArg (fun n : Nat => PyData.int n) eend.symm, by omega, hl2⟩)) fun v5 H3 s3 r3 => ?_
    cases (show v5 = V.int (t.length - (r.dropWhile isLet).length : Nat) from r3)
    have ve : ∀ {a b c d e : Option V} {H' : Hp}, EvD (tVar 3) [a, b, c, some (.int (t.length - (r.dropWhile isLet).length : Nat)), d, e] H' (.int (t.length - (r.dropWhile isLet).length : Nat)) := ev_var rfl rfl
    refine w_sset (d := .str (sO (r.takeWhile isLet))) ((ev_cut vt va ve hl2).to (by
      rw [st.drop, show t.length - (r.dropWhile isLet).length - (t.length - r.length) = (r.takeWhile isLet).length by omega, takeW_len])) fun v6 H4 s4 r4 => ?_
    cases (show v6 = V.str (sO (r.takeWhile isLet)) from r4)
    have s14 := ((s1.trans s2).trans s3).trans s4
    have vw : ∀ {a b c d e : Option V} {H' : Hp}, EvD (tVar 4) [a, b, c, d, some (.str (sO (r.takeWhile isLet))), e] H' (.str (sO (r.takeWhile isLet))) := ev_var rfl rfl
    refine w_guard (et_test (ev_peekN vt ve (ev_add ve ev_int) s2' okt hl2 (x := "(") (c := 40) (by decide +kernel) (by decide))) (fun c3 H5 s5 => ?_) (fun c3 H5 s5 => ?_)
    · rw [Bool.not_eq_true', decide_eq_false_iff_not] at c3
      rw [if_neg c3] at q
      exact w_ret (ev_tup (ea_cons (ev_tup (ds := [.str "tie", .str (sO (r.takeWhile isLet)), .tuple []]) (ea_cons ev_str (ea_cons vw (ea_cons (ev_tup ea_nil (Nat.zero_le _)) ea_nil)))) (ea_cons ve ea_nil))) fun v7 H7 s7 r7 => q v7 H7 ((s14.trans s5).trans s7) r7
    · rw [Bool.not_eq_false', decide_eq_true_eq] at c3
      rw [if_pos c3] at q
      obtain ⟨r1, er⟩ : ∃ r1, r.dropWhile isLet = 40 :: r1 := by
        cases z : r.dropWhile isLet with
        | nil => rw [z] at c3; cases c3
        | cons a r1 => rw [z] at c3; simp only [List.head?_cons, Option.some.injEq] at c3; subst c3; exact ⟨r1, rfl⟩
      rw [er] at q ve s2'
      have st1 : Sfx t r1 := s2'.trans (Sfx.tail _)
      have sl1 := s2'.len
      simp only [List.length_cons] at sl1
      simp only [List.tail_cons] at q
      have ea : (((t.length - (40 :: r1).length : Nat) : Int) + 1) = ((t.length - r1.length : Nat) : Int) := by simp only [List.length_cons]; omega
      have ed : (41 - ((k + 1 : Nat) : Int)) + 1 = 41 - (k : Int) := by omega
      rw [er]
      refine w_callO (ds := [.str (sO t), .int (t.length - r1.length : Nat), .int (41 - (k : Int))]) (ea_cons vt (ea_cons ((ev_add ve ev_int).to (by rw [ea])) (ea_cons ((ev_add (ev_var (i := 2) (d := .int (41 - ((k + 1 : Nat) : Int))) rfl rfl) ev_int).to (by rw [ed])) ea_nil))) ⟨t, r1, k, rfl, rfl, st1, okt, hl, hk, rfl⟩ ?_
      cases ep : partsW (formA k) (r1.length + 1) r1 with
      | none =>
        rw [ep] at q
        exact fun C H6 g s6 => q C H6 g ((s14.trans s5).trans s6)
      | some p =>
        obtain ⟨ps, r2⟩ := p
        rw [ep] at q
        intro v7 H7 s7 r7
        refine w_gtup2 r7 fun v8 v9 r8 r9 => ?_
        cases (show v9 = V.int (t.length - r2.length : Nat) from r9)
        have e : (Fm.tie (sO (r.takeWhile isLet)) ps).d = .tuple [.str "tie", .str (sO (r.takeWhile isLet)), .tuple (ps.map Fm.d)] := by rw [Fm.d, Fm.dL_map]
        refine w_ret (ev_tup (ds := [(Fm.tie (sO (r.takeWhile isLet)) ps).d, .int (t.length - r2.length : Nat)]) (ea_cons ((ev_tup (ea_cons ev_str (ea_cons (ev_var (i := 4) (d := .str (sO (r.takeWhile isLet))) rfl rfl) (ea_cons (ev_var (i := 5) (d := .tuple (ps.map Fm.d)) rfl r8) ea_nil)))).to e.symm) (ea_cons (ev_var (i := 3) (d := .int (t.length - r2.length : Nat)) rfl rfl) ea_nil))) fun v10 H10 s10 r10 => q v10 H10 (((s14.trans s5).trans s7).trans s10) r10
theorem parts_step (T : Tp K mg) (j : Nat) (D_form_at : Df P w K mg base (L2.CX P w) (2 * j + 5) "form_at" ["text", "at", "deep"] (spFormAt mg j)) : Df P w K mg base (L2.CX P w) (2 * (j + 1) + 4) "parts_at" ["text", "at", "deep"] (spPartsAt mg (j + 1)) := by
  obtain ⟨C_BadNote, X_BadNote⟩ := T.c_BadNote
  refine T.b_parts_at.okX sc_parts_at spPartsAt.len (fun fa cdv A outer s H vs Q E hr h => ?_)
  obtain ⟨ds, o, hR, ⟨t, r, j', hj, rfl, st, okt, hl, hk, rfl⟩, q⟩ := h
  obtain rfl : j = j' := by omega
  obtain ⟨v1, _, rfl, h1, v2, _, rfl, h2, v3, _, rfl, h3, rfl⟩ := hR
  cases (show v1 = V.str (sO t) from h1)
  cases (show v2 = V.int (t.length - r.length : Nat) from h2)
  cases (show v3 = V.int (41 - (j : Int)) from h3)
  refine ⟨_, (pss_cons (ps_set (i := 3) sc_parts_at.nd rfl (by first | exact Or.inl rfl | exact Or.inr rfl) (pe_lst pa_nil)) (pss_one (ps_while (passes_of rfl) (pt_val pe_bl) (pss_cons (ps_asg (pe_df D_form_at (hr.mono (by omega)) (by rfl) (passes_call (takes_of rfl rfl rfl rfl) (fun _ _ _ _ h => h)) (pa_cons (pv 0) (pa_cons (pv 1) (pa_cons (pv 2) pa_nil)))) (pg_tup (by rfl) (pgs_cons (pg_name (i := 4) sc_parts_at.nd rfl (by first | exact Or.inl rfl | exact Or.inr rfl)) (pgs_cons (pg_name (i := 1) sc_parts_at.nd rfl (by first | exact Or.inl rfl | exact Or.inr rfl)) pgs_nil)))) (pss_cons (ps_expr (pe_bm PySem.F.plainAttrs_list PySem.F.slot_list_append PySem.F.type_list_append mt_append (pv 3) (pa_cons (pv 4) pa_nil))) (pss_cons (ps_if (pt_cmpR (op_eqP (un_of hr)) (pe_slice sl_str (pv 0) (po_some (pv 1)) (po_some (pe_op op_add (pv 1) pe_int))) pe_str (nomark _)) (pss_one (ps_ret (pe_tup (pa_cons (pe_callTy cr_tuple (by rfl) T.z_tuple (by decide +kernel) (pa_cons (pv 3) pa_nil)) (pa_cons (pe_op op_add (pv 1) pe_int) pa_nil))))) pss_nil) (pss_cons (ps_if (pt_cmpR (op_neP (un_of hr)) (pe_slice sl_str (pv 0) (po_some (pv 1)) (po_some (pe_op op_add (pv 1) pe_int))) pe_str (nomark _)) (pss_one (ps_raise rfl (takes_of rfl rfl rfl rfl) (pmk_own PySem.F.excBase_ValueError X_BadNote.q X_BadNote.g X_BadNote.k (raises_own X_BadNote.b X_BadNote.t) (by rfl)))) pss_nil) (pss_one (ps_set (i := 1) sc_parts_at.nd rfl (by first | exact Or.inl rfl | exact Or.inr rfl) (pe_op op_add (pv 1) pe_int)))))))))), ?_⟩
  have hl2 : t.length ≤ 100000 := by omega
  have hF := formA_sfx j
  generalize hRR : partsW (formA j) (r.length + 1) r = RR at q
  refine w_slnew fun p0 hp0 => ?_
  refine w_while (m := r.length) (fun m σ' H' => ∃ (r1 : List Nat) (fs : List Fm) (vs : List V) (x : Option V), σ' = [some (.str (sO t)), some (.int (t.length - r1.length : Nat)), some (.int (41 - (j : Int))), some (.ref p0), x] ∧ m = r1.length ∧ Sfx t r1 ∧ Same H H' ∧ H' p0 = some (.lst vs) ∧ RpL H' (fs.map Fm.d) vs ∧
    RR = addF fs (partsW (formA j) (r1.length + 1) r1) ∧ fs.length + r1.length ≤ r.length) ?_ ?_
  · refine ⟨r, [], [], none, rfl, rfl, st, Fx.Same.new hp0, upd_same, rfl, ?_, by simp⟩
    rw [hRR]
    cases RR <;> rfl
  rintro m σ' H' ⟨r1, fs, vs, x, rfl, rfl, st1, sH, ep, rp, eq, hlen⟩
  have sl := st.len
  refine ⟨true, et_test ev_bl, fun _ H1 s1 => ?_, fun z => by cases z⟩
  have vt : ∀ {a b c d : Option V} {H' : Hp}, EvD (tVar 0) [some (.str (sO t)), a, b, c, d] H' (.str (sO t)) := ev_var rfl rfl
  refine w_callO (ds := [.str (sO t), .int (t.length - r1.length : Nat), .int (41 - (j : Int))]) (ea_cons vt (ea_cons (ev_var (i := 1) (d := .int (t.length - r1.length : Nat)) rfl rfl) (ea_cons (ev_var (i := 2) (d := .int (41 - (j : Int))) rfl rfl) ea_nil))) ⟨t, r1, rfl, st1, okt, hl, by omega, rfl⟩ ?_
  rw [partsW] at eq
  cases ef : formA j r1 with
  | none =>
    rw [ef] at eq
    rw [eq] at q
    exact fun C H6 g s6 => q C H6 g ((sH.trans s1).trans s6)
  | some y =>
    obtain ⟨f, r2⟩ := y
    simp only [ef] at eq
    intro v7 H7 s7 r7
    refine w_gtup2 r7 fun v8 v9 r8 r9 => ?_
    cases (show v9 = V.int (t.length - r2.length : Nat) from r9)
    have s12 := hF _ _ _ ef
    have st2 := st1.trans s12
    have l12 := s12.len
    have ep7 := s7 _ _ (s1 _ _ ep)
    refine w_sappend (i := 3) rfl ep7 (ev_var (i := 4) rfl r8) (by rw [rp.length, List.length_map]; omega) fun v10 H8 s8 r10 => ?_
    have s18 := (s1.trans s7).trans s8
    have kt4 : KT H8 (upd H8 p0 (.lst (vs ++ [v10]))) := KT.upd fun ts => by rw [s8 _ _ ep7]; intro z; cases z
    have s4 : Same H (upd H8 p0 (.lst (vs ++ [v10]))) := Fx.Same.put (sH.trans s18) hp0
    have e4 : (upd H8 p0 (.lst (vs ++ [v10]))) p0 = some (.lst (vs ++ [v10])) := upd_same
    have r4 : RpL (upd H8 p0 (.lst (vs ++ [v10]))) ((fs ++ [f]).map Fm.d) (vs ++ [v10]) := by
      refine RpL.kt kt4 _ _ Fm.immL_d ?_
      rw [List.map_append]
      exact (rp.mono s18).snoc r10
    generalize upd H8 p0 (.lst (vs ++ [v10])) = H9 at kt4 s4 e4 r4
    have va : ∀ {a b c d : Option V} {H' : Hp}, EvD (tVar 1) [a, some (.int (t.length - r2.length : Nat)), b, c, d] H' (.int (t.length - r2.length : Nat)) := ev_var rfl rfl
    refine w_guard (et_test (ev_peek vt va (ev_add va ev_int) st2 okt hl2 (x := ")") (c := 41) (by decide +kernel) (by decide))) (fun c2 H10 s10 => ?_) (fun c2 H10 s10 => ?_)
    · rw [decide_eq_true_eq] at c2
      rw [if_pos c2] at eq
      rw [eq] at q
      obtain ⟨r3, rfl⟩ : ∃ r3, r2 = 41 :: r3 := by
        cases r2 with
        | nil => cases c2
        | cons a r3 => simp only [List.head?_cons, Option.some.injEq] at c2; subst c2; exact ⟨r3, rfl⟩
      have ea : (((t.length - (41 :: r3).length : Nat) : Int) + 1) = ((t.length - r3.length : Nat) : Int) := by
        have := st2.len
        simp only [List.length_cons] at this ⊢; omega
      exact w_ret (ev_tup (ds := [.tuple ((fs ++ [f]).map Fm.d), .int (t.length - r3.length : Nat)]) (ea_cons (ev_cb (ea_cons (ev_var (i := 3) (d := .list ((fs ++ [f]).map Fm.d)) rfl ⟨p0, _, rfl, s10 _ _ e4, r4.mono s10⟩) ea_nil) cd_tupleL) (ea_cons ((ev_add va ev_int).to (by rw [ea])) ea_nil))) fun v11 H11 s11 r11 => q v11 H11 ((s4.trans s10).trans s11) r11
    · rw [decide_eq_false_iff_not] at c2
      rw [if_neg c2] at eq
      refine w_guard (et_test (ev_peekN vt va (ev_add va ev_int) st2 okt hl2 (x := ",") (c := 44) (by decide +kernel) (by decide))) (fun c3 H11 s11 => ?_) (fun c3 H11 s11 => ?_)
      · rw [Bool.not_eq_true', decide_eq_false_iff_not] at c3
        rw [if_neg c3] at eq
        rw [eq] at q
        exact q _ H11 X_BadNote.g ((s4.trans s10).trans s11)
      · rw [Bool.not_eq_false', decide_eq_true_eq] at c3
        rw [if_pos c3] at eq
        obtain ⟨r3, rfl⟩ : ∃ r3, r2 = 44 :: r3 := by
          cases r2 with
          | nil => cases c3
          | cons a r3 => simp only [List.head?_cons, Option.some.injEq] at c3; subst c3; exact ⟨r3, rfl⟩
        have st3 : Sfx t r3 := st2.trans (Sfx.tail _)
        simp only [List.length_cons] at l12
        have ea : (((t.length - (44 :: r3).length : Nat) : Int) + 1) = ((t.length - r3.length : Nat) : Int) := by
          have := st2.len
          simp only [List.length_cons] at this ⊢; omega
        refine w_set (d := .int (t.length - r3.length : Nat)) ((ev_add va ev_int).to (by rw [ea])) fun v12 H12 s12' r12 => ?_
        cases (show v12 = V.int (t.length - r3.length : Nat) from r12)
        have s13 := s10.trans (s11.trans s12')
        refine ⟨r3.length, by omega, r3, fs ++ [f], vs ++ [v10], some v8, rfl, rfl, st3, s4.trans s13, s13 _ _ e4, r4.mono s13, ?_, by simp; omega⟩
        rw [eq]
        simp only [List.tail_cons]
        rw [partsW_fuel hF r3.length r3 r1.length (r3.length + 1) (Nat.le_refl _) (by omega) (Nat.le_refl _)]
        cases partsW (formA j) (r3.length + 1) r3 with
        | none => rfl
        | some y => obtain ⟨gs, r4⟩ := y; simp [addF]
theorem ok_form_at (T : Tp K mg) : ∀ k, Df P w K mg base (L2.CX P w) (2 * k + 5) "form_at" ["text", "at", "deep"] (spFormAt mg k)
  | 0 => form_step T 0 ((T.b_parts_at.none spPartsAt.no).mono (Nat.zero_le _))
  | k + 1 => form_step T (k + 1) (parts_step T k (ok_form_at T k))
theorem ok_read (T : Tp K mg) : Df P w K mg base (L2.CX P w) 90 "read" ["text"] (spRead mg) := by
  have D_form_at := ok_form_at (P := P) (w := w) (base := base) T 40
  have D_looked := ok_looked (P := P) (w := w) (base := base) T 40
  obtain ⟨C_BadNote, X_BadNote⟩ := T.c_BadNote
  obtain ⟨C_FormError, X_FormError⟩ := T.c_FormError
  obtain ⟨C_NoForm, X_NoForm⟩ := T.c_NoForm
  obtain ⟨C_TooMany, X_TooMany⟩ := T.c_TooMany
  refine T.b_read.okX sc_read spRead.len (fun fa cdv A outer s H vs Q E hr h => ?_)
  obtain ⟨ds, o, hR, ⟨t, rfl, okt, hl, hok, rfl⟩, q⟩ := h
  obtain ⟨v1, _, rfl, h1, rfl⟩ := hR
  cases (show v1 = V.str (sO t) from h1)
  refine ⟨_, (pss_cons (ps_asg (pe_df D_form_at (hr.mono (by omega)) (by rfl) (passes_call (takes_of rfl rfl rfl rfl) (fun _ _ _ _ h => h)) (pa_cons (pv 0) (pa_cons pe_int (pa_cons pe_int pa_nil)))) (pg_tup (by rfl) (pgs_cons (pg_name (i := 1) sc_read.nd rfl (by first | exact Or.inl rfl | exact Or.inr rfl)) (pgs_cons (pg_name (i := 2) sc_read.nd rfl (by first | exact Or.inl rfl | exact Or.inr rfl)) pgs_nil)))) (pss_cons (ps_if (pt_cmpR (op_neP (un_of hr)) (pv 2) (pe_callB cr_len (by rfl) T.z_len (by decide +kernel) (pa_cons (pv 0) pa_nil)) (nomark _)) (pss_one (ps_raise rfl (takes_of rfl rfl rfl rfl) (pmk_own PySem.F.excBase_ValueError X_BadNote.q X_BadNote.g X_BadNote.k (raises_own X_BadNote.b X_BadNote.t) (by rfl)))) pss_nil) (pss_cons (L2H.ps_try_onlyX rfl rfl ⟨by rfl, by decide, .inl X_FormError.g⟩ (fun _ => PassesOwnAt.leaving) (takes_of rfl rfl rfl rfl) (fun W pn xe tk tkp ppo => (pss_one (ps_expr (pe_dfS D_looked (hr.mono (by omega)) (by rfl) (fun σ => L2N.passAt tk σ) (pa_cons (pv 1) pa_nil))))) (fun a oe cls d pn hz hf tks hot => (pss_one (L2H.ps_raiseH hot tks (L2N.pmk_own PySem.F.excBase_ValueError X_BadNote.q X_BadNote.g X_BadNote.k (raises_own X_BadNote.b X_BadNote.t) (by rfl)))))) (pss_one (ps_ret (pv 1)))))), ?_⟩
  have hl2 : t.length ≤ 100000 := by omega
  have vt : ∀ {a b : Option V} {H' : Hp}, EvD (tVar 0) [some (.str (sO t)), a, b] H' (.str (sO t)) := ev_var rfl rfl
  refine w_callO (ds := [.str (sO t), .int (t.length - t.length : Nat), .int (41 - ((40 : Nat) : Int))]) (ea_cons vt (ea_cons (ev_int.to (by rw [Nat.sub_self]; rfl)) (ea_cons (ev_int.to rfl) ea_nil))) ⟨t, t, rfl, Sfx.refl _, okt, by omega, by decide, rfl⟩ ?_
  unfold readO at q
  cases ef : formA 40 t with
  | none =>
    rw [ef] at q
    exact fun C H6 g s6 => q C H6 g s6
  | some y =>
    obtain ⟨f, r⟩ := y
    rw [ef] at q
    intro v2 H2 s2 r2
    refine w_gtup2 r2 fun v3 v4 r3 r4 => ?_
    cases (show v4 = V.int (t.length - r.length : Nat) from r4)
    have sl := (formA_sfx _ _ _ _ ef).len
    dsimp only
    refine w_guard (et_test (ev_ne (ev_var (i := 2) (d := .int (t.length - r.length : Nat)) rfl rfl) (ev_cb (ea_cons vt ea_nil) (cd_lenSO hl2)) (okD_int _) (okD_int _))) (fun c H3 s3 => ?_) (fun c H3 s3 => ?_)
    · have c' : r ≠ [] := fun z => by subst z; simp [PyData.eqv] at c
      cases r with
      | nil => exact absurd rfl c'
      | cons a r => exact q _ H3 X_BadNote.g (s2.trans s3)
    · have c' : r = [] := by
        have : ((t.length - r.length : Nat) : Int) = (t.length : Nat) := by simpa [PyData.eqv] using c
        exact List.length_eq_zero_iff.mp (by omega)
      subst c'
      obtain ⟨okf, swf⟩ := hok f ef
      have dpf := formA_dep _ _ _ _ ef
      have r33 := r3.mono s3
      refine ⟨v3, rfl, [f.d], lookedO f, .cons r33 .nil, ⟨f, rfl, okf, swf, dpf, rfl⟩, ?_⟩
      have hx : (∃ d, lookedO f = .ok d) ∨ lookedO f = .err "NoForm" ∨ lookedO f = .err "TooMany" := by
        unfold lookedO
        split
        · split
          · exact .inr (.inr rfl)
          · exact .inl ⟨_, rfl⟩
        · exact .inr (.inl rfl)
      rcases hx with ⟨d, e⟩ | e | e
      · simp only [e] at q ⊢
        intro v5 H5 s5 r5
        exact w_ret (ev_var (i := 1) rfl (r33.mono s5)) fun v6 H6 s6 r6 => q v6 H6 (((s2.trans s3).trans s5).trans s6) r6
      · simp only [e] at q ⊢
        intro C H5 g5 s5
        rw [X_NoForm.g] at g5
        cases g5
        exact ⟨true, T.s_NoForm_FormError.exm X_NoForm X_FormError, fun _ a ha => q _ H5 X_BadNote.g ((s2.trans s3).trans s5), fun z => by cases z⟩
      · simp only [e] at q ⊢
        intro C H5 g5 s5
        rw [X_TooMany.g] at g5
        cases g5
        exact ⟨true, T.s_TooMany_FormError.exm X_TooMany X_FormError, fun _ a ha => q _ H5 X_BadNote.g ((s2.trans s3).trans s5), fun z => by cases z⟩
end
section
variable {P : Program} {w : World} {K : PySem.W.Frag} {mg : Str → Option Value} {base : Heap}
theorem ok_law_name (T : Tp K mg) : Df P w K mg base CX0 1 "_law_name" ["word"] spName := by
  refine T.b__law_name.ok sc__law_name spName.len (fun fa cdv A outer s H vs Q E hr h => ?_)
  obtain ⟨ds, r, hR, ⟨z, rfl, rfl, hz⟩, q⟩ := h
  obtain ⟨v1, _, rfl, h1, rfl⟩ := hR
  refine ⟨_, (pss_one (ps_ret (pe_and (pe_chain op_le op_le pe_int (pe_callB cr_len (by rfl) T.z_len (by decide +kernel) (pa_cons (pv 0) pa_nil)) pe_int) (pe_one (pe_cmpR (op_eqP (un_of hr)) (pe_callB cr_len (by rfl) T.z_len (by decide +kernel) (pa_cons (pe_lc (own := [("sign", 1)]) (g := gName 1) (by rfl) sc__law_name.nd (pi_str (pv 0)) (blkOk_by (own := [("sign", 1)]) (N := N__law_name) (sc := defScope s__law_name) (by decide +kernel)) (fun _ _ _ _ _ => pg_name (i := 1) sc__law_name.nd rfl (Or.inl rfl)) (fun _ _ _ _ _ => pts_one (pt_cmpR op_ninS (pv 1) pe_str rfl)) (fun _ _ _ _ _ => (pv 1))) pa_nil)) pe_int (nomark _)))))), ?_⟩
  refine EvR.run ?_ q
  unfold nameL
  refine er_ret (ev_and (ev_chain ev_int (ev_cb (ea_cons (ev_var rfl h1) ea_nil) (cd_lenSO (by omega))) ev_int od_le fun _ => od_le) fun c => ?_)
  rw [Bool.and_eq_true, decide_eq_true_eq, decide_eq_true_eq] at c
  refine (ev_eq (ev_lenNot (z := letters) (j := 1) (ev_var rfl h1) (by omega) (by show 1 < 2; decide)) ev_int (okD_int _) (okD_int _)).to (congrArg PyData.bool ?_)
  have e : (z.filter fun c => !decide (c ∈ letters.cps.toList)) = z.filter fun c => !isLet c := rfl
  rw [e]
  by_cases hh : z.all isLet = true
  · have : z.filter (fun c => !isLet c) = [] := by
      rw [List.filter_eq_nil_iff]
      rw [List.all_eq_true] at hh
      intro a ha; simp [hh a ha]
    rw [this, hh]; simp [PyData.eqv]
  · have : z.filter (fun c => !isLet c) ≠ [] := fun y => hh (by
      rw [List.filter_eq_nil_iff] at y
      rw [List.all_eq_true]
      intro a ha; simpa using y a ha)
    rw [Bool.eq_false_iff.mpr hh]
    have hp := List.length_pos_iff.mpr this
    simp only [PyData.eqv, decide_eq_false_iff_not, beq_eq_false_iff_ne, ne_eq]
    omega
theorem ok_law_leaf (T : Tp K mg) : Df P w K mg base CX0 2 "_law_leaf" ["word"] spLeaf := by
  have D__law_name := ok_law_name (P := P) (w := w) (base := base) T
  refine T.b__law_leaf.ok sc__law_leaf spLeaf.len (fun fa cdv A outer s H vs Q E hr h => ?_)
  obtain ⟨ds, r, hR, ⟨z, rfl, rfl, hz, okz⟩, q⟩ := h
  obtain ⟨v1, _, rfl, h1, rfl⟩ := hR
  refine ⟨_, (pss_cons (ps_if (pt_cmpR (op_neP (un_of hr)) (pe_slice sl_str (pv 0) po_none (po_some pe_int)) pe_str (nomark _)) (pss_one (ps_ret (pe_ifExp (pt_val (pe_df D__law_name (hr.mono (by omega)) (by rfl) pass0 (pa_cons (pv 0) pa_nil))) (pe_tup (pa_cons pe_str (pa_cons (pv 0) (pa_cons (pe_tup pa_nil) pa_nil)))) pe_non))) pss_nil) (pss_cons (ps_set (i := 1) sc__law_leaf.nd rfl (by first | exact Or.inl rfl | exact Or.inr rfl) (pe_slice sl_str (pv 0) (po_some pe_int) po_none)) (pss_cons (ps_if (PW.pt (pw_or (pt_cmpR (op_eqP (un_of hr)) (pv 1) pe_str (nomark _)) (pw_or (pt_cmpR op_gt (pe_callB cr_len (by rfl) T.z_len (by decide +kernel) (pa_cons (pv 1) pa_nil)) pe_int (nomark _)) (pw_or1 (PW.pt (pw_and (pt_cmpR (op_eqP (un_of hr)) (pe_ix ix_str (pv 1) pe_int (fun _ _ => rfl)) pe_str (nomark _)) (pw_and1 (pt_cmpR (op_neP (un_of hr)) (pv 1) pe_str (nomark _))))))))) (pss_one (ps_ret pe_non)) pss_nil) (pss_cons (ps_if (pt_cmpR op_gt (pe_callB cr_len (by rfl) T.z_len (by decide +kernel) (pa_cons (pe_lc (own := [("sign", 2)]) (g := gName 2) (by rfl) sc__law_leaf.nd (pi_str (pv 1)) (blkOk_by (own := [("sign", 2)]) (N := N__law_leaf) (sc := defScope s__law_leaf) (by decide +kernel)) (fun _ _ _ _ _ => pg_name (i := 2) sc__law_leaf.nd rfl (Or.inl rfl)) (fun _ _ _ _ _ => pts_one (pt_cmpR op_ninS (pv 2) pe_str rfl)) (fun _ _ _ _ _ => (pv 2))) pa_nil)) pe_int (nomark _)) (pss_one (ps_ret pe_non)) pss_nil) (pss_one (ps_ret (pe_tup (pa_cons pe_str (pa_cons (pe_callTy cr_intS (by rfl) T.z_int (by decide +kernel) (pa_cons (pv 1) pa_nil)) pa_nil))))))))), ?_⟩
  have e0 : ("0" : Str) = sO [48] := by decide +kernel
  have en : ("" : Str) = sO [] := by decide +kernel
  have eq : ("?" : Str) = sO [63] := by decide +kernel
  refine w_guard (b := !decide (z.take 1 = [63])) (et_test ((ev_ne (e := .str "?") (ev_cutTo (i := 1) (ev_var rfl h1) ev_int (by omega)) ev_str (okD_sO (lOk_sub okz fun y hy => List.mem_of_mem_take hy)) (by rw [eq]; exact okD_sO rfl)).to (by rw [eq, eqv_sO]))) (fun c H1 s1 => ?_) (fun c H1 s1 => ?_)
  · rw [Bool.not_eq_true', decide_eq_false_iff_not] at c
    unfold leafL at q
    rw [if_neg c] at q
    have hn : EvB (tTest (tCall spName [] E0 (tCons (tVar 0) tNil))) (L2.start N__law_leaf [v1]) H1 (nameL z) := et_test (ev_call (ea_cons (ev_var rfl (h1.mono s1)) ea_nil) (spP.d ⟨z, rfl, rfl, hz⟩))
    by_cases hh : nameL z = true
    · rw [if_pos hh] at q
      rw [hh] at hn
      exact w_ret (ev_ifT hn (ev_tup (ds := [.str "tie", .str (sO z), .tuple []]) (ea_cons ev_str (ea_cons (ev_var rfl (h1.mono s1)) (ea_cons (ev_tup ea_nil (Nat.zero_le _)) ea_nil))))) fun v H2 s2 r2 => q v H2 (s1.trans s2) r2
    · rw [if_neg hh] at q
      rw [Bool.eq_false_iff.mpr hh] at hn
      exact w_ret (ev_ifF hn ev_non) fun v H2 s2 r2 => q v H2 (s1.trans s2) r2
  · rw [Bool.not_eq_false', decide_eq_true_eq] at c
    obtain ⟨l, rfl⟩ : ∃ l, z = 63 :: l := by
      cases z with
      | nil => simp at c
      | cons a l => simp at c; subst c; exact ⟨l, rfl⟩
    rw [leafL_q] at q
    have okl : lOk l = true := lOk_sub okz fun y hy => List.mem_cons_of_mem _ hy
    simp only [List.length_cons] at hz
    refine w_sset (d := .str (sO l)) ((ev_cutFrom (i := 1) (ev_var rfl (h1.mono s1)) ev_int (by simp only [List.length_cons]; omega)).to rfl) fun v2 H2 s2 r2 => ?_
    have hl : l.length ≤ 100000 := by omega
    refine w_guard (b := decide (l = [] ∨ 3 < l.length ∨ (l.head? = some 48 ∧ l ≠ [48]))) ((et_or (a := decide (l = [])) (b := decide (3 < l.length ∨ (l.head? = some 48 ∧ l ≠ [48]))) (et_test ((ev_eq (e := .str "") (ev_var (i := 1) rfl r2) ev_str (okD_sO okl) (by rw [en]; exact okD_sO rfl)).to (by rw [en, eqv_sO]))) fun c1 => (et_or (a := decide (3 < (l.length : Int))) (b := decide (l.head? = some 48 ∧ l ≠ [48])) (et_test (ev_gt (ev_cb (ea_cons (ev_var (i := 1) rfl r2) ea_nil) (cd_lenSO hl)) ev_int)) fun c2 => ?_).to (by rw [← Bool.decide_or]; exact decide_eq_decide.mpr ⟨fun h => Or.elim h (fun a => Or.inl (by omega)) Or.inr, fun h => Or.elim h (fun a => Or.inl (by omega)) Or.inr⟩)).to (by rw [← Bool.decide_or])) (fun c H3 s3 => ?_) (fun c H3 s3 => ?_)
    · have hne : l ≠ [] := fun z => by rw [z] at c1; simp at c1
      clear c
      obtain ⟨c, l', rfl⟩ := List.exists_cons_of_ne_nil hne
      have hc : lOk [c] = true := lOk_sub okl fun x hx => by rw [List.mem_singleton.mp hx]; exact List.mem_cons_self
      refine (et_and (a := decide ([c] = [48])) (b := !decide (c :: l' = [48])) (et_test ((ev_eq (e := .str "0") (ev_ixSO (i := 0) (c := c) (ev_var (i := 1) rfl r2) ev_int hl rfl) ev_str (okD_sO hc) (by rw [e0]; exact okD_sO rfl)).to (by rw [e0, eqv_sO]))) fun _ => et_test ((ev_ne (e := .str "0") (ev_var (i := 1) rfl r2) ev_str (okD_sO okl) (by rw [e0]; exact okD_sO rfl)).to (by rw [e0, eqv_sO]))).to ?_
      by_cases h : c = 48 <;> by_cases h' : l' = [] <;> simp [h, h']
    · rw [decide_eq_true_eq] at c
      rw [if_pos c] at q
      exact w_ret ev_non fun v H4 s4 r4 => q v H4 (((s1.trans s2).trans s3).trans s4) r4
    · rw [decide_eq_false_iff_not] at c
      rw [if_neg c] at q
      have hne : l ≠ [] := fun z => c (.inl z)
      have h3 : l.length ≤ 3 := by
        by_cases z : 3 < l.length
        · exact absurd (.inr (.inl z)) c
        · omega
      have efig : (l.filter fun c => !decide (c ∈ figures.cps.toList)) = l.filter fun c => !isFig c := by congr 1; funext c; rw [fig_mem]
      refine w_guard (et_test (ev_gt (ev_lenNot (z := figures) (j := 2) (ev_var (i := 1) rfl (r2.mono s3)) (by omega) (by show 2 < 3; decide)) ev_int)) (fun c4 H4 s4 => ?_) (fun c4 H4 s4 => ?_)
      · rw [efig, decide_eq_true_eq] at c4
        have : ¬ l.all isFig = true := fun hh => by
          have : l.filter (fun c => !isFig c) = [] := by
            rw [List.filter_eq_nil_iff]
            rw [List.all_eq_true] at hh
            intro a ha; simp [hh a ha]
          rw [this] at c4; simp at c4
        rw [if_neg this] at q
        exact w_ret ev_non fun v H5 s5 r5 => q v H5 ((((s1.trans s2).trans s3).trans s4).trans s5) r5
      · rw [efig, decide_eq_false_iff_not] at c4
        have hall : l.all isFig = true := by
          have : l.filter (fun c => !isFig c) = [] := List.length_eq_zero_iff.mp (by omega)
          rw [List.filter_eq_nil_iff] at this
          rw [List.all_eq_true]
          intro a ha; simpa using this a ha
        rw [if_pos hall] at q
        exact w_ret (ev_tup (ds := [.str "gap", .int ((NumText.digitsVal l : Nat) : Int)]) (ea_cons ev_str (ea_cons (ev_cb (ea_cons (ev_var (i := 1) rfl ((r2.mono s3).mono s4)) ea_nil) (cd_intS (SX.int_S (a := l) hall hne (by omega)) (by rw [sO_len]; omega))) ea_nil))) fun v5 H5 s5 r5 => q v5 H5 ((((s1.trans s2).trans s3).trans s4).trans s5) r5
end
section
variable {P : Program} {w : World} {K : PySem.W.Frag} {mg : Str → Option Value} {base : Heap}
theorem ok_law_odd (T : Tp K mg) : Df P w K mg base CX0 1 "_law_odd" ["cell"] spOdd := by
  refine T.b__law_odd.ok sc__law_odd spOdd.len (fun fa cdv A outer s H vs Q E hr h => ?_)
  obtain ⟨c, rfl, q⟩ := h
  refine ⟨_, (pss_cons (ps_set (i := 1) sc__law_odd.nd rfl (by first | exact Or.inl rfl | exact Or.inr rfl) (pe_lst (pa_cons pe_str (pa_cons pe_str (pa_cons pe_str (pa_cons pe_str (pa_cons pe_str (pa_cons pe_str (pa_cons pe_str (pa_cons pe_str (pa_cons pe_str (pa_cons pe_str (pa_cons pe_str (pa_cons pe_str (pa_cons pe_str (pa_cons pe_str pa_nil)))))))))))))))) (pss_cons (ps_set (i := 1) sc__law_odd.nd rfl (by first | exact Or.inl rfl | exact Or.inr rfl) (pe_op op_cat (pv 1) (pe_lst (pa_cons pe_str (pa_cons pe_str (pa_cons pe_str (pa_cons pe_str (pa_cons pe_str (pa_cons pe_str (pa_cons pe_str (pa_cons pe_str (pa_cons pe_str pa_nil)))))))))))) (pss_cons (ps_set (i := 1) sc__law_odd.nd rfl (by first | exact Or.inl rfl | exact Or.inr rfl) (pe_op op_cat (pv 1) (pe_lst (pa_cons pe_str (pa_cons pe_str (pa_cons pe_str (pa_cons pe_str (pa_cons pe_str (pa_cons pe_str (pa_cons pe_str (pa_cons pe_str pa_nil))))))))))) (pss_cons (ps_set (i := 1) sc__law_odd.nd rfl (by first | exact Or.inl rfl | exact Or.inr rfl) (pe_op op_cat (pv 1) (pe_lst (pa_cons pe_str (pa_cons pe_str (pa_cons pe_str (pa_cons pe_str (pa_cons pe_str (pa_cons pe_str pa_nil))))))))) (pss_one (ps_ret (pe_ix ix_list (pv 1) (pe_op op_modN (pv 0) (pe_callB cr_len (by rfl) T.z_len (by decide +kernel) (pa_cons (pv 1) pa_nil))) (fun _ _ => rfl)))))))), ?_⟩
  refine w_sset (d := .list ((oddL.take 14).map .str)) ((ev_lst (ea_cons ev_str (ea_cons ev_str (ea_cons ev_str (ea_cons ev_str (ea_cons ev_str (ea_cons ev_str (ea_cons ev_str (ea_cons ev_str (ea_cons ev_str (ea_cons ev_str (ea_cons ev_str (ea_cons ev_str (ea_cons ev_str (ea_cons ev_str ea_nil)))))))))))))) (show 14 ≤ 1000 by decide)).to rfl) fun v1 H1 s1 r1 => ?_
  refine w_sset (d := .list ((oddL.take 23).map .str)) ((ev_catL (ev_var (i := 1) rfl r1) (ev_lst (ea_cons ev_str (ea_cons ev_str (ea_cons ev_str (ea_cons ev_str (ea_cons ev_str (ea_cons ev_str (ea_cons ev_str (ea_cons ev_str (ea_cons ev_str ea_nil))))))))) (show 9 ≤ 1000 by decide)) (show 14 + 9 ≤ 1000 by decide)).to rfl) fun v2 H2 s2 r2 => ?_
  refine w_sset (d := .list ((oddL.take 31).map .str)) ((ev_catL (ev_var (i := 1) rfl r2) (ev_lst (ea_cons ev_str (ea_cons ev_str (ea_cons ev_str (ea_cons ev_str (ea_cons ev_str (ea_cons ev_str (ea_cons ev_str (ea_cons ev_str ea_nil)))))))) (show 8 ≤ 1000 by decide)) (show 23 + 8 ≤ 1000 by decide)).to rfl) fun v3 H3 s3 r3 => ?_
  refine w_sset (d := .list (oddL.map .str)) ((ev_catL (ev_var (i := 1) rfl r3) (ev_lst (ea_cons ev_str (ea_cons ev_str (ea_cons ev_str (ea_cons ev_str (ea_cons ev_str (ea_cons ev_str ea_nil)))))) (show 6 ≤ 1000 by decide)) (show 31 + 6 ≤ 1000 by decide)).to rfl) fun v4 H4 s4 r4 => ?_
  have hlen : (oddL.map PyData.str).length = 37 := rfl
  have hj0 : 0 ≤ c % 37 := Int.emod_nonneg _ (by decide)
  have hj1 : c % 37 < 37 := Int.emod_lt_of_pos _ (by decide)
  obtain ⟨x, ex⟩ : ∃ x, oddL[(c % 37).toNat]? = some x := ⟨_, List.getElem?_eq_getElem (by rw [show oddL.length = 37 from rfl]; omega)⟩
  have jn : c % 37 = (((c % 37).toNat : Nat) : Int) := by omega
  have hat : atI (oddL.map PyData.str) (c % 37) = some (.str x) := by rw [jn]; exact atI_nat (by rw [List.getElem?_map, ex]; rfl)
  obtain ⟨o1, o2, o3⟩ := oddL_ok x (List.mem_of_getElem? ex)
  refine w_ret (ev_ixL (ev_var (i := 1) rfl r4) ((ev_mod (ev_var (i := 0) (d := .int c) rfl rfl) (ev_cb (ea_cons (ev_var (i := 1) rfl r4) ea_nil) cd_lenL) (by rw [hlen]; decide)).to (by rw [hlen]; rfl)) hat) fun v5 H5 s5 r5 => ?_
  cases (show v5 = V.str x from r5)
  have := q x.cps.toList H5 ((((s1.trans s2).trans s3).trans s4).trans s5) ⟨o1, o2, o3⟩
  rwa [sO_of] at this
theorem ok_law_told (T : Tp K mg) : Df P w K mg base CX0 91 "_law_told" ["text"] spToldR := by
  have D_read := ok_read (P := P) (w := w) (base := base) T
  obtain ⟨C_NoForm, X_NoForm⟩ := T.c_NoForm
  obtain ⟨C_TooMany, X_TooMany⟩ := T.c_TooMany
  obtain ⟨C_FormError, X_FormError⟩ := T.c_FormError
  obtain ⟨C_BadNote, X_BadNote⟩ := T.c_BadNote
  refine T.b__law_told.ok sc__law_told spToldR.len (fun fa cdv A outer s H vs Q E hr h => ?_)
  obtain ⟨ds, r, hR, ⟨t, rfl, rfl, okt, hl, hok⟩, q⟩ := h
  obtain ⟨v1, _, rfl, h1, rfl⟩ := hR
  refine ⟨_, (pss_cons (ps_set (i := 1) sc__law_told.nd rfl (by first | exact Or.inl rfl | exact Or.inr rfl) pe_non) (pss_cons (ps_try_as (i := 2) rfl rfl sc__law_told.nd rfl rfl ⟨by rfl, by decide, .inl X_FormError.g⟩ takesN (fun W pn xe tk ppo => (pss_one (ps_set (i := 1) sc__law_told.nd rfl (by first | exact Or.inl rfl | exact Or.inr rfl) (pe_dfS D_read (hr.mono (by omega)) (by rfl) (fun σ => passAt tk σ) (pa_cons (pv 0) pa_nil))))) (fun a oe cls d pn hz hf => (pss_one (ps_set (i := 1) sc__law_told.nd rfl (by first | exact Or.inl rfl | exact Or.inr rfl) (pe_lst (pa_cons (pe_callB (call_isC hz hf) (by rfl) T.z_isinstance (by decide +kernel) (pa_cons (pv 2) (pa_cons (pe_glob (v := .ref C_BadNote) (by rfl) X_BadNote.g rfl) pa_nil))) (pa_cons (pe_callB (call_isC hz hf) (by rfl) T.z_isinstance (by decide +kernel) (pa_cons (pv 2) (pa_cons (pe_bltn (v := .ty "ValueError") (by rfl) T.z_ValueError (by decide +kernel) rfl) pa_nil))) (pa_cons (pe_callB (call_isC hz hf) (by rfl) T.z_isinstance (by decide +kernel) (pa_cons (pv 2) (pa_cons (pe_glob (v := .ref C_NoForm) (by rfl) X_NoForm.g rfl) pa_nil))) (pa_cons (pe_callB (call_isC hz hf) (by rfl) T.z_isinstance (by decide +kernel) (pa_cons (pv 2) (pa_cons (pe_glob (v := .ref C_TooMany) (by rfl) X_TooMany.g rfl) pa_nil))) pa_nil))))))))) (pss_one (ps_ret (pv 1))))), ?_⟩
  refine w_sset (d := .none) ev_non fun v2 H1 s1 r1 => ?_
  refine ⟨v1, rfl, [.str (sO t)], readO t, .cons (h1.mono s1) .nil, ⟨t, rfl, okt, hl, hok, rfl⟩, ?_⟩
  rcases readO_cases t with ⟨d, e⟩ | e
  · rw [e] at q ⊢
    intro v3 H3 s3 r3
    exact w_ret (ev_var (i := 1) rfl r3) fun v5 H5 s5 r5 => q v5 H5 ((s1.trans s3).trans s5) r5
  · rw [e] at q ⊢
    intro C H3 g3 s3
    rw [X_BadNote.g] at g3
    cases g3
    refine ⟨true, T.s_BadNote_FormError.exm X_BadNote X_FormError, fun _ a ha => ?_, fun z => by cases z⟩
    refine w_set (d := .list [.bool true, .bool true, .bool false, .bool false]) (ev_lst (ea_cons (ev_isC rfl X_BadNote.cls (T.s_BadNote_BadNote _ _ X_BadNote.g X_BadNote.g).1) (ea_cons (ev_isCT rfl X_BadNote.cls X_BadNote.v) (ea_cons (ev_isC rfl X_BadNote.cls (T.s_BadNote_NoForm _ _ X_BadNote.g X_NoForm.g).1) (ea_cons (ev_isC rfl X_BadNote.cls (T.s_BadNote_TooMany _ _ X_BadNote.g X_TooMany.g).1) ea_nil))))) fun v4 H4 s4 r4 => ?_
    exact w_ret (ev_var (i := 1) rfl r4) fun v5 H5 s5 r5 => q v5 H5 (((s1.trans s3).trans s4).trans s5) r5
theorem ok_law_spoiled (T : Tp K mg) : Df P w K mg base CX0 2 "_law_spoiled" ["text", "cell"] spSpoil := by
  have D__law_odd := ok_law_odd (P := P) (w := w) (base := base) T
  refine T.b__law_spoiled.ok sc__law_spoiled spSpoil.len (fun fa cdv A outer s H vs Q E hr h => ?_)
  obtain ⟨c, t, rfl, ⟨okt, hl, hc⟩, q⟩ := h
  refine ⟨_, (pss_cons (ps_set (i := 2) sc__law_spoiled.nd rfl (by first | exact Or.inl rfl | exact Or.inr rfl) (pe_op op_modN (pe_op op_fdivN (pv 1) pe_int) (pe_op op_add (pe_callB cr_len (by rfl) T.z_len (by decide +kernel) (pa_cons (pv 0) pa_nil)) pe_int))) (pss_cons (ps_set (i := 3) sc__law_spoiled.nd rfl (by first | exact Or.inl rfl | exact Or.inr rfl) (pe_ix ix_str pe_str (pe_op op_modN (pe_op op_fdivN (pv 1) pe_int) pe_int) (fun _ _ => rfl))) (pss_cons (ps_set (i := 4) sc__law_spoiled.nd rfl (by first | exact Or.inl rfl | exact Or.inr rfl) (pe_op op_modN (pv 1) pe_int)) (pss_cons (ps_if (pt_cmpR op_lt (pv 4) pe_int (nomark _)) (pss_one (ps_ret (pe_op op_addS (pe_op op_addS (pe_slice sl_str (pv 0) po_none (po_some (pv 2))) (pv 3)) (pe_slice sl_str (pv 0) (po_some (pv 2)) po_none)))) pss_nil) (pss_cons (ps_if (pt_cmpR (op_eqP (un_of hr)) (pv 4) pe_int (nomark _)) (pss_one (ps_ret (pe_op op_addS (pe_op op_addS (pe_slice sl_str (pv 0) po_none (po_some (pv 2))) (pv 3)) (pe_slice sl_str (pv 0) (po_some (pe_op op_add (pv 2) pe_int)) po_none)))) pss_nil) (pss_cons (ps_if (pt_cmpR (op_eqP (un_of hr)) (pv 4) pe_int (nomark _)) (pss_one (ps_ret (pe_op op_addS (pe_slice sl_str (pv 0) po_none (po_some (pv 2))) (pe_slice sl_str (pv 0) (po_some (pe_op op_add (pv 2) pe_int)) po_none)))) pss_nil) (pss_one (ps_ret (pe_df D__law_odd (hr.mono (by omega)) (by rfl) pass0 (pa_cons (pe_op op_fdivN (pv 1) pe_int) pa_nil)))))))))), ?_⟩
  have hl2 : t.length ≤ 100000 := by omega
  have vt : ∀ {a b d e : Option V} {H' : Hp}, EvD (tVar 0) [some (.str (sO t)), a, b, d, e] H' (.str (sO t)) := ev_var rfl rfl
  have vc : ∀ {a b d e : Option V} {H' : Hp}, EvD (tVar 1) [a, some (.int c), b, d, e] H' (.int c) := ev_var rfl rfl
  have h0 : 0 ≤ c / 5 % ((t.length : Int) + 1) := Int.emod_nonneg _ (by omega)
  obtain ⟨at', ea⟩ : ∃ n : Nat, c / 5 % ((t.length : Int) + 1) = n := ⟨_, (Int.toNat_of_nonneg h0).symm⟩
  refine w_sset (d := .int at') ((ev_mod (i := c / 5) (j := (t.length : Int) + 1) (ev_div vc ev_int (by decide)) (ev_add (ev_cb (ea_cons vt ea_nil) (cd_lenSO hl2)) ev_int) (by omega)).to (by rw [ea])) fun v1 H1 s1 r1 => ?_
  cases (show v1 = V.int at' from r1)
  have hj0 : 0 ≤ c / 500 % 19 := Int.emod_nonneg _ (by decide)
  have hj1 : c / 500 % 19 < 19 := Int.emod_lt_of_pos _ (by decide)
  obtain ⟨g, eg⟩ : ∃ x, signL.cps.toList[(c / 500 % 19).toNat]? = some x := ⟨_, List.getElem?_eq_getElem (by rw [signL_len]; omega)⟩
  have jn : c / 500 % 19 = (((c / 500 % 19).toNat : Nat) : Int) := by omega
  obtain ⟨g1, g2⟩ := signL_ok g (List.mem_of_getElem? eg)
  refine w_sset (d := .str (sO [g])) (ev_ixS (z := signL) (i := c / 500 % 19) (c := g) ev_str (ev_mod (ev_div vc ev_int (by decide)) ev_int (by decide)) (by rw [show signL.length = 19 by decide +kernel]; decide) (by rw [jn]; exact atI_nat eg)) fun v2 H2 s2 r2 => ?_
  cases (show v2 = V.str (sO [g]) from r2)
  refine w_sset (ev_mod vc ev_int (by decide)) fun v3 H3 s3 r3 => ?_
  cases (show v3 = V.int (c % 5) from r3)
  have s13 := (s1.trans s2).trans s3
  have va : ∀ {a b d e : Option V} {H' : Hp}, EvD (tVar 2) [a, b, some (.int at'), d, e] H' (.int at') := ev_var rfl rfl
  have vg : ∀ {a b d e : Option V} {H' : Hp}, EvD (tVar 3) [a, b, d, some (.str (sO [g])), e] H' (.str (sO [g])) := ev_var rfl rfl
  have vw : ∀ {a b d e : Option V} {H' : Hp}, EvD (tVar 4) [a, b, d, e, some (.int (c % 5))] H' (.int (c % 5)) := ev_var rfl rfl
  have l1 : (t.take at').length ≤ t.length := by rw [List.length_take]; omega
  have l2 : (t.drop at').length ≤ t.length := by rw [List.length_drop]; omega
  have l3 : (t.drop (at' + 1)).length ≤ t.length := by rw [List.length_drop]; omega
  have l12 : (t.take at').length + (t.drop at').length = t.length := by rw [List.length_take, List.length_drop]; omega
  have l13 : (t.take at').length + (t.drop (at' + 1)).length ≤ t.length := by rw [List.length_take, List.length_drop]; omega
  have c12 : cs (t.take at') + cs (t.drop at') = cs t := by rw [← cs_app, List.take_append_drop]
  have c3 : cs (t.drop (at' + 1)) ≤ cs (t.drop at') := by
    refine cs_sfx ?_
    rw [show t.drop (at' + 1) = (t.drop at').tail by rw [List.tail_drop]]
    exact Sfx.tail _
  have o1 : lOk (t.take at') = true := lOk_sub okt fun y hy => List.mem_of_mem_take hy
  have o2 : lOk (t.drop at') = true := lOk_sub okt fun y hy => List.mem_of_mem_drop hy
  have o3 : lOk (t.drop (at' + 1)) = true := lOk_sub okt fun y hy => List.mem_of_mem_drop hy
  refine w_guard (et_test (ev_lt vw ev_int)) (fun _ H4 s4 => ?_) (fun _ H4 s4 => ?_)
  · refine w_ret (ev_addS (l := t.take at' ++ [g]) (m := t.drop at') (ev_addS (l := t.take at') (m := [g]) (ev_cutTo vt va hl2) vg (by simp only [List.length_singleton]; omega)) (ev_cutFrom vt va hl2) (by simp only [List.length_append, List.length_singleton]; omega)) fun v5 H5 s5 r5 => ?_
    cases (show v5 = V.str _ from r5)
    refine q _ H5 ((s13.trans s4).trans s5) ⟨by rw [lOk_app, lOk_app, o1, o2, g1]; rfl, by simp only [List.length_append, List.length_singleton]; omega, by rw [cs_app, cs_app]; omega⟩
  · refine w_guard (et_test (ev_eq vw ev_int (okD_int _) (okD_int _))) (fun _ H5 s5 => ?_) (fun _ H5 s5 => ?_)
    · refine w_ret (ev_addS (l := t.take at' ++ [g]) (m := t.drop (at' + 1)) (ev_addS (l := t.take at') (m := [g]) (ev_cutTo vt va hl2) vg (by simp only [List.length_singleton]; omega)) (ev_cutFrom (i := at' + 1) vt (ev_add va ev_int) hl2) (by simp only [List.length_append, List.length_singleton]; omega)) fun v6 H6 s6 r6 => ?_
      cases (show v6 = V.str _ from r6)
      refine q _ H6 (((s13.trans s4).trans s5).trans s6) ⟨by rw [lOk_app, lOk_app, o1, o3, g1]; rfl, by simp only [List.length_append, List.length_singleton]; omega, by rw [cs_app, cs_app]; omega⟩
    · refine w_guard (et_test (ev_eq vw ev_int (okD_int _) (okD_int _))) (fun _ H6 s6 => ?_) (fun _ H6 s6 => ?_)
      · refine w_ret (ev_addS (l := t.take at') (m := t.drop (at' + 1)) (ev_cutTo vt va hl2) (ev_cutFrom (i := at' + 1) vt (ev_add va ev_int) hl2) (by omega)) fun v7 H7 s7 r7 => ?_
        cases (show v7 = V.str _ from r7)
        refine q _ H7 ((((s13.trans s4).trans s5).trans s6).trans s7) ⟨by rw [lOk_app, o1, o3]; rfl, by simp only [List.length_append]; omega, by rw [cs_app]; omega⟩
      · refine ev_div vc ev_int (by decide) H6 (Same.refl _) _ fun v7 H7 s7 r7 => ?_
        cases (show v7 = V.int (c / 5) from r7)
        refine ⟨c / 5, rfl, fun t' H8 s8 ⟨x1, x2, x3⟩ => ?_⟩
        exact q t' H8 (((((s13.trans s4).trans s5).trans s6).trans s7).trans s8) ⟨x1, by omega, by omega⟩
end
section
variable {P : Program} {w : World} {K : PySem.W.Frag} {mg : Str → Option Value} {base : Heap}
theorem ok_law_signs (T : Tp K mg) : ∀ n, Df P w K mg base CX0 n "_law_signs" ["form"] (spSigns n) := by
  refine T.b__law_signs.rec spSigns.no fun n D__law_signs => ?_
  refine T.b__law_signs.ok sc__law_signs spSigns.len (fun f cdv A outer s H vs Q E hr h => ?_)
  obtain ⟨ds, r, hR, ⟨f, rfl, rfl, hd, hp⟩, q⟩ := h
  obtain ⟨v1, _, rfl, h1, rfl⟩ := hR
  refine ⟨_, (pss_cons (ps_if (pt_cmpR (op_eqP (un_of hr)) (pe_ix ix_tup (pv 0) pe_int (fun _ _ => rfl)) pe_str (nomark _)) (pss_one (ps_ret pe_int)) pss_nil) (pss_one (ps_ret (pe_op op_add pe_int (pe_callB (cr_sum rfl) (by rfl) T.z_sum (by decide +kernel) (pa_cons (pe_lc (own := [("part", 1)]) (g := gName 1) (by rfl) sc__law_signs.nd (pi_tup (pe_ix ix_tup (pv 0) pe_int (fun _ _ => rfl))) (blkOk_by (own := [("part", 1)]) (N := N__law_signs) (sc := defScope s__law_signs) (by decide +kernel)) (fun _ _ _ _ _ => pg_name (i := 1) sc__law_signs.nd rfl (Or.inl rfl)) (fun _ _ _ _ _ => pts_nil) (fun _ _ _ _ _ => (pe_df D__law_signs (hr.mono (by omega)) (by rfl) pass0 (pa_cons (pv 1) pa_nil)))) pa_nil)))))), ?_⟩
  refine EvR.run ?_ q
  cases f with
  | gap k => exact er_here (er_ifT (et_test (ev_isgap (f := .gap k) (ev_f0 (ev_var rfl h1)))) (er_ret ev_int))
  | tie w ps =>
    refine er_skip (et_test (ev_isgap (f := .tie w ps) (ev_f0 (ev_var rfl h1)))) ?_
    have hp' := hp
    simp only [Fm.ok, Bool.and_eq_true, decide_eq_true_eq] at hp
    have e : ((Fm.tie w ps).sg : Int) = 1 + (ps.map fun g => (g.sg : Int)).sum := by have := sgL_sum ps; simp only [Fm.sg]; omega
    rw [e]
    refine er_ret (ev_add ev_int (ev_cb (ea_cons ((ev_lc1 ps Fm.d (fun g => .int g.sg) (ei_tup (ev_f2 (ev_var rfl h1)) Fm.immL_d).j (fun x hx v H1 s1 r1 => ?_) (fun _ _ => rfl) (by omega)).to (d' := .list ((ps.map fun g => (g.sg : Int)).map .int)) (by rw [List.map_map]; rfl)) ea_nil) cd_sum))
    refine ev_call (ea_cons (ev_var rfl r1) ea_nil) (spP.d ⟨x, rfl, rfl, ?_, Fm.ok_part hp.2 hx⟩)
    have := Fm.dep_part hx
    simp only [Fm.dep] at hd
    omega
end
section
variable {P : Program} {w : World} {K : PySem.W.Frag} {mg : Str → Option Value} {base : Heap}
theorem ok_cell (T : Tp K mg) : Df P w K mg base CX0 1 "_law_cell_at" ["script", "k"] (spCell K) := by
  refine T.b__law_cell_at.ok sc__law_cell_at (fun vs H Q E h => ?_) (fun f cdv A outer s H vs Q E hr h => ?_)
  · obtain ⟨a, ns, k, rfl, _⟩ := h
    rfl
  obtain ⟨a, ns, k, rfl, hS, q⟩ := h
  refine ⟨_, (pss_cons (ps_if (pt_cmpR op_lt (pv 1) (pe_callB cr_len (by rfl) T.z_len (by decide +kernel) (pa_cons (pv 0) pa_nil)) (nomark _)) (pss_one (ps_ret (pe_ix ix_list (pv 0) (pv 1) (fun _ _ => rfl)))) pss_nil) (pss_one (ps_ret pe_int))), ?_⟩
  have hk : Rp H (.int k) (.int k) := rfl
  refine w_guard (et_test (ev_lt (ev_var (i := 1) rfl hk) (ev_lenScript (i := 0) rfl hS))) (fun c H1 s1 => ?_) (fun c H1 s1 => ?_)
  · have c' : (k : Int) < ns.length := of_decide_eq_true c
    have e : ns[k]? = some (cellAt ns k) := by
      unfold cellAt; rw [List.getD_eq_getElem?_getD, List.getElem?_eq_getElem (by omega)]; rfl
    refine w_ret (ev_ixScript (k := (k : Int)) (n := cellAt ns k) rfl (s1.seq hS) (ev_var rfl (hk.mono s1)) (atI_nat e)) fun v H2 s2 r => ?_
    cases (show v = V.int (cellAt ns k) from r)
    exact q _ (s1.trans s2)
  · have c' : ¬ (k : Int) < ns.length := of_decide_eq_false c
    refine w_ret ev_int fun v H2 s2 r => ?_
    cases (show v = V.int 0 from r)
    have e : cellAt ns k = 0 := by unfold cellAt; rw [List.getD_eq_getElem?_getD, List.getElem?_eq_none (by omega)]; rfl
    have := q _ (s1.trans s2)
    rw [e] at this
    exact this
end
section
variable {P : Program} {w : World} {K : PySem.W.Frag} {mg : Str → Option Value} {base : Heap}
theorem ok_law_form (T : Tp K mg) : ∀ n, Df P w K mg base CX0 n "_law_form" ["spot", "many", "deep"] (spForm n) := by
  refine T.b__law_form.rec spForm.no fun n D__law_form => ?_
  refine T.b__law_form.ok sc__law_form spForm.len (fun f cdv A outer s H vs Q E hr h => ?_)
  obtain ⟨p, a, b, many, deep, rfl, hp, ha0, ha1, hm, hd1, hdn, q⟩ := h
  refine ⟨_, (pss_cons (ps_asg (pe_op op_modN (pe_op op_add (pe_op op_mul (pe_ix ix_list (pv 0) pe_int (fun _ _ => rfl)) pe_int) pe_int) pe_int) (pg_sub (pv 0) pe_int set_list)) (pss_cons (ps_set (i := 3) sc__law_form.nd rfl (by first | exact Or.inl rfl | exact Or.inr rfl) (pe_op op_fdivN (pe_ix ix_list (pv 0) pe_int (fun _ _ => rfl)) pe_int)) (pss_cons (ps_asg (pe_op op_sub (pe_ix ix_list (pv 0) pe_int (fun _ _ => rfl)) pe_int) (pg_sub (pv 0) pe_int set_list)) (pss_cons (ps_if (PW.pt (pw_and (pt_cmpR (op_eqP (un_of hr)) (pe_op op_modN (pv 3) pe_int) pe_int (nomark _)) (pw_and1 (pt_cmpR op_gt (pv 1) pe_int (nomark _))))) (pss_one (ps_ret (pe_tup (pa_cons pe_str (pa_cons (pe_op op_modN (pe_op op_fdivN (pv 3) pe_int) (pv 1)) pa_nil))))) pss_nil) (pss_cons (ps_set (i := 4) sc__law_form.nd rfl (by first | exact Or.inl rfl | exact Or.inr rfl) (pe_lst (pa_cons pe_str (pa_cons pe_str (pa_cons pe_str (pa_cons pe_str pa_nil)))))) (pss_cons (ps_set (i := 5) sc__law_form.nd rfl (by first | exact Or.inl rfl | exact Or.inr rfl) (pe_op op_modN (pe_op op_fdivN (pv 3) pe_int) pe_int)) (pss_cons (ps_if (PW.pt (pw_or (pt_cmpR op_lt (pv 2) pe_int (nomark _)) (pw_or1 (pt_cmpR op_lt (pe_ix ix_list (pv 0) pe_int (fun _ _ => rfl)) pe_int (nomark _))))) (pss_one (ps_ret (pe_tup (pa_cons pe_str (pa_cons (pe_ix ix_list (pv 4) (pe_op op_modN (pe_op op_fdivN (pv 3) pe_int) pe_int) (fun _ _ => rfl)) (pa_cons (pe_tup pa_nil) pa_nil)))))) pss_nil) (pss_cons (ps_set (i := 6) sc__law_form.nd rfl (by first | exact Or.inl rfl | exact Or.inr rfl) (pe_lst pa_nil)) (pss_cons (ps_for PassesOwn.never rfl (pi_range1 (by rfl) T.z_range (pa_cons (pv 5) pa_nil)) (pg_name (i := 7) sc__law_form.nd rfl (by first | exact Or.inl rfl | exact Or.inr rfl)) (pss_one (ps_expr (pe_bm PySem.F.plainAttrs_list PySem.F.slot_list_append PySem.F.type_list_append mt_append (pv 6) (pa_cons (pe_df D__law_form (hr.mono (by omega)) (by rfl) pass0 (pa_cons (pv 0) (pa_cons (pv 1) (pa_cons (pe_op op_sub (pv 2) pe_int) pa_nil)))) pa_nil))))) (pss_one (ps_ret (pe_tup (pa_cons pe_str (pa_cons (pe_ix ix_list (pv 4) (pe_op op_modN (pe_op op_fdivN (pv 3) pe_int) pe_int) (fun _ _ => rfl)) (pa_cons (pe_callTy cr_tuple (by rfl) T.z_tuple (by decide +kernel) (pa_cons (pv 6) pa_nil)) pa_nil))))))))))))))), ?_⟩
  have hM : Rp H (.int many) (.int many) := rfl
  have hD : Rp H (.int deep) (.int deep) := rfl
  have hL : Rp H (.list [.int a, .int b]) (.ref p) := ⟨p, _, rfl, hp, .cons rfl (.cons rfl .nil)⟩
  refine w_ssetL (a := p) (j := 0) rfl hp (ev_mod (ev_add (ev_mul (ev_ixL (ev_var (i := 0) rfl hL) ev_int rfl) ev_int (.inl ⟨by omega, by omega⟩)) ev_int) ev_int (by decide)) rfl fun v H1 s1 r1 => ?_
  cases (show v = V.int ((a * 48271 + 29) % 2147483647) from r1)
  have ha1 : 0 ≤ (a * 48271 + 29) % 2147483647 := Int.emod_nonneg _ (by decide)
  have ha2 : (a * 48271 + 29) % 2147483647 < 2147483647 := Int.emod_lt_of_pos _ (by decide)
  generalize (a * 48271 + 29) % 2147483647 = a1 at ha1 ha2
  show tSeq _ _ _ _ (upd H1 p (.lst [.int a1, .int b]))
  have k2 : KB p H (upd H1 p (.lst [.int a1, .int b])) := (KB.of s1).trans KB.upd
  have e2 : (upd H1 p (.lst [.int a1, .int b])) p = some (.lst [.int a1, .int b]) := upd_same
  generalize upd H1 p (.lst [.int a1, .int b]) = H2 at k2 e2
  have hL2 : Rp H2 (.list [.int a1, .int b]) (.ref p) := ⟨p, _, rfl, e2, .cons rfl (.cons rfl .nil)⟩
  -- number
  refine w_sset (ev_div (ev_ixL (ev_var (i := 0) rfl hL2) ev_int rfl) ev_int (by decide)) fun v H3 s3 r3 => ?_
  cases (show v = V.int (a1 / 7) from r3)
  have hn0 : 0 ≤ a1 / 7 := by omega
  have hn1 : a1 / 7 < 2147483647 := by omega
  generalize a1 / 7 = num at hn0 hn1
  have hN : ∀ H, Rp H (.int num) (.int num) := fun _ => rfl
  have e3 := s3 _ _ e2
  have hL3 : Rp H3 (.list [.int a1, .int b]) (.ref p) := ⟨p, _, rfl, e3, .cons rfl (.cons rfl .nil)⟩
  -- spot[1]
  refine w_ssetL (a := p) (j := 1) rfl e3 (ev_sub (ev_ixL (ev_var (i := 0) rfl hL3) ev_int rfl) ev_int) rfl fun v H4 s4 r4 => ?_
  cases (show v = V.int (b - 1) from r4)
  show tSeq _ _ _ _ (upd H4 p (.lst [.int a1, .int (b - 1)]))
  have k5 : KB p H (upd H4 p (.lst [.int a1, .int (b - 1)])) := ((k2.trans (KB.of s3)).trans (KB.of s4)).trans KB.upd
  have e5 : (upd H4 p (.lst [.int a1, .int (b - 1)])) p = some (.lst [.int a1, .int (b - 1)]) := upd_same
  generalize upd H4 p (.lst [.int a1, .int (b - 1)]) = H5 at k5 e5
  -- a gap
  refine w_guard (et_and (et_test (ev_eq (ev_mod (ev_var (i := 3) rfl (hN H5)) ev_int (by decide)) ev_int (okD_int _) (okD_int _))) fun _ => et_test (ev_gt (ev_var (i := 1) (d := .int many) rfl rfl) ev_int)) (fun c H6 s6 => ?_) (fun c H6 s6 => ?_)
  · rw [Bool.and_eq_true, decide_eq_true_eq] at c
    have hm0 : 0 < many := c.2
    refine w_ret (d := (Fm.gap (num / 3 % many)).d) (ev_tup (ea_cons ev_str (ea_cons (ev_mod (ev_div (ev_var (i := 3) rfl (hN _)) ev_int (by decide)) (ev_var (i := 1) (d := .int many) rfl rfl) hm0) ea_nil))) fun v H7 s7 r7 => ?_
    have hs := s6.trans s7
    refine q (.gap _) v H7 a1 (k5.trans (KB.of hs)) (hs _ _ e5) ha1 ha2 r7 ?_ ?_ ?_ ?_
    · simp only [Fm.gd, Bool.and_eq_true, decide_eq_true_eq]
      exact ⟨Int.emod_nonneg _ (by omega), Int.emod_lt_of_pos _ hm0⟩
    · simp only [Fm.dep]; omega
    · intro _; rfl
    · simp only [Fm.sg]; omega
  -- the words
  have hw : EvD (tLst (tCons (tC (.str "a")) (tCons (tC (.str "ab")) (tCons (tC (.str "f")) (tCons (tC (.str "fg")) tNil))))) (L2.start N__law_form [V.ref p, V.int many, V.int deep] |>.set 3 (some (.int num))) H6 (.list (wordsL.map PyData.str)) := ev_lst (ea_cons ev_str (ea_cons ev_str (ea_cons ev_str (ea_cons ev_str ea_nil)))) (by decide)
  refine w_sset hw fun vw H7 s7 r7 => ?_
  obtain ⟨z, ws, rfl, ez, rz⟩ := r7
  cases (RpL.strs_inv rz)
  have zp : z ≠ p := ne_of ez (s7 _ _ (s6 _ _ e5)) (fun e => by injection e with e; injection e with e1 e2; cases e1)
  have hw7 : Rp H7 (.list (wordsL.map PyData.str)) (.ref z) := ⟨z, _, rfl, ez, RpL.strs _⟩
  refine w_sset (ev_mod (ev_div (ev_var (i := 3) rfl (hN _)) ev_int (by decide)) ev_int (by decide)) fun v H8 s8 r8 => ?_
  cases (show v = V.int (num / 3 % 5) from r8)
  have hz0 : 0 ≤ num / 3 % 5 := Int.emod_nonneg _ (by decide)
  have hz1 : num / 3 % 5 < 5 := Int.emod_lt_of_pos _ (by decide)
  generalize num / 3 % 5 = size at hz0 hz1
  have s58 := (s6.trans s7).trans s8
  have e8 := s58 _ _ e5
  have hL8 : Rp H8 (.list [.int a1, .int (b - 1)]) (.ref p) := ⟨p, _, rfl, e8, .cons rfl (.cons rfl .nil)⟩
  have hw8 := hw7.mono s8
  have word : ∀ j : Int, 0 ≤ j → j < 4 → ∃ x, x ∈ wordsL ∧ atI (wordsL.map PyData.str) j = some (.str x) := by
    intro j j0 j1
    have : j = 0 ∨ j = 1 ∨ j = 2 ∨ j = 3 := by omega
    rcases this with rfl | rfl | rfl | rfl
    · exact ⟨"a", by simp [wordsL], rfl⟩
    · exact ⟨"ab", by simp [wordsL], rfl⟩
    · exact ⟨"f", by simp [wordsL], rfl⟩
    · exact ⟨"fg", by simp [wordsL], rfl⟩
  refine w_guard (et_or (et_test (ev_lt (ev_var (i := 2) (d := .int deep) rfl rfl) ev_int)) fun _ => et_test (ev_lt (ev_ixL (ev_var (i := 0) rfl hL8) ev_int rfl) ev_int)) (fun c H9 s9 => ?_) (fun c H9 s9 => ?_)
  · have j0 : 0 ≤ num / 15 % 2 := Int.emod_nonneg _ (by decide)
    have j1 : num / 15 % 2 < 2 := Int.emod_lt_of_pos _ (by decide)
    obtain ⟨x, hx, hx'⟩ := word (num / 15 % 2) j0 (by omega)
    refine w_ret (d := (Fm.tie x []).d) (ev_tup (ea_cons ev_str (ea_cons (ev_ixL (ev_var (i := 4) rfl (hw8.mono s9)) (ev_mod (ev_div (ev_var (i := 3) rfl (hN _)) ev_int (by decide)) ev_int (by decide)) hx') (ea_cons (ev_tup ea_nil (Nat.zero_le _)) ea_nil)))) fun v H10 s10 r10 => ?_
    have hs := s9.trans s10
    refine q (.tie x []) v H10 a1 (k5.trans (KB.of (s58.trans hs))) (hs _ _ e8) ha1 ha2 r10 ?_ ?_ ?_ ?_
    · simp only [Fm.gd, Fm.gdL, Bool.and_eq_true, decide_eq_true_eq]
      exact ⟨⟨hx, by simp⟩, trivial⟩
    · simp only [Fm.dep, Fm.depL]; omega
    · intro _; rfl
    · simp only [Fm.sg, Fm.sgL]; omega
  rw [Bool.or_eq_false_iff, decide_eq_false_iff_not, decide_eq_false_iff_not] at c
  obtain ⟨c1, c2⟩ := c
  have e9 := s9 _ _ e8
  -- the parts
  refine w_slnew fun g hg => ?_
  have zg : z ≠ g := ne_of_none (s9 _ _ (s8 _ _ ez)) hg
  have gp : g ≠ p := (ne_of_none e9 hg).symm
  have hK0 : KB p H (upd H9 g (.lst [])) := (k5.trans (KB.of (s58.trans s9))).trans (KB.of (Fx.Same.new hg))
  have hg' : ∀ H', KB p H H' → H' g = none → H g = none := fun H' k z => by
    by_cases hb : g = p
    · exact absurd hb gp
    · cases y : H g with
      | none => rfl
      | some o => rw [k g o hb y] at z; cases z
  have hgH : H g = none := by
    cases y : H g with
    | none => rfl
    | some o => rw [((k5.trans (KB.of (s58.trans s9))) g o gp y)] at hg; cases hg
  have hsz : (size.toNat : Int) = size := by omega
  refine w_sfor (ei_range1 (n := size.toNat) (ev_var (i := 5) rfl (show Rp _ (.int size.toNat) (.int size) by rw [hsz]; rfl)) (by omega)) fun H10 s10 => ?_
  refine ⟨fun i σ' H' => ∃ (fs : List Fm) (vs : List V) (a' : Int) (x7 : Option V), σ' = [some (.ref p), some (.int many), some (.int deep), some (.int num), some (.ref z), some (.int size), some (.ref g), x7] ∧
      i ≤ size.toNat ∧ fs.length = i ∧ KB p H H' ∧ H' g = some (.lst vs) ∧ RpL H' (fs.map Fm.d) vs ∧ H' p = some (.lst [.int a', .int (b - 1 - Fm.sgL fs)]) ∧ 0 ≤ a' ∧ a' < 2147483647 ∧ H' z = some (.lst (wordsL.map V.str)) ∧
      (∀ f, f ∈ fs → f.gd many = true ∧ f.dep ≤ deep - 1) ∧ (Fm.sgL fs : Int) ≤ (b - 1 - 4) + 4 * (deep - 2) + i, ?_, ?_, ?_⟩
  · refine ⟨[], [], a1, none, rfl, Nat.zero_le _, rfl, hK0.trans (KB.of s10), s10 _ _ upd_same, rfl, ?_, ha1, ha2, ?_, (fun _ h => nomatch h), ?_⟩
    · rw [show (b - 1 - (Fm.sgL [] : Nat) : Int) = b - 1 by simp [Fm.sgL]]
      exact s10 _ _ (by rw [upd_ne gp.symm]; exact e9)
    · exact s10 _ _ (Fx.Same.new hg _ _ (s9 _ _ (s8 _ _ ez)))
    · simp only [Fm.sgL]; omega
  · rintro i d x σ' H' H2' ed kt ⟨fs, vs, a', x7, rfl, hi, hl, kk, eg, rg, ep, a0, a1', rw', hfs, hsum⟩ sx rx
    have hi' : i < size.toNat := by
      have := (List.getElem?_eq_some_iff.mp ed).1
      simpa using this
    refine ⟨.ref g, rfl, .inl ⟨rfl, vs, .of (sx _ _ eg)⟩, ?_⟩
    -- the call
    have hD1 : (deep : Int) - 1 = ((deep - 1 : Nat) : Int) := by omega
    refine ⟨.ref p, rfl, .int many, rfl, ev_sub (ev_var (i := 2) (d := .int deep) rfl rfl) ev_int H2' (Same.refl _) _ fun v H3' s3' r3' => ?_⟩
    cases (show v = V.int (deep - 1) from r3')
    refine ⟨p, a', b - 1 - Fm.sgL fs, many, deep - 1, by rw [hD1]; rfl, s3' _ _ (sx _ _ ep), a0, a1', hm, by omega, by omega, fun f v H4' a'' k4 e4 a0' a1'' r4 gd4 dp4 lf4 sg4 => ?_⟩
    have ss := sx.trans s3'
    have g4 : H4' g = some (.lst vs) := k4 _ _ gp (ss _ _ eg)
    have kt4 : KT H3' H4' := k4.kt fun ys => by rw [ss _ _ ep]; intro z; cases z
    have rg4 : RpL H4' (fs.map Fm.d) vs := RpL.kt kt4 _ _ Fm.immL_d (rg.mono ss)
    have hsz4 : vs.length < sizeLine := by
      rw [rg.length, List.length_map]
      exact Nat.lt_of_le_of_lt (show fs.length ≤ 10 by omega) (by decide)
    refine ⟨g, vs, v, rfl, rfl, g4, hsz4, ?_, fs ++ [f], vs ++ [v], a'', some x, rfl, by omega, by simp [hl], ?_, upd_same, ?_, ?_, a0', a1'', ?_, ?_, ?_⟩
    · exact ((kt.trans (KT.of ss)).trans kt4).trans (KT.upd fun ys => by rw [g4]; intro z; cases z)
    · exact ((kk.trans (KB.of ss)).trans k4).put hgH
    · have kt5 : KT H4' (upd H4' g (.lst (vs ++ [v]))) := KT.upd fun ys => by rw [g4]; intro z; cases z
      rw [List.map_append]
      exact RpL.kt kt5 _ _ (by rw [← List.map_append]; exact Fm.immL_d) (rg4.snoc r4)
    · rw [upd_ne gp.symm, e4, Fm.sgL_append]
      simp only [Fm.sgL]
      congr 5
      omega
    · rw [upd_ne zg]
      exact k4 _ _ zp (ss _ _ rw')
    · intro y hy
      rcases List.mem_append.mp hy with hy | hy
      · exact hfs y hy
      · rw [List.mem_singleton.mp hy]; exact ⟨gd4, dp4⟩
    · rw [Fm.sgL_append]
      simp only [Fm.sgL]
      by_cases h5 : b - 1 - (Fm.sgL fs : Int) < 5
      · have := lf4 h5
        omega
      · omega
  · rintro σ' H' kt ⟨fs, vs, a', x7, rfl, hi, hl, kk, eg, rg, ep, a0, a1', rw', hfs, hsum⟩
    have hl' : fs.length = size.toNat := by simpa using hl
    have j0 : 0 ≤ num / 15 % 4 := Int.emod_nonneg _ (by decide)
    have j1 : num / 15 % 4 < 4 := Int.emod_lt_of_pos _ (by decide)
    obtain ⟨x, hx, hx'⟩ := word (num / 15 % 4) j0 j1
    have ht : Rp H' (.list (fs.map Fm.d)) (.ref g) := ⟨g, vs, rfl, eg, rg⟩
    have hwz : Rp H' (.list (wordsL.map PyData.str)) (.ref z) := ⟨z, _, rfl, rw', RpL.strs _⟩
    have e : (Fm.tie x fs).d = .tuple [.str "tie", .str x, .tuple (fs.map Fm.d)] := by rw [Fm.d, Fm.dL_map]
    refine w_ret (d := (Fm.tie x fs).d) (by rw [e]; exact (ev_tup (ea_cons ev_str (ea_cons (ev_ixL (ev_var (i := 4) rfl hwz) (ev_mod (ev_div (ev_var (i := 3) rfl (hN _)) ev_int (by decide)) ev_int (by decide)) hx') (ea_cons (ev_cb (ea_cons (ev_var (i := 6) rfl ht) ea_nil) cd_tupleL) ea_nil))))) fun v H11 s11 r11 => ?_
    refine q (.tie x fs) v H11 a' (kk.trans (KB.of s11)) ?_ a0 a1' r11 ?_ ?_ ?_ ?_
    · rw [s11 _ _ ep]
      simp only [Fm.sg]
      congr 5
      omega
    · simp only [Fm.gd, Bool.and_eq_true, decide_eq_true_eq]
      exact ⟨⟨hx, by omega⟩, Fm.gdL_of fun f hf => (hfs f hf).1⟩
    · simp only [Fm.dep]
      have := Fm.depL_le (n := deep - 1) fun f hf => (hfs f hf).2
      omega
    · intro h5; omega
    · simp only [Fm.sg]; omega
end
section
variable {P : Program} {w : World} {K : PySem.W.Frag} {mg : Str → Option Value} {base : Heap}
theorem ok_law_drawn (T : Tp K mg) (n : Nat) : Df P w K mg base CX0 (n + 1) "_law_drawn" ["cell", "many", "deep"] (spDrawn n) := by
  have D__law_form := ok_law_form (P := P) (w := w) (base := base) T n
  refine T.b__law_drawn.ok sc__law_drawn (fun vs H Q E h => ?_) (fun f cdv A outer s H vs Q E hr h => ?_)
  · obtain ⟨c, many, deep, rfl, _⟩ := h
    rfl
  obtain ⟨c, many, deep, rfl, hm, h1, hn, q⟩ := h
  refine ⟨_, (pss_one (ps_ret (pe_df D__law_form (hr.mono (by omega)) (by rfl) pass0 (pa_cons (pe_lst (pa_cons (pe_op op_modN (pv 0) pe_int) (pa_cons pe_int pa_nil))) (pa_cons (pv 1) (pa_cons (pv 2) pa_nil)))))), ?_⟩
  have hc : Rp H (.int c) (.int c) := rfl
  have e1 : EvD (tOp (rI (fun _ j => j ≠ 0) fun i j => .int (i.fmod j)) (tVar 0) (tC (.int 2147483647))) [some (.int c), some (.int many), some (.int deep)] H (.int (c % 2147483647)) := ev_mod (ev_var rfl hc) ev_int (by decide)
  refine e1 H (Same.refl _) _ fun v H1 s1 r1 => ?_
  cases (show v = V.int (c % 2147483647) from r1)
  refine ⟨by show 2 ≤ sizeLine; decide, fun p hp => ?_⟩
  refine ⟨.int many, rfl, .int deep, rfl, ?_⟩
  refine ⟨p, c % 2147483647, 24, many, deep, rfl, upd_same, Int.emod_nonneg _ (by decide), Int.emod_lt_of_pos _ (by decide), hm, h1, hn, fun f v H' a' k e _ _ r gd dp _ sg => ?_⟩
  refine q f v H' ?_ r gd dp (by omega)
  exact fun b o hb => k b o (ne_of_none (s1 _ _ hb) hp) (Fx.Same.new hp _ _ (s1 _ _ hb))
end
section
variable {P : Program} {w : World} {K : PySem.W.Frag} {mg : Str → Option Value} {base : Heap}
theorem ok_law_whole (T : Tp K mg) : Df P w K mg base CX0 1 "_law_whole" ["found"] spWhole := by
  refine T.b__law_whole.ok sc__law_whole spWhole.len (fun f cdv A outer s H vs Q E hr h => ?_)
  obtain ⟨ds, r, hR, ⟨d, rfl, rfl⟩, q⟩ := h
  obtain ⟨v1, _, rfl, h1, rfl⟩ := hR
  refine ⟨_, (pss_one (ps_ret (pe_and (pe_callB call_isi (by rfl) T.z_isinstance (by decide +kernel) (pa_cons (pv 0) (pa_cons (pe_bltn (v := .ty "int") (by rfl) T.z_int (by decide +kernel) rfl) pa_nil))) (pe_one (pe_not (pe_callB call_isi (by rfl) T.z_isinstance (by decide +kernel) (pa_cons (pv 0) (pa_cons (pe_bltn (v := .ty "bool") (by rfl) T.z_bool (by decide +kernel) rfl) pa_nil)))))))), ?_⟩
  refine EvR.run (d := .bool (isWhole d)) (er_ret ?_) q
  refine (ev_and (ev_isi (ev_var rfl h1)) fun _ => ev_not (ev_isi (ev_var rfl h1))).to ?_
  refine congrArg PyData.bool ?_
  cases d <;> (simp only [tyN, isWhole]; decide)
end
section
variable {P : Program} {w : World} {K : PySem.W.Frag} {mg : Str → Option Value} {base : Heap}
theorem ok_law_is_form (T : Tp K mg) : ∀ n, Df P w K mg base CX0 (n + 1) "_law_is_form" ["form"] (spIsForm n) := by
  refine T.b__law_is_form.recK 1 spIsForm.no fun n D__law_is_form => ?_
  have D__law_whole := ok_law_whole (P := P) (w := w) (base := base) T
  refine T.b__law_is_form.ok sc__law_is_form spIsForm.len (fun f cdv A outer s H vs Q E hr h => ?_)
  obtain ⟨ds, r, hR, ⟨f, rfl, rfl, hd, hp⟩, q⟩ := h
  obtain ⟨v1, _, rfl, h1, rfl⟩ := hR
  refine ⟨_, (pss_cons (ps_if (PW.pt (pw_or (pt_not (pt_val (pe_callB call_isi (by rfl) T.z_isinstance (by decide +kernel) (pa_cons (pv 0) (pa_cons (pe_bltn (v := .ty "tuple") (by rfl) T.z_tuple (by decide +kernel) rfl) pa_nil))))) (pw_or (pt_cmpR op_lt (pe_callB cr_len (by rfl) T.z_len (by decide +kernel) (pa_cons (pv 0) pa_nil)) pe_int (nomark _)) (pw_or1 (pt_not (pt_val (pe_callB call_isi (by rfl) T.z_isinstance (by decide +kernel) (pa_cons (pe_ix ix_tup (pv 0) pe_int (fun _ _ => rfl)) (pa_cons (pe_bltn (v := .ty "str") (by rfl) T.z_str (by decide +kernel) rfl) pa_nil))))))))) (pss_one (ps_ret pe_bl)) pss_nil) (pss_cons (ps_if (pt_cmpR (op_eqP (un_of hr)) (pe_ix ix_tup (pv 0) pe_int (fun _ _ => rfl)) pe_str (nomark _)) (pss_one (ps_ret (pe_and (pe_cmpR (op_eqP (un_of hr)) (pe_callB cr_len (by rfl) T.z_len (by decide +kernel) (pa_cons (pv 0) pa_nil)) pe_int (nomark _)) (pe_one (pe_df D__law_whole (hr.mono (by omega)) (by rfl) pass0 (pa_cons (pe_ix ix_tup (pv 0) pe_int (fun _ _ => rfl)) pa_nil)))))) pss_nil) (pss_cons (ps_if (PW.pt (pw_or (pt_cmpR (op_neP (un_of hr)) (pe_ix ix_tup (pv 0) pe_int (fun _ _ => rfl)) pe_str (nomark _)) (pw_or (pt_cmpR (op_neP (un_of hr)) (pe_callB cr_len (by rfl) T.z_len (by decide +kernel) (pa_cons (pv 0) pa_nil)) pe_int (nomark _)) (pw_or (pt_not (pt_val (pe_callB call_isi (by rfl) T.z_isinstance (by decide +kernel) (pa_cons (pe_ix ix_tup (pv 0) pe_int (fun _ _ => rfl)) (pa_cons (pe_bltn (v := .ty "str") (by rfl) T.z_str (by decide +kernel) rfl) pa_nil))))) (pw_or1 (pt_not (pt_val (pe_callB call_isi (by rfl) T.z_isinstance (by decide +kernel) (pa_cons (pe_ix ix_tup (pv 0) pe_int (fun _ _ => rfl)) (pa_cons (pe_bltn (v := .ty "tuple") (by rfl) T.z_tuple (by decide +kernel) rfl) pa_nil)))))))))) (pss_one (ps_ret pe_bl)) pss_nil) (pss_one (ps_ret (pe_cmpR (op_eqP (un_of hr)) (pe_callB cr_len (by rfl) T.z_len (by decide +kernel) (pa_cons (pe_lc (own := [("part", 1)]) (g := gName 1) (by rfl) sc__law_is_form.nd (pi_tup (pe_ix ix_tup (pv 0) pe_int (fun _ _ => rfl))) (blkOk_by (own := [("part", 1)]) (N := N__law_is_form) (sc := defScope s__law_is_form) (by decide +kernel)) (fun _ _ _ _ _ => pg_name (i := 1) sc__law_is_form.nd rfl (Or.inl rfl)) (fun _ _ _ _ _ => pts_one (pt_not (pt_val (pe_df D__law_is_form (hr.mono (by omega)) (by rfl) pass0 (pa_cons (pv 1) pa_nil))))) (fun _ _ _ _ _ => (pv 1))) pa_nil)) pe_int (nomark _))))))), ?_⟩
  refine EvR.run (d := .bool true) ?_ q
  have len2 : 2 ≤ f.arity := by cases f <;> simp [Fm.arity]
  refine er_skip ((et_or (et_not (et_B (ev_isi (ev_var rfl h1)))) fun _ => et_or (et_test (ev_lt (ev_cb (ea_cons (ev_var rfl h1) ea_nil) cd_lenF) ev_int)) fun _ => et_not (et_B (ev_isi (ev_f0 (ev_var rfl h1))))).to ?_) ?_
  · rw [Fm.tyN]
    cases f <;> rfl
  cases f with
  | gap k =>
    refine er_here (er_ifT (et_test (ev_isgap (f := .gap k) (ev_f0 (ev_var rfl h1)))) (er_ret ?_))
    exact (ev_and (ev_eq (ev_cb (ea_cons (ev_var rfl h1) ea_nil) (cd_lenF (f := .gap k))) ev_int (okD_int _) (okD_int _)) fun _ => ev_call (ea_cons (ev_f1 (f := .gap k) (ev_var rfl h1)) ea_nil) (spP.d ⟨_, rfl, rfl⟩)).to rfl
  | tie w ps =>
    refine er_skip (et_test (ev_isgap (f := .tie w ps) (ev_f0 (ev_var rfl h1)))) ?_
    have h2 := ev_f1 (K := K) (f := .tie w ps) (ev_var (i := 0) (σ := [some v1, none]) rfl h1)
    have h3 := ev_f2 (K := K) (ev_var (i := 0) (σ := [some v1, none]) rfl h1)
    have hps : ps.length ≤ 1000 := by
      simp only [Fm.ok, Bool.and_eq_true, decide_eq_true_eq] at hp
      omega
    refine er_skip ((et_or (et_test (ev_nottie (f := .tie w ps) (ev_f0 (ev_var rfl h1)))) fun _ => et_or (et_test (ev_ne (ev_cb (ea_cons (ev_var rfl h1) ea_nil) (cd_lenF (f := .tie w ps))) ev_int (okD_int _) (okD_int _))) fun _ => et_or (et_not (et_B (ev_isi h2))) fun _ => et_not (et_B (ev_isi h3))).to ?_) ?_
    · rfl
    refine er_ret ((ev_eq (ev_cb (ea_cons (ev_lc ps Fm.d (ei_tup h3 Fm.immL_d).j (fun _ => false) Fm.d (fun x hx v H1 s1 r1 => ⟨?_, fun z => by cases z⟩) (fun x _ => Fm.imm_d _) hps) ea_nil) cd_lenL) ev_int (okD_int _) (okD_int _)).to ?_)
    · refine et_not (et_B (ev_call (d := .bool true) (ea_cons (ev_var rfl r1) ea_nil) (spP.d ⟨x, rfl, rfl, ?_, ?_⟩)))
      · have := Fm.dep_part hx
        simp only [Fm.dep] at hd
        omega
      · simp only [Fm.ok, Bool.and_eq_true] at hp
        exact Fm.ok_part hp.2 hx
    · rw [List.filter_eq_nil_iff.mpr fun _ _ => by simp]; rfl
end
section
variable {P : Program} {w : World} {K : PySem.W.Frag} {mg : Str → Option Value} {base : Heap}
theorem ok_law_text (T : Tp K mg) : ∀ n, Df P w K mg base CX0 n "_law_text" ["form"] (spText n) := by
  refine T.b__law_text.rec spText.no fun n D__law_text => ?_
  refine T.b__law_text.ok sc__law_text spText.len (fun fa cdv A outer s H vs Q E hr h => ?_)
  obtain ⟨ds, r, hR, ⟨f, rfl, rfl, hd, hf, hok, hs, hd9⟩, q⟩ := h
  obtain ⟨v1, _, rfl, h1, rfl⟩ := hR
  refine ⟨_, (pss_cons (ps_if (pt_cmpR (op_eqP (un_of hr)) (pe_ix ix_tup (pv 0) pe_int (fun _ _ => rfl)) pe_str (nomark _)) (pss_one (ps_ret (pe_op op_addS pe_str (pe_callTy cr_strI (by rfl) T.z_str (by decide +kernel) (pa_cons (pe_ix ix_tup (pv 0) pe_int (fun _ _ => rfl)) pa_nil))))) pss_nil) (pss_cons (ps_if (pt_cmpR (op_eqP (un_of hr)) (pe_ix ix_tup (pv 0) pe_int (fun _ _ => rfl)) (pe_tup pa_nil) (nomark _)) (pss_one (ps_ret (pe_ix ix_tup (pv 0) pe_int (fun _ _ => rfl)))) pss_nil) (pss_one (ps_ret (pe_op op_addS (pe_op op_addS (pe_op op_addS (pe_ix ix_tup (pv 0) pe_int (fun _ _ => rfl)) pe_str) (pe_joinR pe_str (pe_lc (own := [("part", 1)]) (g := gName 1) (by rfl) sc__law_text.nd (pi_tup (pe_ix ix_tup (pv 0) pe_int (fun _ _ => rfl))) (blkOk_by (own := [("part", 1)]) (N := N__law_text) (sc := defScope s__law_text) (by decide +kernel)) (fun _ _ _ _ _ => pg_name (i := 1) sc__law_text.nd rfl (Or.inl rfl)) (fun _ _ _ _ _ => pts_nil) (fun _ _ _ _ _ => (pe_df D__law_text (hr.mono (by omega)) (by rfl) pass0 (pa_cons (pv 1) pa_nil)))))) pe_str))))), ?_⟩
  have el : (("," : Str)).length = 1 := by decide +kernel
  cases f with
  | gap k =>
    simp only [fine, Bool.and_eq_true, decide_eq_true_eq] at hf
    obtain ⟨m, rfl⟩ : ∃ m : Nat, k = (m : Int) := ⟨k.toNat, by omega⟩
    have hlen : (TL.numL m).length ≤ 3 := TL.numL_len (by decide) (by omega)
    refine w_guard (et_test (ev_isgap (f := .gap m) (ev_f0 (ev_var rfl h1)))) (fun _ H1 s1 => ?_) (fun z => by cases z)
    refine w_ret ((ev_addS (l := [63]) (m := TL.numL m) (ev_strL.to (by rw [show ("?" : Str).cps.toList = [63] by decide +kernel])) ((ev_cb (ea_cons (ev_f1 (f := .gap m) (ev_var rfl (h1.mono s1))) ea_nil) (cd_strI ?_)).to ?_) (by simp only [List.length_cons, List.length_nil]; omega)).to (by rw [tx]; rfl)) fun v H2 s2 r2 => q v H2 (s1.trans s2) r2
    · have : m.log2 ≤ m := Nat.log2_le_self m
      show (m : Int).natAbs.log2 < 1920
      rw [Int.natAbs_natCast]
      omega
    · show PyData.str (Str.ofString (toString (m : Int))) = _
      rw [SX.num_S]; rfl
  | tie w ps =>
    have hf0 := hf
    simp only [fine, Bool.and_eq_true, decide_eq_true_eq] at hf
    have hok0 := hok
    simp only [Fm.ok, Bool.and_eq_true, decide_eq_true_eq] at hok
    simp only [Fm.dep] at hd hd9
    have okps : okD (.tuple (ps.map Fm.d)) = true := okD_parts hok.2 (by omega)
    obtain ⟨w1, w2, w3⟩ := word_facts hf.1.1
    refine w_pass (et_test (ev_isgap (f := .tie w ps) (ev_f0 (ev_var rfl h1)))) fun H1 s1 => ?_
    refine w_guard (b := decide (ps = [])) ((et_test (ev_eq (e := .tuple []) (ev_f2 (ev_var rfl (h1.mono s1))) (ev_tup ea_nil (Nat.zero_le _)) okps (okD_tints []))).to ?_) (fun c H2 s2 => ?_) (fun c H2 s2 => ?_)
    · cases ps with
      | nil => simp [PyData.eqv, PyData.eqvAll]
      | cons p ps => simp [PyData.eqv, PyData.eqvAll]; try omega
    · rw [decide_eq_true_eq] at c
      subst c
      rw [tx, sO_of] at q
      exact w_ret (ev_f1 (f := .tie w []) (ev_var rfl ((h1.mono s1).mono s2))) fun v H3 s3 r3 => q v H3 ((s1.trans s2).trans s3) r3
    · rw [decide_eq_false_iff_not] at c
      obtain ⟨p, ps, rfl⟩ := List.exists_cons_of_ne_nil c
      have hlx := tx_len _ hf0
      rw [tx] at hlx q
      simp only [List.length_append, List.length_cons, List.length_nil] at hlx
      have h13 := (h1.mono s1).mono s2
      have sumL : ∀ fs : List Fm, ((fs.map fun f => sO (tx f)).map (·.length)).sum + fs.length = (txC fs).length := fun fs => by
        induction fs with
        | nil => rfl
        | cons f fs ih => simp only [List.map_cons, List.sum_cons, List.length_cons, txC, List.length_append, sO_len] at ih ⊢; omega
      have := sumL ps
      refine w_ret ((ev_addS (l := w.cps.toList ++ [40] ++ (tx p ++ txC ps)) (m := [41]) (ev_addS (l := w.cps.toList ++ [40]) (m := tx p ++ txC ps) (ev_addS (l := w.cps.toList) (m := [40]) ((ev_f1 (f := .tie w (p :: ps)) (ev_var rfl h13)).to (by rw [sO_of]; rfl)) (ev_strL.to (by rw [show ("(" : Str).cps.toList = [40] by decide +kernel])) (by simp only [List.length_singleton]; omega))
        ((ev_join (a := ",") (ys := (p :: ps).map fun f => sO (tx f)) ev_str ((ev_lc1 (p :: ps) Fm.d (fun f => .str (sO (tx f))) (ei_tup (ev_f2 (ev_var rfl h13)) Fm.immL_d).j (fun x hx v H4 s4 r4 => ?_) (fun _ _ => rfl) (by omega)).to (by rw [List.map_map]; rfl)) ?_).to (by rw [join_tx])) ?_) (ev_strL.to (by rw [show (")" : Str).cps.toList = [41] by decide +kernel])) ?_).to (by congr 2; simp)) fun v H3 s3 r3 => q v H3 ((s1.trans s2).trans s3) r3
      · have := Fm.dep_part hx
        have hsx : ∀ (fs : List Fm) (f : Fm), f ∈ fs → f.sg ≤ Fm.sgL fs := fun fs => by
          induction fs with
          | nil => intro f h; cases h
          | cons g fs ih =>
            intro f h
            simp only [Fm.sgL]
            rcases List.mem_cons.mp h with rfl | h
            · omega
            · have := ih f h; omega
        have := hsx _ _ hx
        simp only [Fm.sg] at hs
        exact ev_call (ea_cons (ev_var rfl r4) ea_nil) (spP.d ⟨x, rfl, rfl, by omega, fine_part hf.2 hx, Fm.ok_part hok.2 hx, by omega, by omega⟩)
      · rw [el]
        simp only [List.map_cons, List.sum_cons, List.length_cons, List.length_map, sO_len]
        omega
      · simp only [List.length_append, List.length_cons, List.length_nil]; omega
      · simp only [List.length_append, List.length_cons, List.length_nil]; omega
end
section
variable {P : Program} {w : World} {K : PySem.W.Frag} {mg : Str → Option Value} {base : Heap}
theorem ok_law_worded (T : Tp K mg) : ∀ n, Df P w K mg base CX0 n "_law_worded" ["form", "cell"] (spWorded n) := by
  refine T.b__law_worded.rec spWorded.no fun n D__law_worded => ?_
  refine T.b__law_worded.ok sc__law_worded spWorded.len (fun fa cdv A outer s H vs Q E hr h => ?_)
  obtain ⟨ds, r, hR, ⟨f, c, many, rfl, rfl, hd, hgd⟩, q⟩ := h
  obtain ⟨v1, _, rfl, h1, v2, _, rfl, h2, rfl⟩ := hR
  cases (show v2 = V.int c from h2)
  refine ⟨_, (pss_cons (ps_if (pt_cmpR (op_eqP (un_of hr)) (pe_ix ix_tup (pv 0) pe_int (fun _ _ => rfl)) pe_str (nomark _)) (pss_one (ps_ret (pv 0))) pss_nil) (pss_cons (ps_set (i := 2) sc__law_worded.nd rfl (by first | exact Or.inl rfl | exact Or.inr rfl) pe_str) (pss_cons (ps_set (i := 3) sc__law_worded.nd rfl (by first | exact Or.inl rfl | exact Or.inr rfl) (pe_bm PySem.F.plainAttrs_list PySem.F.slot_list_index PySem.F.type_list_index (mt_indexD (un65 hr)) (pe_lst (pa_cons pe_str (pa_cons pe_str (pa_cons pe_str (pa_cons pe_str pa_nil))))) (pa_cons (pe_ix ix_tup (pv 0) pe_int (fun _ _ => rfl)) pa_nil))) (pss_cons (ps_set (i := 4) sc__law_worded.nd rfl (by first | exact Or.inl rfl | exact Or.inr rfl) (pe_joinR pe_str (pe_lc (own := [("j", 5)]) (g := gName 5) (by rfl) sc__law_worded.nd (pi_range1 (by rfl) T.z_range (pa_cons (pe_op op_add pe_int (pe_op op_modN (pe_op op_fdivN (pv 1) pe_int) pe_int)) pa_nil)) (blkOk_by (own := [("j", 5)]) (N := N__law_worded) (sc := defScope s__law_worded) (by decide +kernel)) (fun _ _ _ _ _ => pg_name (i := 5) sc__law_worded.nd rfl (Or.inl rfl)) (fun _ _ _ _ _ => pts_nil) (fun _ _ _ _ _ => (pe_ix ix_str (pv 2) (pe_op op_modN (pe_op op_add (pe_op op_add (pv 1) (pe_op op_mul pe_int (pv 3))) (pe_op op_mul pe_int (pv 5))) pe_int) (fun _ _ => rfl)))))) (pss_one (ps_ret (pe_tup (pa_cons pe_str (pa_cons (pv 4) (pa_cons (pe_callTy cr_tuple (by rfl) T.z_tuple (by decide +kernel) (pa_cons (pe_lc (own := [("part", 6)]) (g := gName 6) (by rfl) sc__law_worded.nd (pi_tup (pe_ix ix_tup (pv 0) pe_int (fun _ _ => rfl))) (blkOk_by (own := [("part", 6)]) (N := N__law_worded) (sc := defScope s__law_worded) (by decide +kernel)) (fun _ _ _ _ _ => pg_name (i := 6) sc__law_worded.nd rfl (Or.inl rfl)) (fun _ _ _ _ _ => pts_nil) (fun _ _ _ _ _ => (pe_df D__law_worded (hr.mono (by omega)) (by rfl) pass0 (pa_cons (pv 6) (pa_cons (pv 1) pa_nil))))) pa_nil)) pa_nil)))))))))), ?_⟩
  cases f with
  | gap k =>
    refine w_guard (et_test (ev_isgap (f := .gap k) (ev_f0 (ev_var rfl h1)))) (fun _ H1 s1 => ?_) (fun z => by cases z)
    exact w_ret (ev_var rfl (h1.mono s1)) fun v H2 s2 r2 => q v H2 (s1.trans s2) r2
  | tie x ps =>
    refine w_pass (et_test (ev_isgap (f := .tie x ps) (ev_f0 (ev_var rfl h1)))) fun H1 s1 => ?_
    simp only [Fm.gd, Bool.and_eq_true, decide_eq_true_eq] at hgd
    simp only [Fm.dep] at hd
    refine w_sset (d := .str letters) ev_str fun v3 H2 s2 r3 => ?_
    cases (show v3 = V.str letters from r3)
    have h12 := (h1.mono s1).mono s2
    -- the place
    have hpl : SeqAt.shaped (.list (wordsL.map PyData.str)) = true := by decide +kernel
    have hx := hgd.1.1
    have hsx : SeqAt.shaped (.str x) = true := by
      have hh : ∀ y, y ∈ wordsL → SeqAt.shaped (.str y) = true := by decide +kernel
      exact hh x hx
    have hix : (wordsL.map PyData.str)[placeOf x]? = some (.str x) ∧ PyData.eqv (.str x) (.str x) = true ∧ ∀ (m : Nat) (z' : PyData), m < placeOf x → (wordsL.map PyData.str)[m]? = some z' → PyData.eqv z' (.str x) = false := by
      simp only [wordsL, List.mem_cons, List.not_mem_nil, or_false] at hx
      rcases hx with rfl | rfl | rfl | rfl
      · exact ⟨rfl, by decide +kernel, fun m z hm => absurd hm (by rw [show placeOf "a" = 0 by decide +kernel]; omega)⟩
      · refine ⟨by rw [show placeOf "ab" = 1 by decide +kernel]; rfl, by decide +kernel, fun m z hm e => ?_⟩
        rw [show placeOf "ab" = 1 by decide +kernel] at hm
        obtain rfl : m = 0 := by omega
        cases e; decide +kernel
      · refine ⟨by rw [show placeOf "f" = 2 by decide +kernel]; rfl, by decide +kernel, fun m z hm e => ?_⟩
        rw [show placeOf "f" = 2 by decide +kernel] at hm
        obtain rfl | rfl : m = 0 ∨ m = 1 := by omega
        · cases e; decide +kernel
        · cases e; decide +kernel
      · refine ⟨by rw [show placeOf "fg" = 3 by decide +kernel]; rfl, by decide +kernel, fun m z hm e => ?_⟩
        rw [show placeOf "fg" = 3 by decide +kernel] at hm
        obtain rfl | rfl | rfl : m = 0 ∨ m = 1 ∨ m = 2 := by omega
        · cases e; decide +kernel
        · cases e; decide +kernel
        · cases e; decide +kernel
    refine w_sset (d := .int (placeOf x : Nat)) (ev_indexD (ds := wordsL.map PyData.str) (d := .str x) (ev_lst (ea_cons ev_str (ea_cons ev_str (ea_cons ev_str (ea_cons ev_str ea_nil)))) (by decide)) (ev_f1 (f := .tie x ps) (ev_var (i := 0) rfl h12)) hpl hsx hix.1 hix.2.1 hix.2.2) fun v4 H3 s3 r4 => ?_
    cases (show v4 = V.int (placeOf x : Nat) from r4)
    -- the word
    have hn0 : 0 ≤ c / 26 % 8 := Int.emod_nonneg _ (by decide)
    have hn1 : c / 26 % 8 < 8 := Int.emod_lt_of_pos _ (by decide)
    have hn : (1 + c / 26 % 8) = ((1 + (c / 26 % 8).toNat : Nat) : Int) := by omega
    have el : (letters).length ≤ sizeLine := by rw [show letters.length = 26 by decide +kernel]; decide
    refine w_sset (d := .str (wordAt c (placeOf x))) ((ev_join (a := "") (ys := ((List.range (1 + (c / 26 % 8).toNat)).map fun (j : Nat) => letAt (c + 5 * (placeOf x : Nat) + 3 * j)).map fun c => (⟨#[c]⟩ : Str)) ev_str ((ev_lc1 (List.range (1 + (c / 26 % 8).toNat)) (fun (i : Nat) => .int (i : Int)) (fun j => .str ⟨#[letAt (c + 5 * (placeOf x : Nat) + 3 * j)]⟩) (ei_range1 (n := 1 + (c / 26 % 8).toNat) ((ev_add ev_int (ev_mod (ev_div (ev_var (i := 1) (d := .int c) rfl rfl) ev_int (by decide)) ev_int (by decide))).to (by rw [hn])) (by omega)).j (fun j hj v H1 s1 r1 => ?_) (fun _ _ => rfl) (by rw [List.length_range]; omega)).to (by rw [List.map_map, List.map_map]; rfl)) ?_).to (by rw [join_singles]; rfl)) fun v5 H4 s4 r5 => ?_
    · cases (show v = V.int j from r1)
      refine ev_ixS (z := letters) (i := (c + 5 * (placeOf x : Nat) + 3 * j) % 26) (ev_var (i := 2) rfl rfl) (ev_mod (ev_add (ev_add (ev_var (i := 1) (d := .int c) rfl rfl) (ev_mul ev_int (ev_var (i := 3) (d := .int (placeOf x : Nat)) rfl rfl) (.inl ⟨by decide, by decide⟩))) (ev_mul ev_int (ev_var (i := 5) (d := .int j) rfl rfl) (.inl ⟨by decide, by decide⟩))) ev_int (by decide)) el ?_
      have h0 : 0 ≤ (c + 5 * (placeOf x : Nat) + 3 * j) % 26 := Int.emod_nonneg _ (by decide)
      rw [show (c + 5 * (placeOf x : Nat) + 3 * j) % 26 = ((((c + 5 * (placeOf x : Nat) + 3 * j) % 26).toNat : Nat) : Int) by omega]
      exact atI_nat (letAt_get _)
    · have e1 : ∀ l : List Nat, (l.map fun c => (⟨#[c]⟩ : Str)).map (·.length) = l.map fun _ => 1 := fun l => by rw [List.map_map]; rfl
      rw [e1, List.length_map, List.length_map, List.length_range, show ("" : Str).length = 0 from rfl, Nat.mul_zero, Nat.add_zero]
      have e2 : ∀ l : List Nat, (l.map fun _ => 1).sum = l.length := fun l => by induction l with
        | nil => rfl
        | cons a l ih => simp [ih]; omega
      rw [e2, List.length_map, List.length_range]; omega
    · cases (show v5 = V.str _ from r5)
      have h14 := (h12.mono s3).mono s4
      have e : (worded c (.tie x ps)).d = .tuple [.str "tie", .str (wordAt c (placeOf x)), .tuple (ps.map fun p => (worded c p).d)] := by
        rw [worded, Fm.d, Fm.dL_map, wordedL_map, List.map_map]; rfl
      rw [e] at q
      refine w_ret (ev_tup (ea_cons ev_str (ea_cons (ev_var (i := 4) (d := .str (wordAt c (placeOf x))) rfl rfl) (ea_cons (ev_cb (ea_cons (ev_lc1 ps Fm.d (fun p => (worded c p).d) (ei_tup (ev_f2 (ev_var (i := 0) rfl h14)) Fm.immL_d).j (fun y hy v H1 s1 r1 => ?_) (fun y _ => Fm.imm_d _) (by omega)) ea_nil) cd_tupleL) ea_nil)))) fun v6 H6 s6 r6 => q v6 H6 ((((s1.trans s2).trans s3).trans s4).trans s6) r6
      have := Fm.dep_part hy
      exact ev_call (ea_cons (ev_var rfl r1) (ea_cons (ev_var (i := 1) (d := .int c) rfl rfl) ea_nil)) (spP.d ⟨y, c, many, rfl, rfl, by omega, Fm.gd_part hgd.2 hy⟩)
end
section
variable {P : Program} {w : World} {K : PySem.W.Frag} {mg : Str → Option Value} {base : Heap}
theorem ok_law_great (T : Tp K mg) : Df P w K mg base CX0 60 "_law_great" ["cell"] spGreatR := by
  have D__law_signs := ok_law_signs (P := P) (w := w) (base := base) T 50
  refine T.b__law_great.ok sc__law_great spGreatR.len (fun fa cdv A outer s H vs Q E hr h => ?_)
  obtain ⟨c, rfl, q⟩ := h
  refine ⟨_, (pss_cons (ps_set (i := 1) sc__law_great.nd rfl (by first | exact Or.inl rfl | exact Or.inr rfl) (pe_tup (pa_cons pe_str (pa_cons pe_int pa_nil)))) (pss_cons (ps_for PassesOwn.never rfl (pi_range1 (by rfl) T.z_range (pa_cons (pe_op op_add pe_int (pe_op op_modN (pe_op op_fdivN (pv 0) pe_int) pe_int)) pa_nil)) (pg_name (i := 2) sc__law_great.nd rfl (by first | exact Or.inl rfl | exact Or.inr rfl)) (pss_one (ps_set (i := 1) sc__law_great.nd rfl (by first | exact Or.inl rfl | exact Or.inr rfl) (pe_tup (pa_cons pe_str (pa_cons pe_str (pa_cons (pe_tup (pa_cons (pv 1) pa_nil)) pa_nil))))))) (pss_cons (ps_if (pt_cmpR (op_eqP (un_of hr)) (pe_op op_modN (pv 0) pe_int) pe_int (nomark _)) (pss_one (ps_ret (pe_tup (pa_cons (pv 1) (pa_cons (pe_cmpR op_lt (pe_op op_modN (pe_op op_fdivN (pv 0) pe_int) pe_int) pe_int (nomark _)) pa_nil))))) pss_nil) (pss_cons (ps_set (i := 3) sc__law_great.nd rfl (by first | exact Or.inl rfl | exact Or.inr rfl) (pe_tup (pa_cons pe_str (pa_cons pe_str (pa_cons (pe_tup pa_nil) pa_nil))))) (pss_cons (ps_set (i := 4) sc__law_great.nd rfl (by first | exact Or.inl rfl | exact Or.inr rfl) (pe_tup (pa_cons pe_str (pa_cons pe_str (pa_cons (pe_tup (pa_cons (pv 3) (pa_cons (pv 3) (pa_cons (pv 3) (pa_cons (pv 3) pa_nil))))) pa_nil))))) (pss_cons (ps_set (i := 1) sc__law_great.nd rfl (by first | exact Or.inl rfl | exact Or.inr rfl) (pe_tup (pa_cons pe_str (pa_cons pe_str (pa_cons (pe_tup (pa_cons (pv 4) (pa_cons (pv 4) (pa_cons (pv 4) (pa_cons (pv 4) pa_nil))))) pa_nil))))) (pss_cons (ps_set (i := 1) sc__law_great.nd rfl (by first | exact Or.inl rfl | exact Or.inr rfl) (pe_tup (pa_cons pe_str (pa_cons pe_str (pa_cons (pe_tup (pa_cons (pv 1) (pa_cons (pv 1) (pa_cons (pv 1) (pa_cons (pv 1) pa_nil))))) pa_nil))))) (pss_cons (ps_set (i := 1) sc__law_great.nd rfl (by first | exact Or.inl rfl | exact Or.inr rfl) (pe_tup (pa_cons pe_str (pa_cons pe_str (pa_cons (pe_tup (pa_cons (pv 1) (pa_cons (pe_tup (pa_cons pe_str (pa_cons pe_str (pa_cons (pe_tup (pa_cons (pv 1) (pa_cons (pe_tup (pa_cons pe_str (pa_cons pe_str (pa_cons (pe_tup (pa_cons (pv 4) (pa_cons (pv 3) (pa_cons (pv 4) pa_nil)))) pa_nil)))) pa_nil))) pa_nil)))) pa_nil))) pa_nil))))) (pss_cons (ps_while PassesOwn.never (pt_cmpR op_lt (pe_df D__law_signs (hr.mono (by omega)) (by rfl) pass0 (pa_cons (pv 1) pa_nil)) (pe_op op_add pe_int (pe_op op_modN (pe_op op_fdivN (pv 0) pe_int) pe_int)) (nomark _)) (pss_one (ps_set (i := 1) sc__law_great.nd rfl (by first | exact Or.inl rfl | exact Or.inr rfl) (pe_tup (pa_cons pe_str (pa_cons pe_str (pa_cons (pe_tup (pa_cons (pv 1) pa_nil)) pa_nil))))))) (pss_one (ps_ret (pe_tup (pa_cons (pv 1) (pa_cons (pe_cmpR op_lt (pe_df D__law_signs (hr.mono (by omega)) (by rfl) pass0 (pa_cons (pv 1) pa_nil)) pe_int (nomark _)) pa_nil)))))))))))))), ?_⟩
  have t : ∀ {te : TE} {σ : L2.St} {H' : Hp} {x : Str} {ps : List Fm}, EvD te σ H' (.tuple (Fm.dL ps)) → EvD (tTup (tCons (tC (.str "tie")) (tCons (tC (.str x)) (tCons te tNil)))) σ H' (Fm.tie x ps).d := fun h => ev_tup (ea_cons ev_str (ea_cons ev_str (ea_cons h ea_nil))) (show 3 ≤ 1000 by decide)
  have h0 : 0 ≤ c / 2 % 4 := Int.emod_nonneg _ (by decide)
  have h1 : c / 2 % 4 < 4 := Int.emod_lt_of_pos _ (by decide)
  obtain ⟨k, hk⟩ : ∃ k : Nat, c / 2 % 4 = (k : Int) := ⟨(c / 2 % 4).toNat, by omega⟩
  refine w_sset (d := (Fm.gap 3).d) (ev_tup (ea_cons ev_str (ea_cons ev_int ea_nil))) fun v2 H1 s1 r1 => ?_
  refine w_sfor (ei_range1 (n := 38 + k) ((ev_add ev_int (ev_mod (ev_div (ev_var (i := 0) (d := .int c) rfl rfl) ev_int (by decide)) ev_int (by decide))).to (by rw [hk]; rfl)) (by omega)) fun H2 s2 => ?_
  refine ⟨fun i σ' H' => ∃ v x, σ' = [some (.int c), some v, x, none, none] ∧ Same H H' ∧ Rp H' (wrapF "f" i (.gap 3)).d v, ⟨v2, none, rfl, s1.trans s2, r1.mono s2⟩, ?_, ?_⟩
  · rintro i d x σ' H' H3 ed kt ⟨v, y, rfl, sH, rv⟩ sx rx
    refine w_set (d := (wrapF "f" (i + 1) (.gap 3)).d) (t (ps := [wrapF "f" i (.gap 3)]) (ev_tup (ea_cons (ev_var (i := 1) rfl (rv.mono sx)) ea_nil) (show 1 ≤ 1000 by decide))) fun v4 H4 s4 r4 => ?_
    exact ⟨(kt.trans (KT.of sx)).trans (KT.of s4), v4, _, rfl, (sH.trans sx).trans s4, r4⟩
  · rintro σ' H' kt ⟨v, y, rfl, sH, rv⟩
    rw [List.length_map, List.length_range] at rv
    obtain ⟨a1, a2, a3, a4, a5⟩ := wrapF_inv (38 + k) (.gap 3)
    have fn := a5 (by decide)
    simp only [Fm.dep] at a1
    simp only [Fm.sg] at a2
    refine w_guard (et_test (ev_eq (ev_mod (ev_var (i := 0) (d := .int c) rfl rfl) ev_int (by decide)) ev_int (okD_int _) (okD_int _))) (fun _ H3 s3 => ?_) (fun _ H3 s3 => ?_)
    · refine w_ret (d := .tuple [(wrapF "f" (38 + k) (.gap 3)).d, .bool (decide ((k : Int) < 2))]) (ev_tup (ea_cons (ev_var (i := 1) rfl (rv.mono s3)) (ea_cons ((ev_lt (ev_mod (ev_div (ev_var (i := 0) (d := .int c) rfl rfl) ev_int (by decide)) ev_int (by decide)) ev_int).to (by rw [hk])) ea_nil))) fun v5 H5 s5 r5 => ?_
      refine q _ _ v5 H5 ((sH.trans s3).trans s5) r5 fn (by omega) (by omega) ?_ ?_
      · by_cases hk2 : k < 2
        · rw [if_pos (decide_eq_true (by omega))]
          exact readO_tx fn (by omega) (by omega)
        · rw [if_neg (by rw [decide_eq_false (by omega)]; decide)]
          exact read_deep (by omega)
      · by_cases hk2 : k < 2
        · exact .inl (by omega)
        · refine .inr ?_
          have := formA_deep 40 (38 + k) [] (by omega)
          rwa [List.append_nil] at this
    · -- a wide one
      have t0 : ∀ {σ : L2.St} {H' : Hp}, EvD (tTup tNil) σ H' (.tuple (Fm.dL [])) := ev_tup ea_nil (Nat.zero_le _)
      have tv : ∀ {ta : TA} {σ : L2.St} {H' : Hp} {ps : List Fm}, EvA ta σ H' (Fm.dL ps) → ps.length ≤ 10 → EvD (tTup ta) σ H' (.tuple (Fm.dL ps)) := fun h hl => ev_tup h (by rw [Fm.dL_map, List.length_map]; omega)
      refine w_sset (d := (Fm.tie "a" []).d) (t t0) fun v3 H4 s4 r4 => ?_
      refine w_sset (d := rowF.d) (t (tv (ps := [.tie "a" [], .tie "a" [], .tie "a" [], .tie "a" []]) (ea_cons (ev_var (i := 3) rfl r4) (ea_cons (ev_var (i := 3) rfl r4) (ea_cons (ev_var (i := 3) rfl r4) (ea_cons (ev_var (i := 3) rfl r4) ea_nil)))) (by decide))) fun v4 H5 s5 r5 => ?_
      refine w_sset (d := gF.d) (t (tv (ps := [rowF, rowF, rowF, rowF]) (ea_cons (ev_var (i := 4) rfl r5) (ea_cons (ev_var (i := 4) rfl r5) (ea_cons (ev_var (i := 4) rfl r5) (ea_cons (ev_var (i := 4) rfl r5) ea_nil)))) (by decide))) fun v5 H6 s6 r6 => ?_
      refine w_sset (d := hF.d) (t (tv (ps := [gF, gF, gF, gF]) (ea_cons (ev_var (i := 1) rfl r6) (ea_cons (ev_var (i := 1) rfl r6) (ea_cons (ev_var (i := 1) rfl r6) (ea_cons (ev_var (i := 1) rfl r6) ea_nil)))) (by decide))) fun v6 H7 s7 r7 => ?_
      have r47 := ((r4.mono s5).mono s6).mono s7
      have r57 := (r5.mono s6).mono s7
      refine w_sset (d := baseF.d) (t (tv (ps := [hF, .tie "f" [hF, .tie "f" [rowF, .tie "a" [], rowF]]]) (ea_cons (ev_var (i := 1) rfl r7) (ea_cons (t (tv (ps := [hF, .tie "f" [rowF, .tie "a" [], rowF]]) (ea_cons (ev_var (i := 1) rfl r7) (ea_cons (t (tv (ps := [rowF, .tie "a" [], rowF]) (ea_cons (ev_var (i := 4) rfl r57) (ea_cons (ev_var (i := 3) rfl r47) (ea_cons (ev_var (i := 4) rfl r57) ea_nil))) (by decide))) ea_nil)) (by decide))) ea_nil)) (by decide))) fun v7 H8 s8 r8 => ?_
      obtain ⟨b1, b2, b3⟩ := baseF_ok
      generalize baseF = G at r8 b1 b2 b3
      obtain ⟨o1, o2, o3⟩ := fine_ok G b1
      have x0 : 0 ≤ c / 2 % 6 := Int.emod_nonneg _ (by decide)
      have x1 : c / 2 % 6 < 6 := Int.emod_lt_of_pos _ (by decide)
      have sH8 := (((((sH.trans s3).trans s4).trans s5).trans s6).trans s7).trans s8
      refine w_swhile (m := 300) (fun m σ' H' => ∃ (k : Nat) (v z3 z4 : V) (z2 : Option V), σ' = [some (.int c), some v, z2, some z3, some z4] ∧ m = 300 - k ∧ k ≤ 20 ∧ (k : Int) + 184 ≤ 198 + c / 2 % 6 ∧ Same H H' ∧ Rp H' (wrapF "f" k G).d v) ⟨0, v7, _, _, _, rfl, by simp, by omega, by omega, sH8, r8⟩ ?_
      rintro m σ' H' ⟨k, v, z3, z4, z2, rfl, rfl, hk, hk2, sH, rv⟩
      obtain ⟨a1, a2, a3, a4, a5⟩ := wrapF_inv k G
      have okW := a3 o1
      have fnW := a5 b1
      have sgn : ∀ {σ : L2.St} {H' : Hp}, EvD (tVar 1) σ H' (wrapF "f" k G).d → EvD (tCall (spSigns 50) [] E0 (tCons (tVar 1) tNil)) σ H' (.int (wrapF "f" k G).sg) := fun h => ev_call (ea_cons h ea_nil) (spP.d ⟨_, rfl, rfl, by omega, okW⟩)
      refine ⟨_, et_test (ev_lt (sgn (ev_var (i := 1) rfl rv)) (ev_add ev_int (ev_mod (ev_div (ev_var (i := 0) (d := .int c) rfl rfl) ev_int (by decide)) ev_int (by decide)))), fun c1 H3 s3 => ?_, fun c1 H3 s3 => ?_⟩
      · rw [decide_eq_true_eq, a2] at c1
        refine w_set (d := (wrapF "f" (k + 1) G).d) (t (ps := [wrapF "f" k G]) (ev_tup (ea_cons (ev_var (i := 1) rfl (rv.mono s3)) ea_nil) (show 1 ≤ 1000 by decide))) fun v4 H4 s4 r4 => ?_
        exact ⟨_, by omega, k + 1, v4, z3, z4, z2, rfl, rfl, by omega, by omega, (sH.trans s3).trans s4, r4⟩
      · refine w_ret (d := .tuple [(wrapF "f" k G).d, .bool (decide (((wrapF "f" k G).sg : Int) < 201))]) (ev_tup (ea_cons (ev_var (i := 1) rfl (rv.mono s3)) (ea_cons (ev_lt (sgn (ev_var (i := 1) rfl (rv.mono s3))) ev_int) ea_nil))) fun v4 H4 s4 r4 => ?_
        refine q _ _ v4 H4 ((sH.trans s3).trans s4) r4 fnW (by omega) (by omega) ?_ (.inl (by omega))
        by_cases hb : (wrapF "f" k G).sg < 201
        · rw [if_pos (decide_eq_true (by omega))]
          exact readO_tx fnW (by omega) (by omega)
        · rw [if_neg (by rw [decide_eq_false (by omega)]; decide)]
          exact read_big fnW (by omega) (by omega)
theorem ok_law_read_great (T : Tp K mg) : Df P w K mg base CX0 92 "_law_read_great" ["cell"] spReadGreat := by
  have D__law_great := ok_law_great (P := P) (w := w) (base := base) T
  have D__law_told := ok_law_told (P := P) (w := w) (base := base) T
  have D__law_text := ok_law_text (P := P) (w := w) (base := base) T 50
  have D__law_is_form := ok_law_is_form (P := P) (w := w) (base := base) T 50
  refine T.b__law_read_great.ok sc__law_read_great spReadGreat.len (fun fa cdv A outer s H vs Q E hr h => ?_)
  obtain ⟨ds, r, hR, ⟨c, rfl, rfl⟩, q⟩ := h
  obtain ⟨v1, _, rfl, h1, rfl⟩ := hR
  cases (show v1 = V.int c from h1)
  refine ⟨_, (pss_cons (ps_asg (pe_df D__law_great (hr.mono (by omega)) (by rfl) pass0 (pa_cons (pv 0) pa_nil)) (pg_tup (by rfl) (pgs_cons (pg_name (i := 1) sc__law_read_great.nd rfl (by first | exact Or.inl rfl | exact Or.inr rfl)) (pgs_cons (pg_name (i := 2) sc__law_read_great.nd rfl (by first | exact Or.inl rfl | exact Or.inr rfl)) pgs_nil)))) (pss_cons (ps_set (i := 3) sc__law_read_great.nd rfl (by first | exact Or.inl rfl | exact Or.inr rfl) (pe_df D__law_told (hr.mono (by omega)) (by rfl) pass0 (pa_cons (pe_df D__law_text (hr.mono (by omega)) (by rfl) pass0 (pa_cons (pv 1) pa_nil)) pa_nil))) (pss_cons (ps_if (pt_val (pv 2)) (pss_one (ps_ret (pe_and (pe_df D__law_is_form (hr.mono (by omega)) (by rfl) pass0 (pa_cons (pv 3) pa_nil)) (pe_one (pe_cmpR (op_eqP (un_of hr)) (pv 3) (pv 1) (nomark _)))))) pss_nil) (pss_one (ps_ret (pe_cmpR (op_eqP (un_of hr)) (pv 3) (pe_lst (pa_cons pe_bl (pa_cons pe_bl (pa_cons pe_bl (pa_cons pe_bl pa_nil))))) (nomark _))))))), ?_⟩
  refine ⟨.int c, rfl, c, rfl, fun f b v H1 s1 r1 fn dp sg hread hdn => ?_⟩
  refine w_gtup2 r1 fun v2 v3 r2 r3 => ?_
  cases (show v3 = V.bl b from r3)
  dsimp only
  obtain ⟨okf, swf, lf⟩ := fine_ok f fn
  have tl := tx_len f fn
  have hok : ∀ g, formA 40 (tx f) = some (g, []) → g.ok = true ∧ g.sw = true := fun g hg => by
    rcases hdn with hd | hd
    · rw [formA_txN fn hd] at hg; cases hg; exact ⟨okf, swf⟩
    · rw [hd] at hg; cases hg
  refine w_sset (d := toldD (readO (tx f))) (ev_call (ds := [.str (sO (tx f))]) (ea_cons (ev_call (ea_cons (ev_var (i := 1) rfl r2) ea_nil) (spP.d ⟨f, rfl, rfl, by omega, fn, okf, by omega, by omega⟩)) ea_nil) (spP.d ⟨tx f, rfl, rfl, lf, by omega, hok⟩)) fun v4 H4 s4 r4 => ?_
  rw [hread] at r4
  have okd := Fm.okD okf (by omega)
  cases b with
  | true =>
    rw [if_pos rfl] at r4
    refine w_guard (et_test (ev_var (i := 2) (d := .bool true) rfl rfl)) (fun _ H5 s5 => ?_) (fun z => by cases z)
    exact w_ret (d := .bool true) ((ev_and (ev_call (ds := [f.d]) (d := .bool true) (ea_cons (ev_var (i := 3) rfl (r4.mono s5)) ea_nil) (spP.d ⟨f, rfl, rfl, by omega, okf⟩)) fun _ => ev_eq (d := f.d) (e := f.d) (ev_var (i := 3) rfl (r4.mono s5)) (ev_var (i := 1) rfl ((r2.mono s4).mono s5)) okd okd).to (by rw [(Fm.eqv_iff _ _).mpr rfl]; rfl)) fun v6 H6 s6 r6 => q v6 H6 (((s1.trans s4).trans s5).trans s6) r6
  | false =>
    rw [if_neg (by decide)] at r4
    refine w_pass (et_test (ev_var (i := 2) (d := .bool false) rfl rfl)) fun H5 s5 => ?_
    exact w_ret (d := .bool true) ((ev_eq (d := .list ([true, true, false, false].map .bool)) (ev_var (i := 3) rfl (r4.mono s5)) (ev_lst (ea_cons ev_bl (ea_cons ev_bl (ea_cons ev_bl (ea_cons ev_bl ea_nil))))) (by decide) (by decide)).to (congrArg PyData.bool (by simp [PyData.eqv, PyData.eqvAll]))) fun v6 H6 s6 r6 => q v6 H6 (((s1.trans s4).trans s5).trans s6) r6
end
section
variable {P : Program} {w : World} {K : PySem.W.Frag} {mg : Str → Option Value} {base : Heap}
theorem ok_law_due (T : Tp K mg) : Df P w K mg base CX0 3 "_law_due" ["text"] spDue := by
  have D__law_name := ok_law_name (P := P) (w := w) (base := base) T
  have D__law_leaf := ok_law_leaf (P := P) (w := w) (base := base) T
  refine T.b__law_due.ok sc__law_due spDue.len (fun fa cdv A outer s H vs Q E hr h => ?_)
  obtain ⟨ds, r0, hR, ⟨t, rfl, rfl, hl, okt⟩, q⟩ := h
  obtain ⟨v1, _, rfl, h1, rfl⟩ := hR
  cases (show v1 = V.str (sO t) from h1)
  refine ⟨_, (pss_cons (ps_set (i := 1) sc__law_due.nd rfl (by first | exact Or.inl rfl | exact Or.inr rfl) (pe_lst (pa_cons (pe_lst (pa_cons pe_str (pa_cons (pe_lst pa_nil) pa_nil))) pa_nil))) (pss_cons (ps_set (i := 2) sc__law_due.nd rfl (by first | exact Or.inl rfl | exact Or.inr rfl) pe_str) (pss_cons (ps_set (i := 3) sc__law_due.nd rfl (by first | exact Or.inl rfl | exact Or.inr rfl) pe_non) (pss_cons (ps_for PassesOwn.never rfl (pi_str (pe_op op_addS (pv 0) pe_str)) (pg_name (i := 4) sc__law_due.nd rfl (by first | exact Or.inl rfl | exact Or.inr rfl)) (pss_one (ps_if (pt_cmpR (op_eqP (un_of hr)) (pv 4) pe_str (nomark _)) (pss_cons (ps_if (PW.pt (pw_or (pt_cmp (pc_notN (pv 3))) (pw_or1 (pt_not (pt_val (pe_df D__law_name (hr.mono (by omega)) (by rfl) pass0 (pa_cons (pv 2) pa_nil))))))) (pss_one (ps_ret pe_non)) pss_nil) (pss_cons (ps_expr (pe_bm PySem.F.plainAttrs_list PySem.F.slot_list_append PySem.F.type_list_append mt_append (pv 1) (pa_cons (pe_lst (pa_cons (pv 2) (pa_cons (pe_lst pa_nil) pa_nil))) pa_nil))) (pss_one (ps_set (i := 2) sc__law_due.nd rfl (by first | exact Or.inl rfl | exact Or.inr rfl) pe_str)))) (pss_one (ps_if (PW.pt (pw_or (pt_cmpR (op_eqP (un_of hr)) (pv 4) pe_str (nomark _)) (pw_or1 (pt_cmpR (op_eqP (un_of hr)) (pv 4) pe_str (nomark _))))) (pss_cons (ps_set (i := 5) sc__law_due.nd rfl (by first | exact Or.inl rfl | exact Or.inr rfl) (pv 3)) (pss_cons (ps_if (pt_cmp (pc_isN (pv 5))) (pss_one (ps_set (i := 5) sc__law_due.nd rfl (by first | exact Or.inl rfl | exact Or.inr rfl) (pe_df D__law_leaf (hr.mono (by omega)) (by rfl) pass0 (pa_cons (pv 2) pa_nil)))) pss_nil) (pss_cons (ps_if (PW.pt (pw_or (pt_cmp (pc_isN (pv 5))) (pw_or (PW.pt (pw_and (pt_cmpR (op_eqP (un_of hr)) (pe_callB cr_len (by rfl) T.z_len (by decide +kernel) (pa_cons (pv 1) pa_nil)) pe_int (nomark _)) (pw_and1 (pt_cmpR (op_eqP (un_of hr)) (pv 4) pe_str (nomark _))))) (pw_or1 (pt_cmpR (op_eqP (un_of hr)) (pe_callB cr_len (by rfl) T.z_len (by decide +kernel) (pa_cons (pv 1) pa_nil)) pe_int (nomark _)))))) (pss_one (ps_ret pe_non)) pss_nil) (pss_cons (ps_expr (pe_bm PySem.F.plainAttrs_list PySem.F.slot_list_append PySem.F.type_list_append mt_append (pe_ix ix_list (pe_ix ix_list (pv 1) (pe_un un_neg pe_int) (fun _ _ => rfl)) pe_int (fun _ _ => rfl)) (pa_cons (pv 5) pa_nil))) (pss_cons (ps_set (i := 3) sc__law_due.nd rfl (by first | exact Or.inl rfl | exact Or.inr rfl) pe_non) (pss_cons (ps_set (i := 2) sc__law_due.nd rfl (by first | exact Or.inl rfl | exact Or.inr rfl) pe_str) (pss_one (ps_if (pt_cmpR (op_eqP (un_of hr)) (pv 4) pe_str (nomark _)) (pss_cons (ps_set (i := 6) sc__law_due.nd rfl (by first | exact Or.inl rfl | exact Or.inr rfl) (pe_bm0 PySem.F.plainAttrs_list PySem.F.slot_list_pop PySem.F.type_list_pop mt_pop (pv 1))) (pss_cons (ps_if (pt_cmpR op_gt (pe_callB cr_len (by rfl) T.z_len (by decide +kernel) (pa_cons (pe_ix ix_list (pv 6) pe_int (fun _ _ => rfl)) pa_nil)) pe_int (nomark _)) (pss_one (ps_ret pe_non)) pss_nil) (pss_one (ps_if (pt_cmpR (op_eqP (un_of hr)) (pe_callB cr_len (by rfl) T.z_len (by decide +kernel) (pa_cons (pv 1) pa_nil)) pe_int (nomark _)) (pss_one (ps_set (i := 3) sc__law_due.nd rfl (by first | exact Or.inl rfl | exact Or.inr rfl) (pe_ix ix_list (pe_ix ix_list (pv 6) pe_int (fun _ _ => rfl)) pe_int (fun _ _ => rfl)))) (pss_one (ps_set (i := 3) sc__law_due.nd rfl (by first | exact Or.inl rfl | exact Or.inr rfl) (pe_tup (pa_cons pe_str (pa_cons (pe_ix ix_list (pv 6) pe_int (fun _ _ => rfl)) (pa_cons (pe_callTy cr_tuple (by rfl) T.z_tuple (by decide +kernel) (pa_cons (pe_ix ix_list (pv 6) pe_int (fun _ _ => rfl)) pa_nil)) pa_nil)))))))))) pss_nil)))))))) (pss_one (ps_if (pt_cmp (pc_notN (pv 3))) (pss_one (ps_ret pe_non)) (pss_one (ps_set (i := 2) sc__law_due.nd rfl (by first | exact Or.inl rfl | exact Or.inr rfl) (pe_op op_addS (pv 2) (pv 4))))))))))) (pss_cons (ps_if (pt_cmpR op_gt (pe_callB cr_len (by rfl) T.z_len (by decide +kernel) (pa_cons (pv 1) pa_nil)) pe_int (nomark _)) (pss_one (ps_ret pe_non)) pss_nil) (pss_one (ps_ret (pv 3)))))))), ?_⟩
  have en : ("" : Str) = sO [] := by decide +kernel
  have eo : ("(" : Str) = sO [40] := by decide +kernel
  have ec : (")" : Str) = sO [41] := by decide +kernel
  have em : ("," : Str) = sO [44] := by decide +kernel
  have eqn : ∀ a b : Nat, (PyData.int (a : Int)).eqv (.int (b : Int)) = decide (a = b) := fun a b => by
    by_cases h : a = b
    · subst h; simp [PyData.eqv]
    · have : ¬ (a : Int) = b := by omega
      simp [PyData.eqv, h, this]
  refine w_sasg ?_
  refine ⟨Nat.zero_le _, fun r hr0 => ⟨le1000 (show 2 ≤ 1000 by decide), fun qa hqa => ⟨le1000 (show 1 ≤ 1000 by decide), fun p hp => ?_⟩⟩⟩
  have hqr : qa ≠ r := fun z => by rw [z, upd_same] at hqa; cases hqa
  have hqH : H qa = none := by rw [← hqa, upd_ne hqr]
  have hpq : p ≠ qa := fun z => by rw [z, upd_same] at hp; cases hp
  have hpr : p ≠ r := fun z => by rw [z, upd_ne hqr.symm, upd_same] at hp; cases hp
  have hpH : H p = none := by rw [← hp, upd_ne hpq, upd_ne hpr]
  have sH0 : Same H (upd (upd (upd H r (.lst [])) qa (.lst [.str "", .ref r])) p (.lst [.ref qa])) := ((Fx.Same.new hr0).trans (Fx.Same.new hqa)).trans (Fx.Same.new hp)
  have pk0 : PileOk H (upd (upd (upd H r (.lst [])) qa (.lst [.str "", .ref r])) p (.lst [.ref qa])) p [([], [])] [(qa, r, [])] := by
    refine ⟨upd_same, ⟨qa, r, [], [], rfl, ?_, ?_, rfl, rfl⟩, by simp [adr, hpq, hpr, hqr], fun a ha => ?_⟩
    · rw [upd_ne hpq.symm, upd_same, en]
    · rw [upd_ne hpr.symm, upd_ne hqr.symm, upd_same]
    · simp only [adr, List.flatMap_cons, List.flatMap_nil, List.append_nil, List.mem_cons, List.not_mem_nil, or_false] at ha
      rcases ha with rfl | rfl | rfl
      · exact hpH
      · exact hqH
      · exact hr0
  generalize upd (upd (upd H r (.lst [])) qa (.lst [.str "", .ref r])) p (.lst [.ref qa]) = H1 at sH0 pk0
  refine w_sset (d := .str (sO [])) (ev_str.to (by rw [en])) fun v2 H2 s2 r2 => ?_
  cases (show v2 = V.str (sO []) from r2)
  refine w_sset (d := .none) ev_non fun v3 H3 s3 r3 => ?_
  have hi := ei_str (ev_addS (l := t) (m := [41]) (σ := (((L2.start N__law_due [V.str (sO t)]).set 1 (some (.ref p))).set 2 (some (.str (sO [])))).set 3 (some v3)) (H := H3) (ta := tVar 0) (tb := tC (.str ")")) (ev_var (i := 0) (d := .str (sO t)) rfl rfl) (by rw [← ec]; exact ev_str) (by simp only [List.length_singleton]; omega))
  rw [sO_tl] at hi
  refine w_sfor hi fun H4 s4 => ?_
  have s14 := (s2.trans s3).trans s4
  refine ⟨fun i σ' H' => ∃ (st : Pl) (as : List FA) (v : V) (x y z : Option V), σ' = [some (.str (sO t)), some (.ref p), some (.str (sO st.wd)), some v, x, y, z] ∧ Same H H' ∧ PileOk H H' p st.fr as ∧ Rp H' (optD st.dn) v ∧ accP ((t ++ [41]).drop i) st = dueL t ∧ st.wd.length ≤ i ∧ lOk st.wd = true ∧ as.length ≤ i + 1 ∧ (∀ x, x ∈ st.fr → x.2.length ≤ i), ?_, ?_, ?_⟩
  · refine ⟨⟨[([], [])], [], none⟩, [(qa, r, [])], v3, none, none, none, rfl, sH0.trans s14, pk0.same s14, (show Rp _ .none v3 from r3), rfl, by simp, rfl, by simp, ?_⟩
    intro x hx; rw [List.mem_singleton.mp hx]; simp
  · rintro i d x σ' H' H5 ed kt ⟨st, as, v, x0, y0, z0, rfl, sH, pk, rv, ea, hwl, okw, hal, hfs⟩ sx rx
    rw [List.getElem?_map] at ed
    obtain ⟨c, ei, rfl⟩ := Option.map_eq_some_iff.mp ed
    cases (show x = V.str (sO [c]) from rx)
    have hil : i < (t ++ [41]).length := (List.getElem?_eq_some_iff.mp ei).1
    have hil' : i < t.length + 1 := by simpa using hil
    have hd : (t ++ [41]).drop i = c :: (t ++ [41]).drop (i + 1) := by
      rw [List.drop_eq_getElem_cons hil]
      congr 1
      exact (List.getElem?_eq_some_iff.mp ei).2
    rw [hd, accP] at ea
    have okc : lOk [c] = true := lOk_sub (b := t ++ [41]) (by rw [lOk_app, okt]; rfl) fun y hy => by rw [List.mem_singleton.mp hy]; exact List.mem_of_getElem? ei
    have pk5 := pk.same sx
    have rv5 := rv.mono sx
    have sH5 := sH.trans sx
    have kt5 := kt.trans (KT.of sx)
    have hfl := pk.f.length
    have vs : ∀ {a b c' d y0 z0 : Option V} {H' : Hp}, EvD (tVar 4) [a, b, c', d, some (.str (sO [c])), y0, z0] H' (.str (sO [c])) := ev_var rfl rfl
    have eqc : ∀ {a b c' d y0 z0 : Option V} {H' : Hp} (k : Nat) (z : Str), z = sO [k] → k < 1114112 → EvD (tOp rEqP (tVar 4) (tC (.str z))) [a, b, c', d, some (.str (sO [c])), y0, z0] H' (.bool (decide (c = k))) := fun k z hz hk => by
      subst hz
      refine (ev_eq vs ev_str (okD_sO okc) (okD_sO (by simp [lOk]; exact hk))).to ?_
      rw [eqv_sO]; simp
    refine w_if (et_test (eqc 40 "(" eo (by decide))) (fun c1 H6 s6 => ?_) (fun c1 H6 s6 => ?_)
    · -- an opening bracket
      rw [decide_eq_true_eq] at c1
      subst c1
      have rv6 := rv5.mono s6
      have pk6 := pk5.same s6
      refine w_guard (et_or (a := st.dn.isSome) (b := !nameL st.wd) (et_test (ev_isSome (ev_var (i := 3) rfl rv6))) fun _ => et_not (et_test (ev_call (d := .bool (nameL st.wd)) (ea_cons (ev_var (i := 2) (d := .str (sO st.wd)) rfl rfl) ea_nil) (spP.d ⟨st.wd, rfl, rfl, by omega⟩)))) (fun c2 H7 s7 => ?_) (fun c2 H7 s7 => ?_)
      · have es : stepP 40 st = none := by
          unfold stepP
          rw [if_pos rfl, if_pos c2]
        rw [es] at ea
        rw [← ea] at q
        exact w_ret ev_non fun v8 H8 s8 r8 => q v8 H8 (((sH5.trans s6).trans s7).trans s8) r8
      · have es : stepP 40 st = some ⟨st.fr ++ [(st.wd, [])], [], none⟩ := by
          unfold stepP
          rw [if_pos rfl, if_neg (by rw [c2]; decide)]
        rw [es] at ea
        have pk7 := pk6.same s7
        have sH7 := (sH5.trans s6).trans s7
        have dn : st.dn = none := by
          rw [Bool.or_eq_false_iff] at c2
          cases e : st.dn with
          | none => rfl
          | some f => rw [e] at c2; cases c2.1
        refine ⟨.ref p, rfl, .inl ⟨rfl, _, .of pk7.l⟩, .str (sO st.wd), rfl, Nat.zero_le _, fun r hr1 => ⟨le1000 (show 2 ≤ 1000 by decide), fun qn hqn => ⟨p, as.map (fun x => V.ref x.1), .ref qn, rfl, rfl, ?_, ?_, ?_⟩⟩⟩
        · have n1 := pk7.new hr1
          have hqr : qn ≠ r := fun z => by rw [z, upd_same] at hqn; cases hqn
          have n2 := pk7.new (show H7 qn = none by rw [← hqn, upd_ne hqr])
          rw [upd_ne (fun z => n2 (by simp [z])), upd_ne (fun z => n1 (by simp [z]))]
          exact pk7.l
        · rw [List.length_map]; exact Nat.lt_of_le_of_lt (show as.length ≤ 2000 by omega) (by decide)
        · have hqr : qn ≠ r := fun z => by rw [z, upd_same] at hqn; cases hqn
          have hqH : H7 qn = none := by rw [← hqn, upd_ne hqr]
          have pk8 := pk7.push (w := st.wd) (.inr trivial) hr1 hqn (sH7.free hr1) (sH7.free hqH)
          have n1 := pk7.new hr1
          have n2 := pk7.new hqH
          have kt8 : KT H7 (upd (upd (upd H7 r (.lst [])) qn (.lst [.str (sO st.wd), .ref r])) p (.lst ((as.map fun x => .ref x.1) ++ [.ref qn]))) := ((KT.of (Fx.Same.new hr1)).trans (KT.of (Fx.Same.new hqn))).trans (KT.upd fun xs => by
            rw [upd_ne (fun z => n2 (by simp [z])), upd_ne (fun z => n1 (by simp [z])), pk7.l]; intro z; cases z)
          have s8 : Same H (upd (upd (upd H7 r (.lst [])) qn (.lst [.str (sO st.wd), .ref r])) p (.lst ((as.map fun x => .ref x.1) ++ [.ref qn]))) := Fx.Same.put ((sH7.trans (Fx.Same.new hr1)).trans (Fx.Same.new hqn)) (pk7.z p (by simp))
          generalize upd (upd (upd H7 r (.lst [])) qn (.lst [.str (sO st.wd), .ref r])) p (.lst ((as.map fun x => .ref x.1) ++ [.ref qn])) = H8 at pk8 kt8 s8
          have rv8 : Rp H8 (optD st.dn) v := Rp.kt kt8 _ _ (optD_imm _) (rv6.mono s7)
          dsimp only
          refine w_set (te := tC (.str "")) (i := 2) (d := .str (sO [])) (ev_str.to (by rw [en])) fun v9 H9 s9 r9 => ?_
          cases (show v9 = V.str (sO []) from r9)
          refine ⟨((((kt5.trans (KT.of s6)).trans (KT.of s7)).trans kt8).trans (KT.of s9)), ⟨st.fr ++ [(st.wd, [])], [], none⟩, as ++ [(qn, r, [])], v, _, _, _, rfl, s8.trans s9, pk8.same s9, ?_, ea, by simp, rfl, by simp; omega, ?_⟩
          · rw [dn] at rv8; exact rv8.mono s9
          · intro y hy
            rcases List.mem_append.mp hy with hy | hy
            · exact Nat.le_succ_of_le (hfs y hy)
            · rw [List.mem_singleton.mp hy]; simp
    · rw [decide_eq_false_iff_not] at c1
      refine w_if (et_or (a := decide (c = 44)) (b := decide (c = 41)) (et_test (eqc 44 "," em (by decide))) fun _ => et_test (eqc 41 ")" ec (by decide))) (fun c2 H7 s7 => ?_) (fun c2 H7 s7 => ?_)
      · have hsep : c = 44 ∨ c = 41 := by rw [Bool.or_eq_true, decide_eq_true_eq, decide_eq_true_eq] at c2; exact c2
        have rv7 := (rv5.mono s6).mono s7
        have pk7 := (pk5.same s6).same s7
        have sH7 := (sH5.trans s6).trans s7
        obtain ⟨fo, hfo⟩ : ∃ fo, fo = fmP st := ⟨_, rfl⟩
        refine w_sset (ev_var (i := 3) rfl rv7) fun v9 H8 s8 r8 => ?_
        refine w_cut (fun σ' H' => ∃ v', σ' = [some (.str (sO t)), some (.ref p), some (.str (sO st.wd)), some v, some (.str (sO [c])), some v', z0] ∧ Same H8 H' ∧ Rp H' (optD fo) v') ?_ fun tail => ?_
        case refine_2 =>
          refine w_if (et_test (ev_isNone (ev_var (i := 5) rfl r8))) (fun c3 H9 s9 => ?_) (fun c3 H9 s9 => ?_)
          · have dn : st.dn = none := by
              cases e : st.dn with
              | none => rfl
              | some f => rw [e] at c3; cases c3
            unfold fmP at hfo
            rw [dn] at hfo
            refine w_set (ev_call (ds := [.str (sO st.wd)]) (ea_cons (ev_var (i := 2) (d := .str (sO st.wd)) rfl rfl) ea_nil) (spP.d ⟨st.wd, rfl, rfl, by omega, okw⟩)) fun v10 H10 s10 r10 => ?_
            exact tail _ _ ⟨v10, rfl, s9.trans s10, by rw [hfo]; exact r10⟩
          · have dn : fo = st.dn := by
              cases e : st.dn with
              | none => rw [e] at c3; cases c3
              | some f => unfold fmP at hfo; rw [e] at hfo; exact hfo
            exact tail _ _ ⟨v9, rfl, s9, by rw [dn]; exact r8.mono s9⟩
        rintro σ' H9 ⟨v5, rfl, s9, r9⟩
        have pk9 := (pk7.same s8).same s9
        have sH9 := (sH7.trans s8).trans s9
        have hlen : ∀ {a b c' d e f : Option V} {H' : Hp}, Same H9 H' → EvD (tCB (rLen K) (tCons (tVar 1) tNil)) [a, some (.ref p), b, c', d, e, f] H' (.int (st.fr.length : Nat)) := fun s' => (ev_lenP (i := 1) rfl (s' _ _ pk9.l)).to (by rw [List.length_map, hfl])
        refine w_guard (et_or (a := fo.isNone) (b := (decide (st.fr.length = 1) && decide (c = 44)) || decide (st.fr.length = 0)) (et_test (ev_isNone (ev_var (i := 5) rfl r9))) fun _ => et_or (et_and (a := decide (st.fr.length = 1)) (et_test ((ev_eq (hlen (Same.refl _)) ev_int (okD_int _) (okD_int _)).to ?_)) fun _ => et_test (eqc 44 "," em (by decide))) fun _ => et_test ((ev_eq (hlen (Same.refl _)) ev_int (okD_int _) (okD_int _)).to ?_)) (fun c4 H10 s10 => ?_) (fun c4 H10 s10 => ?_)
        · exact congrArg PyData.bool (eqn _ 1)
        · exact congrArg PyData.bool (eqn _ 0)
        · have es : stepP c st = none := by
            refine stepP_no c1 hsep ?_
            rw [← hfo]
            cases fo with
            | none => exact .inl rfl
            | some f =>
              rw [Option.isNone_some, Bool.false_or, Bool.or_eq_true, Bool.and_eq_true, decide_eq_true_eq, decide_eq_true_eq, decide_eq_true_eq] at c4
              exact .inr c4
          rw [es] at ea
          rw [← ea] at q
          exact w_ret ev_non fun v11 H11 s11 r11 => q v11 H11 ((sH9.trans s10).trans s11) r11
        · obtain ⟨f, rfl⟩ : ∃ f, fo = some f := by
            cases fo with
            | none => cases c4
            | some f => exact ⟨f, rfl⟩
          rw [Option.isNone_some, Bool.false_or] at c4
          have c5 : ¬ ((st.fr.length = 1 ∧ c = 44) ∨ st.fr.length = 0) := fun z => by
            rw [Bool.or_eq_false_iff, Bool.and_eq_false_iff, decide_eq_false_iff_not, decide_eq_false_iff_not, decide_eq_false_iff_not] at c4
            rcases z with z | z
            · rcases c4.1 with y | y
              · exact y z.1
              · exact y z.2
            · exact c4.2 z
          have hne : st.fr ≠ [] := fun z => c5 (.inr (by rw [z]; rfl))
          obtain ⟨fr', ⟨w', fs'⟩, hfr⟩ : ∃ fr' x, st.fr = fr' ++ [x] := ⟨_, _, (List.dropLast_concat_getLast hne).symm⟩
          have es := stepP_sep c1 hsep hfo.symm c5 hfr
          rw [es] at ea
          have pk10 := pk9.same s10
          rw [hfr] at pk10
          have hfs' : fs'.length ≤ i := hfs (w', fs') (by rw [hfr]; simp)
          have hfr2 : ∀ y, y ∈ fr' → y.2.length ≤ i := fun y hy => hfs y (by rw [hfr]; exact List.mem_append_left _ hy)
          obtain ⟨qn, rn, vsn, as', eas, t1, t2, t3, t4⟩ := pk10.f.top
          subst eas
          have sH10 := sH9.trans s10
          have r10 := r9.mono s10
          have kt10 : KT H4 H10 := kt5.trans (KT.of (((s6.trans s7).trans s8).trans (s9.trans s10)))
          refine ⟨.ref p, rfl, 1, rfl, p, (as' ++ [(qn, rn, vsn)]).map (fun x => V.ref x.1), -1, .ref qn, rfl, rfl, .of pk10.l, ?_, qn, [.str (sO w'), .ref rn], 1, .ref rn, rfl, rfl, .of t1, rfl, .inl ⟨rfl, vsn, .of t2⟩, v5, rfl, rn, vsn, v5, rfl, rfl, t2, ?_, ?_⟩
          · unfold atI ixN
            simp only [List.length_map, List.length_append, List.length_singleton, List.map_append, List.map_cons, List.map_nil]
            rw [if_neg (by decide), if_pos (by omega), Option.bind_some, show ((-1 : Int) + ((as'.length + 1 : Nat) : Int)).toNat = as'.length by omega, List.getElem?_append_right (by simp)]
            simp
          · rw [t3.length, List.length_map]; exact Nat.lt_of_le_of_lt (show fs'.length ≤ 2000 by omega) (by decide)
          · have pk11 := pk10.add r10
            have kt11 : KT H10 (upd H10 rn (.lst (vsn ++ [v5]))) := KT.upd fun xs => by rw [t2]; intro z; cases z
            have s11 : Same H (upd H10 rn (.lst (vsn ++ [v5]))) := Fx.Same.put sH10 (pk10.z rn (by rw [adr_app]; simp [adr]))
            generalize upd H10 rn (.lst (vsn ++ [v5])) = H11 at pk11 kt11 s11
            refine w_sset (te := tC .non) (i := 3) (d := .none) ev_non fun v12 H12 s12 r12 => ?_
            cases (show v12 = V.non from r12)
            refine w_sset (te := tC (.str "")) (i := 2) (d := .str (sO [])) (ev_str.to (by rw [en])) fun v13 H13 s13 r13 => ?_
            cases (show v13 = V.str (sO []) from r13)
            have pk13 := (pk11.same s12).same s13
            have sH13 := (s11.trans s12).trans s13
            have kt13 := (kt10.trans kt11).trans (KT.of (s12.trans s13))
            have hal' : as'.length + 1 ≤ i + 1 := by simpa using hal
            refine w_if (et_test (eqc 41 ")" ec (by decide))) (fun c6 H14 s14' => ?_) (fun c6 H14 s14' => ?_)
            · rw [decide_eq_true_eq] at c6
              rw [if_pos c6] at ea
              have pk14 := pk13.same s14'
              have sH14 := sH13.trans s14'
              have kt14 := kt13.trans (KT.of s14')
              obtain ⟨q2, r2', vs2, as2, e2, u1, u2, u3, u4⟩ := pk14.f.top
              obtain ⟨e3, e4⟩ := List.append_inj' e2 rfl
              subst e3
              cases e4
              have n14 := pk14.n
              rw [adr_app] at n14
              have nq : qn ≠ p := fun z => (List.nodup_cons.mp n14).1 (by rw [← z]; simp [adr])
              have nr : rn ≠ p := fun z => (List.nodup_cons.mp n14).1 (by rw [← z]; simp [adr])
              have hdl : ((as' ++ [(qn, rn, vsn ++ [v5])]).map fun x => V.ref x.1).dropLast = as'.map fun x => V.ref x.1 := by simp
              refine w_sasg ?_
              refine ⟨.ref p, rfl, .inl ⟨rfl, _, .of pk14.l⟩, p, _, .ref qn, rfl, rfl, pk14.l, by simp, ?_⟩
              rw [hdl]
              have pk15 := pk14.pop
              have kt15 : KT H14 (upd H14 p (.lst (as'.map fun x => V.ref x.1))) := KT.upd fun xs => by rw [pk14.l]; intro z; cases z
              have s15 : Same H (upd H14 p (.lst (as'.map fun x => V.ref x.1))) := Fx.Same.put sH14 (pk14.z p (by simp))
              have o1 : (upd H14 p (.lst (as'.map fun x => V.ref x.1))) qn = some (.lst [.str (sO w'), .ref rn]) := by rw [upd_ne nq]; exact u1
              have o2 : (upd H14 p (.lst (as'.map fun x => V.ref x.1))) rn = some (.lst (vsn ++ [v5])) := by rw [upd_ne nr]; exact u2
              have o3 : RpL (upd H14 p (.lst (as'.map fun x => V.ref x.1))) ((fs' ++ [f]).map Fm.d) (vsn ++ [v5]) := RpL.kt kt15 _ _ Fm.immL_d u3
              generalize upd H14 p (.lst (as'.map fun x => V.ref x.1)) = H15 at pk15 kt15 s15 o1 o2 o3
              have rov : Rp H15 (.list [.str (sO w'), .list ((fs' ++ [f]).map Fm.d)]) (.ref qn) := ⟨qn, _, rfl, o1, .cons rfl (.cons ⟨rn, _, rfl, o2, o3⟩ .nil)⟩
              have ov0 : ∀ {σ : L2.St} {H' : Hp}, σ[6]? = some (some (.ref qn)) → Same H15 H' → EvD (tOp (rIxL K) (tVar 6) (tC (.int 0))) σ H' (.str (sO w')) := fun e s' => ev_ixL (ev_var e (rov.mono s')) ev_int rfl
              have ov1 : ∀ {σ : L2.St} {H' : Hp}, σ[6]? = some (some (.ref qn)) → Same H15 H' → EvD (tOp (rIxL K) (tVar 6) (tC (.int 1))) σ H' (.list ((fs' ++ [f]).map Fm.d)) := fun e s' => ev_ixL (ev_var e (rov.mono s')) ev_int rfl
              have hl1 : ((fs' ++ [f]).map Fm.d).length = fs'.length + 1 := by simp
              have hfl' := pk15.f.length
              refine w_guard (et_test (ev_gt (ev_cb (ea_cons (ov1 rfl (Same.refl _)) ea_nil) cd_lenL) ev_int)) (fun c7 H16 s16 => ?_) (fun c7 H16 s16 => ?_)
              · rw [decide_eq_true_eq, hl1] at c7
                rw [if_pos (by omega)] at ea
                rw [← ea] at q
                exact w_ret ev_non fun v17 H17 s17 r17 => q v17 H17 ((s15.trans s16).trans s17) r17
              · rw [decide_eq_false_iff_not, hl1] at c7
                rw [if_neg (by omega)] at ea
                have pk16 := pk15.same s16
                refine w_if (b := decide (fr'.length = 0)) (et_test (((ev_eq (ev_lenP (i := 1) rfl pk16.l) ev_int (okD_int _) (okD_int _)).to (congrArg PyData.bool (eqn _ 0))).to (by rw [List.length_map, hfl']))) (fun c8 H17 s17 => ?_) (fun c8 H17 s17 => ?_)
                · rw [decide_eq_true_eq] at c8
                  rw [if_pos c8] at ea
                  obtain ⟨g, l, eg⟩ : ∃ g l, fs' ++ [f] = g :: l := by
                    cases fs' with
                    | nil => exact ⟨f, [], rfl⟩
                    | cons g l => exact ⟨g, l ++ [f], rfl⟩
                  refine w_set (d := g.d) (ev_ixL (ov1 rfl (s16.trans s17)) ev_int (by rw [eg]; exact atI_nat (j := 0) rfl)) fun v18 H18 s18 r18 => ?_
                  refine ⟨((kt14.trans kt15).trans (KT.of (s16.trans (s17.trans s18)))), ⟨fr', [], (fs' ++ [f]).head?⟩, as', v18, _, _, _, rfl, s15.trans (s16.trans (s17.trans s18)), pk15.same (s16.trans (s17.trans s18)), by rw [eg]; exact r18, ea, by simp, rfl, by omega, fun y hy => Nat.le_succ_of_le (hfr2 y hy)⟩
                · rw [decide_eq_false_iff_not] at c8
                  rw [if_neg c8] at ea
                  have e : (Fm.tie (sO w') (fs' ++ [f])).d = .tuple [.str "tie", .str (sO w'), .tuple ((fs' ++ [f]).map Fm.d)] := by rw [Fm.d, Fm.dL_map]
                  refine w_set (d := (Fm.tie (sO w') (fs' ++ [f])).d) (by
                    rw [e]
                    exact ev_tup (ea_cons ev_str (ea_cons (ov0 rfl (s16.trans s17)) (ea_cons (ev_cb (ea_cons (ov1 rfl (s16.trans s17)) ea_nil) cd_tupleL) ea_nil)))) fun v18 H18 s18 r18 => ?_
                  refine ⟨((kt14.trans kt15).trans (KT.of (s16.trans (s17.trans s18)))), ⟨fr', [], some (.tie (sO w') (fs' ++ [f]))⟩, as', v18, _, _, _, rfl, s15.trans (s16.trans (s17.trans s18)), pk15.same (s16.trans (s17.trans s18)), r18, ea, by simp, rfl, by omega, fun y hy => Nat.le_succ_of_le (hfr2 y hy)⟩
            · rw [decide_eq_false_iff_not] at c6
              rw [if_neg c6] at ea
              refine ⟨kt13.trans (KT.of s14'), ⟨fr' ++ [(w', fs' ++ [f])], [], none⟩, as' ++ [(qn, rn, vsn ++ [v5])], .non, _, _, _, rfl, sH13.trans s14', pk13.same s14', rfl, ea, by simp, rfl, by simp; omega, fun y hy => ?_⟩
              rcases List.mem_append.mp hy with hy | hy
              · exact Nat.le_succ_of_le (hfr2 y hy)
              · rw [List.mem_singleton.mp hy]; simp; omega
      · rw [Bool.or_eq_false_iff, decide_eq_false_iff_not, decide_eq_false_iff_not] at c2
        have rv7 := (rv5.mono s6).mono s7
        have pk7 := (pk5.same s6).same s7
        have sH7 := (sH5.trans s6).trans s7
        refine w_if (et_test (ev_isSome (ev_var (i := 3) rfl rv7))) (fun c3 H8 s8 => ?_) (fun c3 H8 s8 => ?_)
        · have es : stepP c st = none := by
            unfold stepP
            rw [if_neg c1, if_neg (by omega), if_pos c3]
          rw [es] at ea
          rw [← ea] at q
          exact w_ret ev_non fun v9 H9 s9 r9 => q v9 H9 ((sH7.trans s8).trans s9) r9
        · have es : stepP c st = some ⟨st.fr, st.wd ++ [c], none⟩ := by
            unfold stepP
            rw [if_neg c1, if_neg (by omega), if_neg (by rw [c3]; decide)]
          rw [es] at ea
          have dn : st.dn = none := by
            cases e : st.dn with
            | none => rfl
            | some f => rw [e] at c3; cases c3
          refine w_set (ev_addS (l := st.wd) (m := [c]) (ev_var (i := 2) (d := .str (sO st.wd)) rfl rfl) vs (by simp only [List.length_singleton]; omega)) fun v9 H9 s9 r9 => ?_
          cases (show v9 = V.str (sO (st.wd ++ [c])) from r9)
          have s79 := s8.trans s9
          refine ⟨(((kt5.trans (KT.of s6)).trans (KT.of s7)).trans (KT.of s79)), ⟨st.fr, st.wd ++ [c], none⟩, as, v, _, _, _, rfl, sH7.trans s79, pk7.same s79, ?_, ea, by simp only [List.length_append, List.length_singleton]; omega, by rw [lOk_app, okw, okc]; rfl, by omega, fun y hy => Nat.le_succ_of_le (hfs y hy)⟩
          rw [dn] at rv7; exact rv7.mono s79
  · rintro σ' H' kt ⟨st, as, v, x, y, z, rfl, sH, pk, rv, ea, _, _, hal, _⟩
    rw [List.length_map] at ea
    have hfl := pk.f.length
    refine w_guard (et_test (ev_gt (ev_lenP (i := 1) rfl pk.l) ev_int)) (fun c H5 s5 => ?_) (fun c H5 s5 => ?_)
    · rw [decide_eq_true_eq, List.length_map] at c
      have hne : st.fr ≠ [] := fun z => by rw [z] at hfl; simp only [List.length_nil] at hfl; omega
      have ed : dueL t = none := by rw [← ea, List.drop_of_length_le (by simp), accP, if_neg hne]
      rw [ed] at q
      exact w_ret ev_non fun v6 H6 s6 r6 => q v6 H6 ((sH.trans s5).trans s6) r6
    · rw [decide_eq_false_iff_not, List.length_map] at c
      have hne : st.fr = [] := List.length_eq_zero_iff.mp (by omega)
      have ed : dueL t = st.dn := by rw [← ea, List.drop_of_length_le (by simp), accP, if_pos hne]
      rw [ed] at q
      exact w_ret (ev_var (i := 3) rfl (rv.mono s5)) fun v6 H6 s6 r6 => q v6 H6 ((sH.trans s5).trans s6) r6
end
theorem law_fn {P : Program} {w : World} {K : PySem.W.Frag} {mg : Str → Option Value} {fa : Addr} (T : Tp K mg) (hfa : mg "law" = some (.ref fa)) :
    ∃ fd : FuncData, (∀ (s : Shared) (u : Value), BindsTo s fd ⟨[u], []⟩ [("script", u)]) ∧ ∀ base : Heap, K.In base → base.Ns mainGlobals mg → FnOk P w K mg base CX0 95 fa fd ["script"] (spLaw K) := by
  refine T.b_law.law hfa sc_law spLaw.len (lv := 94) fun base f cdv A outer s H vs Q E hr h => ?_
  have D__law_cell_at := ok_cell (P := P) (w := w) (base := base) T
  have D__law_drawn := ok_law_drawn (P := P) (w := w) (base := base) T 5
  have D__law_worded := ok_law_worded (P := P) (w := w) (base := base) T 5
  have D__law_text := ok_law_text (P := P) (w := w) (base := base) T 10
  have D__law_spoiled := ok_law_spoiled (P := P) (w := w) (base := base) T
  have D__law_due := ok_law_due (P := P) (w := w) (base := base) T
  have D__law_told := ok_law_told (P := P) (w := w) (base := base) T
  have D__law_is_form := ok_law_is_form (P := P) (w := w) (base := base) T 50
  have D__law_read_great := ok_law_read_great (P := P) (w := w) (base := base) T
  obtain ⟨a, ns, rfl, hS, hns, q⟩ := h
  refine ⟨_, (pss_cons (ps_if (pt_cmpR (op_eqP (un_of hr)) (pe_op op_modN (pe_df D__law_cell_at (hr.mono (by omega)) (by rfl) pass0 (pa_cons (pv 0) (pa_cons pe_int pa_nil))) pe_int) pe_int (nomark _)) (pss_one (ps_ret (pe_df D__law_read_great (hr.mono (by omega)) (by rfl) pass0 (pa_cons (pe_op op_fdivN (pe_df D__law_cell_at (hr.mono (by omega)) (by rfl) pass0 (pa_cons (pv 0) (pa_cons pe_int pa_nil))) pe_int) pa_nil)))) pss_nil) (pss_cons (ps_set (i := 1) sc_law.nd rfl (by first | exact Or.inl rfl | exact Or.inr rfl) (pe_df D__law_text (hr.mono (by omega)) (by rfl) pass0 (pa_cons (pe_df D__law_worded (hr.mono (by omega)) (by rfl) pass0 (pa_cons (pe_df D__law_drawn (hr.mono (by omega)) (by rfl) pass0 (pa_cons (pe_df D__law_cell_at (hr.mono (by omega)) (by rfl) pass0 (pa_cons (pv 0) (pa_cons pe_int pa_nil))) (pa_cons pe_int (pa_cons pe_int pa_nil)))) (pa_cons (pe_df D__law_cell_at (hr.mono (by omega)) (by rfl) pass0 (pa_cons (pv 0) (pa_cons pe_int pa_nil))) pa_nil))) pa_nil))) (pss_cons (ps_for PassesOwn.never rfl (pi_range1 (by rfl) T.z_range (pa_cons pe_int pa_nil)) (pg_name (i := 2) sc_law.nd rfl (by first | exact Or.inl rfl | exact Or.inr rfl)) (pss_cons (ps_set (i := 3) sc_law.nd rfl (by first | exact Or.inl rfl | exact Or.inr rfl) (pe_df D__law_spoiled (hr.mono (by omega)) (by rfl) pass0 (pa_cons (pv 1) (pa_cons (pe_df D__law_cell_at (hr.mono (by omega)) (by rfl) pass0 (pa_cons (pv 0) (pa_cons (pe_op op_add pe_int (pv 2)) pa_nil))) pa_nil)))) (pss_cons (ps_set (i := 4) sc_law.nd rfl (by first | exact Or.inl rfl | exact Or.inr rfl) (pe_df D__law_due (hr.mono (by omega)) (by rfl) pass0 (pa_cons (pv 3) pa_nil))) (pss_cons (ps_set (i := 5) sc_law.nd rfl (by first | exact Or.inl rfl | exact Or.inr rfl) (pe_df D__law_told (hr.mono (by omega)) (by rfl) pass0 (pa_cons (pv 3) pa_nil))) (pss_one (ps_if (pt_cmp (pc_isN (pv 4))) (pss_one (ps_if (pt_cmpR (op_neP (un_of hr)) (pv 5) (pe_lst (pa_cons pe_bl (pa_cons pe_bl (pa_cons pe_bl (pa_cons pe_bl pa_nil))))) (nomark _)) (pss_one (ps_ret pe_bl)) pss_nil)) (pss_one (ps_if (PW.pt (pw_or (pt_not (pt_val (pe_df D__law_is_form (hr.mono (by omega)) (by rfl) pass0 (pa_cons (pv 5) pa_nil)))) (pw_or1 (pt_cmpR (op_neP (un_of hr)) (pv 5) (pv 4) (nomark _))))) (pss_one (ps_ret pe_bl)) pss_nil)))))))) (pss_one (ps_ret pe_bl))))), ?_⟩
  refine w_guard (et_test (ev_eq (ev_mod (ev_cell (k := 7) (i := 0) (E := E0) rfl hS) ev_int (by decide)) ev_int (okD_int _) (okD_int _))) (fun _ H1 s1 => ?_) (fun _ H1 s1 => ?_)
  · refine w_ret (d := .bool true) (ev_call (ea_cons (ev_div (ev_cell (k := 7) (i := 0) (E := E0) rfl (s1.seq hS)) ev_int (by decide)) ea_nil) (spP.d ⟨_, rfl, rfl⟩)) fun v2 H2 s2 r2 => ?_
    cases (show v2 = V.bl true from r2)
    exact q H2
  have hS1 := s1.seq hS
  refine w_sasg ?_
  refine w_drawn (c := cellAt ns 0) (many := 6) (deep := 5) (ea_cons (ev_cell rfl hS1) (ea_cons ev_int (ea_cons ev_int ea_nil))) (by decide) (by decide) (by decide) fun f0 v0 H2 s2 r2 gd0 dp0 sg0 => ?_
  refine ev_cell (k := 8) (i := 0) (E := E0) rfl (s2.seq hS1) H2 (Same.refl _) _ fun vc H3 s3 r3 => ?_
  refine ⟨[f0.d, .int (cellAt ns 8)], (worded (cellAt ns 8) f0).d, .cons (r2.mono s3) (.cons r3 .nil), ⟨f0, cellAt ns 8, 6, rfl, rfl, dp0, gd0⟩, fun v1 H4 s4 r4 => ?_⟩
  obtain ⟨w1, w2, w3, w4, w5⟩ := worded_inv (c := cellAt ns 8) (by decide : (6 : Int) ≤ 1000) f0 gd0
  generalize worded (cellAt ns 8) f0 = g at r4 w1 w2 w3 w4 w5
  have hlx := tx_len g w3
  have hcs := cs_tx g w3
  obtain ⟨_, _, hlo⟩ := fine_ok g w3
  refine ⟨[g.d], .str (sO (tx g)), .cons r4 .nil, ⟨g, rfl, rfl, by omega, w3, w1, by omega, by omega⟩, fun v5 H5 s5 r5 => ?_⟩
  cases (show v5 = V.str (sO (tx g)) from r5)
  have s15 := ((s2.trans s3).trans s4).trans s5
  have hS5 := s15.seq hS1
  have htt : Tt (tx g) 900 37 := ⟨hlo, by omega, by omega⟩
  refine w_sfor (ei_range1 (n := 6) ev_int (by decide)) fun H6 s6 => ?_
  refine ⟨fun i σ' H' => ∃ x y z u : Option V, σ' = [some (.ref a), some (.str (sO (tx g))), x, y, z, u] ∧ Same H6 H', ⟨none, none, none, none, rfl, Same.refl _⟩, ?_, ?_⟩
  · rintro i d x σ' H' H7 ed kt ⟨x0, y0, z0, u0, rfl, sH⟩ sx rx
    have hi : i < 6 := by
      have h := (List.getElem?_eq_some_iff.mp ed).1
      simpa using h
    obtain rfl : d = .int (i : Int) := by
      rw [List.getElem?_map, List.getElem?_range hi] at ed
      exact (Option.some.inj ed).symm
    cases (show x = V.int i from rx)
    have hS7 := (s6.trans (sH.trans sx)).seq hS5
    refine w_sasg ?_
    refine ⟨_, rfl, ev_cellE (k := 1 + i) (i := 0) (E := E0) rfl hS7 ((ev_add ev_int (ev_var (i := 2) (d := .int i) rfl rfl)).to (by congr 1)) H7 (Same.refl _) _ fun vc H8 s8 r8 => ?_⟩
    cases (show vc = V.int (cellAt ns (1 + i)) from r8)
    refine ⟨cellAt ns (1 + i), tx g, rfl, htt, fun t' H9 s9 ⟨t1, t2, t3⟩ => ?_⟩
    obtain ⟨hrd, hdu⟩ := read_due (t := t') (by omega) (by omega)
    have vt : ∀ {a b c e f : Option V} {H' : Hp}, EvD (tVar 3) [a, b, c, some (.str (sO t')), e, f] H' (.str (sO t')) := ev_var rfl rfl
    refine w_sset (d := optD (dueL t')) (ev_call (ds := [.str (sO t')]) (ea_cons vt ea_nil) (spP.d ⟨t', rfl, rfl, by omega, t1⟩)) fun v10 H10 s10 r10 => ?_
    refine w_sset (d := toldD (readO t')) (ev_call (ds := [.str (sO t')]) (ea_cons vt ea_nil) (spP.d ⟨t', rfl, rfl, t1, by omega, fun f hf => formA_ok _ _ _ _ ⟨by omega, by omega⟩ hf⟩)) fun v11 H11 s11 r11 => ?_
    have ss := (sx.trans s8).trans ((s9.trans s10).trans s11)
    have r10' := r10.mono s11
    rw [hrd] at r11
    cases ed : dueL t' with
    | none =>
      rw [ed] at r11 r10'
      refine w_ifT (et_test (ev_isNone (o := none) (ev_var (i := 4) rfl r10'))) fun H12 s12 => ?_
      refine w_ifF (et_test ((ev_ne (d := .list ([true, true, false, false].map .bool)) (ev_var (i := 5) rfl (r11.mono s12)) (ev_lst (ea_cons ev_bl (ea_cons ev_bl (ea_cons ev_bl (ea_cons ev_bl ea_nil))))) (by decide) (by decide)).to (d' := .bool false) (congrArg PyData.bool (by simp [PyData.eqv, PyData.eqvAll])))) fun H13 s13 => ?_
      exact ⟨kt.trans (KT.of (ss.trans (s12.trans s13))), _, _, _, _, rfl, sH.trans (ss.trans (s12.trans s13))⟩
    | some g' =>
      rw [ed] at r11 r10'
      obtain ⟨f1, f2, f3⟩ := hdu g' ed
      obtain ⟨o1, o2, o3⟩ := fine_ok g' f1
      have okd := Fm.okD o1 (by omega)
      refine w_ifF (et_test (ev_isNone (o := some g') (ev_var (i := 4) rfl r10'))) fun H12 s12 => ?_
      refine w_ifF (et_or (a := false) (b := false) ((et_not (et_B (ev_call (ds := [g'.d]) (d := .bool true) (ea_cons (ev_var (i := 5) rfl (r11.mono s12)) ea_nil) (spP.d ⟨g', rfl, rfl, by omega, o1⟩)))).to rfl) fun _ => (et_test (ev_ne (d := g'.d) (e := g'.d) (ev_var (i := 5) rfl (r11.mono s12)) (ev_var (i := 4) rfl (r10'.mono s12)) okd okd)).to (by rw [(Fm.eqv_iff _ _).mpr rfl]; rfl)) fun H13 s13 => ?_
      exact ⟨kt.trans (KT.of (ss.trans (s12.trans s13))), _, _, _, _, rfl, sH.trans (ss.trans (s12.trans s13))⟩
  · rintro σ' H' kt ⟨x0, y0, z0, u0, rfl, sH⟩
    refine w_ret ev_bl fun v7 H7 s7 r7 => ?_
    cases (show v7 = V.bl true from r7)
    exact q H7
theorem tp_mk {K : PySem.W.Frag} {h : Heap} {mg : Str → Option Value} (X : K.In h) (G : h.Ns mainGlobals mg)
    {od_0 an_0 : Option Addr} {sl_0 : Array (Option Value)} {oc_0 kV_0 dc_0 pm_0 cd_0 ct_0 : Value} {f_0 : Addr}
    {od_1 an_1 : Option Addr} {sl_1 : Array (Option Value)} {oc_1 kV_1 dc_1 pm_1 cd_1 ct_1 : Value} {f_1 : Addr}
    {od_2 an_2 : Option Addr} {sl_2 : Array (Option Value)} {oc_2 kV_2 dc_2 pm_2 cd_2 ct_2 : Value} {f_2 : Addr}
    {od_3 an_3 : Option Addr} {sl_3 : Array (Option Value)} {oc_3 kV_3 dc_3 pm_3 cd_3 ct_3 : Value} {f_3 : Addr}
    {od_4 an_4 : Option Addr} {sl_4 : Array (Option Value)} {oc_4 kV_4 dc_4 pm_4 cd_4 ct_4 : Value} {f_4 : Addr}
    {od_5 an_5 : Option Addr} {sl_5 : Array (Option Value)} {oc_5 kV_5 dc_5 pm_5 cd_5 ct_5 : Value} {f_5 : Addr}
    {od_6 an_6 : Option Addr} {sl_6 : Array (Option Value)} {oc_6 kV_6 dc_6 pm_6 cd_6 ct_6 : Value} {f_6 : Addr}
    {od_7 an_7 : Option Addr} {sl_7 : Array (Option Value)} {oc_7 kV_7 dc_7 pm_7 cd_7 ct_7 : Value} {f_7 : Addr}
    {od_8 an_8 : Option Addr} {sl_8 : Array (Option Value)} {oc_8 kV_8 dc_8 pm_8 cd_8 ct_8 : Value} {f_8 : Addr}
    {od_9 an_9 : Option Addr} {sl_9 : Array (Option Value)} {oc_9 kV_9 dc_9 pm_9 cd_9 ct_9 : Value} {f_9 : Addr}
    {od_10 an_10 : Option Addr} {sl_10 : Array (Option Value)} {oc_10 kV_10 dc_10 pm_10 cd_10 ct_10 : Value} {f_10 : Addr}
    {od_11 an_11 : Option Addr} {sl_11 : Array (Option Value)} {oc_11 kV_11 dc_11 pm_11 cd_11 ct_11 : Value} {f_11 : Addr}
    {od_12 an_12 : Option Addr} {sl_12 : Array (Option Value)} {oc_12 kV_12 dc_12 pm_12 cd_12 ct_12 : Value} {f_12 : Addr}
    {od_13 an_13 : Option Addr} {sl_13 : Array (Option Value)} {oc_13 kV_13 dc_13 pm_13 cd_13 ct_13 : Value} {f_13 : Addr}
    {od_14 an_14 : Option Addr} {sl_14 : Array (Option Value)} {oc_14 kV_14 dc_14 pm_14 cd_14 ct_14 : Value} {f_14 : Addr}
    {od_15 an_15 : Option Addr} {sl_15 : Array (Option Value)} {oc_15 kV_15 dc_15 pm_15 cd_15 ct_15 : Value} {f_15 : Addr}
    {od_16 an_16 : Option Addr} {sl_16 : Array (Option Value)} {oc_16 kV_16 dc_16 pm_16 cd_16 ct_16 : Value} {f_16 : Addr}
    {od_17 an_17 : Option Addr} {sl_17 : Array (Option Value)} {oc_17 kV_17 dc_17 pm_17 cd_17 ct_17 : Value} {f_17 : Addr}
    {od_18 an_18 : Option Addr} {sl_18 : Array (Option Value)} {oc_18 kV_18 dc_18 pm_18 cd_18 ct_18 : Value} {f_18 : Addr}
    {od_19 an_19 : Option Addr} {sl_19 : Array (Option Value)} {oc_19 kV_19 dc_19 pm_19 cd_19 ct_19 : Value} {f_19 : Addr}
    {od_20 an_20 : Option Addr} {sl_20 : Array (Option Value)} {oc_20 kV_20 dc_20 pm_20 cd_20 ct_20 : Value} {f_20 : Addr}
    {od_21 an_21 : Option Addr} {sl_21 : Array (Option Value)} {oc_21 kV_21 dc_21 pm_21 cd_21 ct_21 : Value} {f_21 : Addr}
    {od_22 an_22 : Option Addr} {sl_22 : Array (Option Value)} {oc_22 kV_22 dc_22 pm_22 cd_22 ct_22 : Value} {f_22 : Addr}
    {od_23 an_23 : Option Addr} {sl_23 : Array (Option Value)} {oc_23 kV_23 dc_23 pm_23 cd_23 ct_23 : Value} {f_23 : Addr}
    {od_24 an_24 : Option Addr} {sl_24 : Array (Option Value)} {oc_24 kV_24 dc_24 pm_24 cd_24 ct_24 : Value} {f_24 : Addr}
    {od_25 an_25 : Option Addr} {sl_25 : Array (Option Value)} {oc_25 kV_25 dc_25 pm_25 cd_25 ct_25 : Value} {f_25 : Addr}
    {od_26 an_26 : Option Addr} {sl_26 : Array (Option Value)} {oc_26 kV_26 dc_26 pm_26 cd_26 ct_26 : Value} {f_26 : Addr}
    {od_27 an_27 : Option Addr} {sl_27 : Array (Option Value)} {oc_27 kV_27 dc_27 pm_27 cd_27 ct_27 : Value} {f_27 : Addr}
    (a_0 : PySem.W.nsIn K mainGlobals "is_word" = some (some (.ref f_0))) (l_0 : K.lookup f_0 = some ⟨oc_0, od_0, .func (PySem.W.fnOf "is_word" "is_word" (defArgs s_is_word) (defBody s_is_word) (defScope s_is_word) .none kV_0 dc_0 pm_0 an_0 cd_0 ct_0), sl_0⟩) (c_0 : PySem.W.codeIn K cd_0 "is_word" = true) (k_0 : PySem.W.keepIn K (.ref f_0) = true)
    (a_1 : PySem.W.nsIn K mainGlobals "see" = some (some (.ref f_1))) (l_1 : K.lookup f_1 = some ⟨oc_1, od_1, .func (PySem.W.fnOf "see" "see" (defArgs s_see) (defBody s_see) (defScope s_see) .none kV_1 dc_1 pm_1 an_1 cd_1 ct_1), sl_1⟩) (c_1 : PySem.W.codeIn K cd_1 "see" = true) (k_1 : PySem.W.keepIn K (.ref f_1) = true)
    (a_2 : PySem.W.nsIn K mainGlobals "parts_of" = some (some (.ref f_2))) (l_2 : K.lookup f_2 = some ⟨oc_2, od_2, .func (PySem.W.fnOf "parts_of" "parts_of" (defArgs s_parts_of) (defBody s_parts_of) (defScope s_parts_of) .none kV_2 dc_2 pm_2 an_2 cd_2 ct_2), sl_2⟩) (c_2 : PySem.W.codeIn K cd_2 "parts_of" = true) (k_2 : PySem.W.keepIn K (.ref f_2) = true)
    (a_3 : PySem.W.nsIn K mainGlobals "signs" = some (some (.ref f_3))) (l_3 : K.lookup f_3 = some ⟨oc_3, od_3, .func (PySem.W.fnOf "signs" "signs" (defArgs s_signs) (defBody s_signs) (defScope s_signs) .none kV_3 dc_3 pm_3 an_3 cd_3 ct_3), sl_3⟩) (c_3 : PySem.W.codeIn K cd_3 "signs" = true) (k_3 : PySem.W.keepIn K (.ref f_3) = true)
    (a_4 : PySem.W.nsIn K mainGlobals "depth" = some (some (.ref f_4))) (l_4 : K.lookup f_4 = some ⟨oc_4, od_4, .func (PySem.W.fnOf "depth" "depth" (defArgs s_depth) (defBody s_depth) (defScope s_depth) .none kV_4 dc_4 pm_4 an_4 cd_4 ct_4), sl_4⟩) (c_4 : PySem.W.codeIn K cd_4 "depth" = true) (k_4 : PySem.W.keepIn K (.ref f_4) = true)
    (a_5 : PySem.W.nsIn K mainGlobals "looked" = some (some (.ref f_5))) (l_5 : K.lookup f_5 = some ⟨oc_5, od_5, .func (PySem.W.fnOf "looked" "looked" (defArgs s_looked) (defBody s_looked) (defScope s_looked) .none kV_5 dc_5 pm_5 an_5 cd_5 ct_5), sl_5⟩) (c_5 : PySem.W.codeIn K cd_5 "looked" = true) (k_5 : PySem.W.keepIn K (.ref f_5) = true)
    (a_6 : PySem.W.nsIn K mainGlobals "taken" = some (some (.ref f_6))) (l_6 : K.lookup f_6 = some ⟨oc_6, od_6, .func (PySem.W.fnOf "taken" "taken" (defArgs s_taken) (defBody s_taken) (defScope s_taken) .none kV_6 dc_6 pm_6 an_6 cd_6 ct_6), sl_6⟩) (c_6 : PySem.W.codeIn K cd_6 "taken" = true) (k_6 : PySem.W.keepIn K (.ref f_6) = true)
    (a_7 : PySem.W.nsIn K mainGlobals "number_of" = some (some (.ref f_7))) (l_7 : K.lookup f_7 = some ⟨oc_7, od_7, .func (PySem.W.fnOf "number_of" "number_of" (defArgs s_number_of) (defBody s_number_of) (defScope s_number_of) .none kV_7 dc_7 pm_7 an_7 cd_7 ct_7), sl_7⟩) (c_7 : PySem.W.codeIn K cd_7 "number_of" = true) (k_7 : PySem.W.keepIn K (.ref f_7) = true)
    (a_8 : PySem.W.nsIn K mainGlobals "parts_at" = some (some (.ref f_8))) (l_8 : K.lookup f_8 = some ⟨oc_8, od_8, .func (PySem.W.fnOf "parts_at" "parts_at" (defArgs s_parts_at) (defBody s_parts_at) (defScope s_parts_at) .none kV_8 dc_8 pm_8 an_8 cd_8 ct_8), sl_8⟩) (c_8 : PySem.W.codeIn K cd_8 "parts_at" = true) (k_8 : PySem.W.keepIn K (.ref f_8) = true)
    (a_9 : PySem.W.nsIn K mainGlobals "form_at" = some (some (.ref f_9))) (l_9 : K.lookup f_9 = some ⟨oc_9, od_9, .func (PySem.W.fnOf "form_at" "form_at" (defArgs s_form_at) (defBody s_form_at) (defScope s_form_at) .none kV_9 dc_9 pm_9 an_9 cd_9 ct_9), sl_9⟩) (c_9 : PySem.W.codeIn K cd_9 "form_at" = true) (k_9 : PySem.W.keepIn K (.ref f_9) = true)
    (a_10 : PySem.W.nsIn K mainGlobals "read" = some (some (.ref f_10))) (l_10 : K.lookup f_10 = some ⟨oc_10, od_10, .func (PySem.W.fnOf "read" "read" (defArgs s_read) (defBody s_read) (defScope s_read) .none kV_10 dc_10 pm_10 an_10 cd_10 ct_10), sl_10⟩) (c_10 : PySem.W.codeIn K cd_10 "read" = true) (k_10 : PySem.W.keepIn K (.ref f_10) = true)
    (a_11 : PySem.W.nsIn K mainGlobals "_law_cell_at" = some (some (.ref f_11))) (l_11 : K.lookup f_11 = some ⟨oc_11, od_11, .func (PySem.W.fnOf "_law_cell_at" "_law_cell_at" (defArgs s__law_cell_at) (defBody s__law_cell_at) (defScope s__law_cell_at) .none kV_11 dc_11 pm_11 an_11 cd_11 ct_11), sl_11⟩) (c_11 : PySem.W.codeIn K cd_11 "_law_cell_at" = true) (k_11 : PySem.W.keepIn K (.ref f_11) = true)
    (a_12 : PySem.W.nsIn K mainGlobals "_law_whole" = some (some (.ref f_12))) (l_12 : K.lookup f_12 = some ⟨oc_12, od_12, .func (PySem.W.fnOf "_law_whole" "_law_whole" (defArgs s__law_whole) (defBody s__law_whole) (defScope s__law_whole) .none kV_12 dc_12 pm_12 an_12 cd_12 ct_12), sl_12⟩) (c_12 : PySem.W.codeIn K cd_12 "_law_whole" = true) (k_12 : PySem.W.keepIn K (.ref f_12) = true)
    (a_13 : PySem.W.nsIn K mainGlobals "_law_form" = some (some (.ref f_13))) (l_13 : K.lookup f_13 = some ⟨oc_13, od_13, .func (PySem.W.fnOf "_law_form" "_law_form" (defArgs s__law_form) (defBody s__law_form) (defScope s__law_form) .none kV_13 dc_13 pm_13 an_13 cd_13 ct_13), sl_13⟩) (c_13 : PySem.W.codeIn K cd_13 "_law_form" = true) (k_13 : PySem.W.keepIn K (.ref f_13) = true)
    (a_14 : PySem.W.nsIn K mainGlobals "_law_drawn" = some (some (.ref f_14))) (l_14 : K.lookup f_14 = some ⟨oc_14, od_14, .func (PySem.W.fnOf "_law_drawn" "_law_drawn" (defArgs s__law_drawn) (defBody s__law_drawn) (defScope s__law_drawn) .none kV_14 dc_14 pm_14 an_14 cd_14 ct_14), sl_14⟩) (c_14 : PySem.W.codeIn K cd_14 "_law_drawn" = true) (k_14 : PySem.W.keepIn K (.ref f_14) = true)
    (a_15 : PySem.W.nsIn K mainGlobals "_law_is_form" = some (some (.ref f_15))) (l_15 : K.lookup f_15 = some ⟨oc_15, od_15, .func (PySem.W.fnOf "_law_is_form" "_law_is_form" (defArgs s__law_is_form) (defBody s__law_is_form) (defScope s__law_is_form) .none kV_15 dc_15 pm_15 an_15 cd_15 ct_15), sl_15⟩) (c_15 : PySem.W.codeIn K cd_15 "_law_is_form" = true) (k_15 : PySem.W.keepIn K (.ref f_15) = true)
    (a_16 : PySem.W.nsIn K mainGlobals "_law_text" = some (some (.ref f_16))) (l_16 : K.lookup f_16 = some ⟨oc_16, od_16, .func (PySem.W.fnOf "_law_text" "_law_text" (defArgs s__law_text) (defBody s__law_text) (defScope s__law_text) .none kV_16 dc_16 pm_16 an_16 cd_16 ct_16), sl_16⟩) (c_16 : PySem.W.codeIn K cd_16 "_law_text" = true) (k_16 : PySem.W.keepIn K (.ref f_16) = true)
    (a_17 : PySem.W.nsIn K mainGlobals "_law_name" = some (some (.ref f_17))) (l_17 : K.lookup f_17 = some ⟨oc_17, od_17, .func (PySem.W.fnOf "_law_name" "_law_name" (defArgs s__law_name) (defBody s__law_name) (defScope s__law_name) .none kV_17 dc_17 pm_17 an_17 cd_17 ct_17), sl_17⟩) (c_17 : PySem.W.codeIn K cd_17 "_law_name" = true) (k_17 : PySem.W.keepIn K (.ref f_17) = true)
    (a_18 : PySem.W.nsIn K mainGlobals "_law_leaf" = some (some (.ref f_18))) (l_18 : K.lookup f_18 = some ⟨oc_18, od_18, .func (PySem.W.fnOf "_law_leaf" "_law_leaf" (defArgs s__law_leaf) (defBody s__law_leaf) (defScope s__law_leaf) .none kV_18 dc_18 pm_18 an_18 cd_18 ct_18), sl_18⟩) (c_18 : PySem.W.codeIn K cd_18 "_law_leaf" = true) (k_18 : PySem.W.keepIn K (.ref f_18) = true)
    (a_19 : PySem.W.nsIn K mainGlobals "_law_due" = some (some (.ref f_19))) (l_19 : K.lookup f_19 = some ⟨oc_19, od_19, .func (PySem.W.fnOf "_law_due" "_law_due" (defArgs s__law_due) (defBody s__law_due) (defScope s__law_due) .none kV_19 dc_19 pm_19 an_19 cd_19 ct_19), sl_19⟩) (c_19 : PySem.W.codeIn K cd_19 "_law_due" = true) (k_19 : PySem.W.keepIn K (.ref f_19) = true)
    (a_20 : PySem.W.nsIn K mainGlobals "_law_odd" = some (some (.ref f_20))) (l_20 : K.lookup f_20 = some ⟨oc_20, od_20, .func (PySem.W.fnOf "_law_odd" "_law_odd" (defArgs s__law_odd) (defBody s__law_odd) (defScope s__law_odd) .none kV_20 dc_20 pm_20 an_20 cd_20 ct_20), sl_20⟩) (c_20 : PySem.W.codeIn K cd_20 "_law_odd" = true) (k_20 : PySem.W.keepIn K (.ref f_20) = true)
    (a_21 : PySem.W.nsIn K mainGlobals "_law_told" = some (some (.ref f_21))) (l_21 : K.lookup f_21 = some ⟨oc_21, od_21, .func (PySem.W.fnOf "_law_told" "_law_told" (defArgs s__law_told) (defBody s__law_told) (defScope s__law_told) .none kV_21 dc_21 pm_21 an_21 cd_21 ct_21), sl_21⟩) (c_21 : PySem.W.codeIn K cd_21 "_law_told" = true) (k_21 : PySem.W.keepIn K (.ref f_21) = true)
    (a_22 : PySem.W.nsIn K mainGlobals "_law_spoiled" = some (some (.ref f_22))) (l_22 : K.lookup f_22 = some ⟨oc_22, od_22, .func (PySem.W.fnOf "_law_spoiled" "_law_spoiled" (defArgs s__law_spoiled) (defBody s__law_spoiled) (defScope s__law_spoiled) .none kV_22 dc_22 pm_22 an_22 cd_22 ct_22), sl_22⟩) (c_22 : PySem.W.codeIn K cd_22 "_law_spoiled" = true) (k_22 : PySem.W.keepIn K (.ref f_22) = true)
    (a_23 : PySem.W.nsIn K mainGlobals "_law_signs" = some (some (.ref f_23))) (l_23 : K.lookup f_23 = some ⟨oc_23, od_23, .func (PySem.W.fnOf "_law_signs" "_law_signs" (defArgs s__law_signs) (defBody s__law_signs) (defScope s__law_signs) .none kV_23 dc_23 pm_23 an_23 cd_23 ct_23), sl_23⟩) (c_23 : PySem.W.codeIn K cd_23 "_law_signs" = true) (k_23 : PySem.W.keepIn K (.ref f_23) = true)
    (a_24 : PySem.W.nsIn K mainGlobals "_law_great" = some (some (.ref f_24))) (l_24 : K.lookup f_24 = some ⟨oc_24, od_24, .func (PySem.W.fnOf "_law_great" "_law_great" (defArgs s__law_great) (defBody s__law_great) (defScope s__law_great) .none kV_24 dc_24 pm_24 an_24 cd_24 ct_24), sl_24⟩) (c_24 : PySem.W.codeIn K cd_24 "_law_great" = true) (k_24 : PySem.W.keepIn K (.ref f_24) = true)
    (a_25 : PySem.W.nsIn K mainGlobals "_law_read_great" = some (some (.ref f_25))) (l_25 : K.lookup f_25 = some ⟨oc_25, od_25, .func (PySem.W.fnOf "_law_read_great" "_law_read_great" (defArgs s__law_read_great) (defBody s__law_read_great) (defScope s__law_read_great) .none kV_25 dc_25 pm_25 an_25 cd_25 ct_25), sl_25⟩) (c_25 : PySem.W.codeIn K cd_25 "_law_read_great" = true) (k_25 : PySem.W.keepIn K (.ref f_25) = true)
    (a_26 : PySem.W.nsIn K mainGlobals "_law_worded" = some (some (.ref f_26))) (l_26 : K.lookup f_26 = some ⟨oc_26, od_26, .func (PySem.W.fnOf "_law_worded" "_law_worded" (defArgs s__law_worded) (defBody s__law_worded) (defScope s__law_worded) .none kV_26 dc_26 pm_26 an_26 cd_26 ct_26), sl_26⟩) (c_26 : PySem.W.codeIn K cd_26 "_law_worded" = true) (k_26 : PySem.W.keepIn K (.ref f_26) = true)
    (a_27 : PySem.W.nsIn K mainGlobals "law" = some (some (.ref f_27))) (l_27 : K.lookup f_27 = some ⟨oc_27, od_27, .func (PySem.W.fnOf "law" "law" (defArgs s_law) (defBody s_law) (defScope s_law) .none kV_27 dc_27 pm_27 an_27 cd_27 ct_27), sl_27⟩) (c_27 : PySem.W.codeIn K cd_27 "law" = true) (k_27 : PySem.W.keepIn K (.ref f_27) = true)
    (z_len : PySem.W.nsIn K mainGlobals "len" = some none)
    (z_tuple : PySem.W.nsIn K mainGlobals "tuple" = some none)
    (z_isinstance : PySem.W.nsIn K mainGlobals "isinstance" = some none)
    (z_dict : PySem.W.nsIn K mainGlobals "dict" = some none)
    (z_str : PySem.W.nsIn K mainGlobals "str" = some none)
    (z_int : PySem.W.nsIn K mainGlobals "int" = some none)
    (z_sum : PySem.W.nsIn K mainGlobals "sum" = some none)
    (z_range : PySem.W.nsIn K mainGlobals "range" = some none)
    (z_all : PySem.W.nsIn K mainGlobals "all" = some none)
    (z_max : PySem.W.nsIn K mainGlobals "max" = some none)
    (z_bool : PySem.W.nsIn K mainGlobals "bool" = some none)
    (z_ValueError : PySem.W.nsIn K mainGlobals "ValueError" = some none)
    {t_LETTERS : Tok} (g_LETTERS : PySem.W.nsIn K mainGlobals "LETTERS" = some (some (.str "abcdefghijklmnopqrstuvwxyz" t_LETTERS)))
    {t_MOST_SIGNS : Tok} (g_MOST_SIGNS : PySem.W.nsIn K mainGlobals "MOST_SIGNS" = some (some (.int 200 t_MOST_SIGNS)))
    {t_MOST_DEPTH : Tok} (g_MOST_DEPTH : PySem.W.nsIn K mainGlobals "MOST_DEPTH" = some (some (.int 40 t_MOST_DEPTH)))
    {t_MOST_PARTS : Tok} (g_MOST_PARTS : PySem.W.nsIn K mainGlobals "MOST_PARTS" = some (some (.int 4 t_MOST_PARTS)))
    {t_MOST_GAP : Tok} (g_MOST_GAP : PySem.W.nsIn K mainGlobals "MOST_GAP" = some (some (.int 999 t_MOST_GAP)))
    {t_FIGURES : Tok} (g_FIGURES : PySem.W.nsIn K mainGlobals "FIGURES" = some (some (.str "0123456789" t_FIGURES)))
    {cl_FormError : Addr} (ca_FormError : PySem.W.nsIn K mainGlobals "FormError" = some (some (.ref cl_FormError))) (cq_FormError : PySem.W.excIn K cl_FormError [.type "ValueError", .type "Exception", .type "BaseException", .type "object"] "ValueError.__new__" = true) (ck_FormError : PySem.W.keepIn K (.ref cl_FormError) = true) (cb_FormError : PySem.W.subIn K (.ref cl_FormError) (.type "BaseException") = some true) (ct_FormError : PySem.W.typeIn K (.ref cl_FormError) = some (.type "type")) (chg_FormError : PySem.W.findIn K (.ref cl_FormError) "__getattribute__" = some (some (.builtin "BaseException.__getattribute__"))) (chk_FormError : PySem.W.findIn K (.ref cl_FormError) "__getattr__" = some none) (chd_FormError : PySem.W.hasDictIn K cl_FormError = true) (cha_FormError : PySem.W.findIn K (.ref cl_FormError) "__class__" = some (some (.builtin "object.__class__"))) (chn_FormError : PySem.W.specialIn K (.builtin "object.__class__") "__get__" = some (some (.builtin "getset_descriptor.__get__"))) (cht_FormError : PySem.W.takesIn K (.builtin "object.__class__") = some true) (chm_FormError : PySem.W.mroIn K cl_FormError (.type "object") = some true) (cv_FormError : PySem.W.kitOne K (.ref cl_FormError) (.type "ValueError") = some true)
    {cl_NoForm : Addr} (ca_NoForm : PySem.W.nsIn K mainGlobals "NoForm" = some (some (.ref cl_NoForm))) (cq_NoForm : PySem.W.excIn K cl_NoForm [.type "ValueError", .type "Exception", .type "BaseException", .type "object"] "ValueError.__new__" = true) (ck_NoForm : PySem.W.keepIn K (.ref cl_NoForm) = true) (cb_NoForm : PySem.W.subIn K (.ref cl_NoForm) (.type "BaseException") = some true) (ct_NoForm : PySem.W.typeIn K (.ref cl_NoForm) = some (.type "type")) (chg_NoForm : PySem.W.findIn K (.ref cl_NoForm) "__getattribute__" = some (some (.builtin "BaseException.__getattribute__"))) (chk_NoForm : PySem.W.findIn K (.ref cl_NoForm) "__getattr__" = some none) (chd_NoForm : PySem.W.hasDictIn K cl_NoForm = true) (cha_NoForm : PySem.W.findIn K (.ref cl_NoForm) "__class__" = some (some (.builtin "object.__class__"))) (chn_NoForm : PySem.W.specialIn K (.builtin "object.__class__") "__get__" = some (some (.builtin "getset_descriptor.__get__"))) (cht_NoForm : PySem.W.takesIn K (.builtin "object.__class__") = some true) (chm_NoForm : PySem.W.mroIn K cl_NoForm (.type "object") = some true) (cv_NoForm : PySem.W.kitOne K (.ref cl_NoForm) (.type "ValueError") = some true)
    {cl_TooMany : Addr} (ca_TooMany : PySem.W.nsIn K mainGlobals "TooMany" = some (some (.ref cl_TooMany))) (cq_TooMany : PySem.W.excIn K cl_TooMany [.type "ValueError", .type "Exception", .type "BaseException", .type "object"] "ValueError.__new__" = true) (ck_TooMany : PySem.W.keepIn K (.ref cl_TooMany) = true) (cb_TooMany : PySem.W.subIn K (.ref cl_TooMany) (.type "BaseException") = some true) (ct_TooMany : PySem.W.typeIn K (.ref cl_TooMany) = some (.type "type")) (chg_TooMany : PySem.W.findIn K (.ref cl_TooMany) "__getattribute__" = some (some (.builtin "BaseException.__getattribute__"))) (chk_TooMany : PySem.W.findIn K (.ref cl_TooMany) "__getattr__" = some none) (chd_TooMany : PySem.W.hasDictIn K cl_TooMany = true) (cha_TooMany : PySem.W.findIn K (.ref cl_TooMany) "__class__" = some (some (.builtin "object.__class__"))) (chn_TooMany : PySem.W.specialIn K (.builtin "object.__class__") "__get__" = some (some (.builtin "getset_descriptor.__get__"))) (cht_TooMany : PySem.W.takesIn K (.builtin "object.__class__") = some true) (chm_TooMany : PySem.W.mroIn K cl_TooMany (.type "object") = some true) (cv_TooMany : PySem.W.kitOne K (.ref cl_TooMany) (.type "ValueError") = some true)
    {cl_BadNote : Addr} (ca_BadNote : PySem.W.nsIn K mainGlobals "BadNote" = some (some (.ref cl_BadNote))) (cq_BadNote : PySem.W.excIn K cl_BadNote [.type "ValueError", .type "Exception", .type "BaseException", .type "object"] "ValueError.__new__" = true) (ck_BadNote : PySem.W.keepIn K (.ref cl_BadNote) = true) (cb_BadNote : PySem.W.subIn K (.ref cl_BadNote) (.type "BaseException") = some true) (ct_BadNote : PySem.W.typeIn K (.ref cl_BadNote) = some (.type "type")) (chg_BadNote : PySem.W.findIn K (.ref cl_BadNote) "__getattribute__" = some (some (.builtin "BaseException.__getattribute__"))) (chk_BadNote : PySem.W.findIn K (.ref cl_BadNote) "__getattr__" = some none) (chd_BadNote : PySem.W.hasDictIn K cl_BadNote = true) (cha_BadNote : PySem.W.findIn K (.ref cl_BadNote) "__class__" = some (some (.builtin "object.__class__"))) (chn_BadNote : PySem.W.specialIn K (.builtin "object.__class__") "__get__" = some (some (.builtin "getset_descriptor.__get__"))) (cht_BadNote : PySem.W.takesIn K (.builtin "object.__class__") = some true) (chm_BadNote : PySem.W.mroIn K cl_BadNote (.type "object") = some true) (cv_BadNote : PySem.W.kitOne K (.ref cl_BadNote) (.type "ValueError") = some true)
    (p1_FormError_FormError : PySem.W.kitOne K (.ref cl_FormError) (.ref cl_FormError) = some true) (p2_FormError_FormError : PySem.W.subIn K (.ref cl_FormError) (.ref cl_FormError) = some true)
    (p1_FormError_NoForm : PySem.W.kitOne K (.ref cl_FormError) (.ref cl_NoForm) = some false) (p2_FormError_NoForm : PySem.W.subIn K (.ref cl_FormError) (.ref cl_NoForm) = some false)
    (p1_FormError_TooMany : PySem.W.kitOne K (.ref cl_FormError) (.ref cl_TooMany) = some false) (p2_FormError_TooMany : PySem.W.subIn K (.ref cl_FormError) (.ref cl_TooMany) = some false)
    (p1_FormError_BadNote : PySem.W.kitOne K (.ref cl_FormError) (.ref cl_BadNote) = some false) (p2_FormError_BadNote : PySem.W.subIn K (.ref cl_FormError) (.ref cl_BadNote) = some false)
    (p1_NoForm_FormError : PySem.W.kitOne K (.ref cl_NoForm) (.ref cl_FormError) = some true) (p2_NoForm_FormError : PySem.W.subIn K (.ref cl_NoForm) (.ref cl_FormError) = some true)
    (p1_NoForm_NoForm : PySem.W.kitOne K (.ref cl_NoForm) (.ref cl_NoForm) = some true) (p2_NoForm_NoForm : PySem.W.subIn K (.ref cl_NoForm) (.ref cl_NoForm) = some true)
    (p1_NoForm_TooMany : PySem.W.kitOne K (.ref cl_NoForm) (.ref cl_TooMany) = some false) (p2_NoForm_TooMany : PySem.W.subIn K (.ref cl_NoForm) (.ref cl_TooMany) = some false)
    (p1_NoForm_BadNote : PySem.W.kitOne K (.ref cl_NoForm) (.ref cl_BadNote) = some false) (p2_NoForm_BadNote : PySem.W.subIn K (.ref cl_NoForm) (.ref cl_BadNote) = some false)
    (p1_TooMany_FormError : PySem.W.kitOne K (.ref cl_TooMany) (.ref cl_FormError) = some true) (p2_TooMany_FormError : PySem.W.subIn K (.ref cl_TooMany) (.ref cl_FormError) = some true)
    (p1_TooMany_NoForm : PySem.W.kitOne K (.ref cl_TooMany) (.ref cl_NoForm) = some false) (p2_TooMany_NoForm : PySem.W.subIn K (.ref cl_TooMany) (.ref cl_NoForm) = some false)
    (p1_TooMany_TooMany : PySem.W.kitOne K (.ref cl_TooMany) (.ref cl_TooMany) = some true) (p2_TooMany_TooMany : PySem.W.subIn K (.ref cl_TooMany) (.ref cl_TooMany) = some true)
    (p1_TooMany_BadNote : PySem.W.kitOne K (.ref cl_TooMany) (.ref cl_BadNote) = some false) (p2_TooMany_BadNote : PySem.W.subIn K (.ref cl_TooMany) (.ref cl_BadNote) = some false)
    (p1_BadNote_FormError : PySem.W.kitOne K (.ref cl_BadNote) (.ref cl_FormError) = some true) (p2_BadNote_FormError : PySem.W.subIn K (.ref cl_BadNote) (.ref cl_FormError) = some true)
    (p1_BadNote_NoForm : PySem.W.kitOne K (.ref cl_BadNote) (.ref cl_NoForm) = some false) (p2_BadNote_NoForm : PySem.W.subIn K (.ref cl_BadNote) (.ref cl_NoForm) = some false)
    (p1_BadNote_TooMany : PySem.W.kitOne K (.ref cl_BadNote) (.ref cl_TooMany) = some false) (p2_BadNote_TooMany : PySem.W.subIn K (.ref cl_BadNote) (.ref cl_TooMany) = some false)
    (p1_BadNote_BadNote : PySem.W.kitOne K (.ref cl_BadNote) (.ref cl_BadNote) = some true) (p2_BadNote_BadNote : PySem.W.subIn K (.ref cl_BadNote) (.ref cl_BadNote) = some true) : Tp K mg := by
  exact ⟨PySem.W.mg_none_of X G z_len,
    PySem.W.mg_none_of X G z_tuple,
    PySem.W.mg_none_of X G z_isinstance,
    PySem.W.mg_none_of X G z_dict,
    PySem.W.mg_none_of X G z_str,
    PySem.W.mg_none_of X G z_int,
    PySem.W.mg_none_of X G z_sum,
    PySem.W.mg_none_of X G z_range,
    PySem.W.mg_none_of X G z_all,
    PySem.W.mg_none_of X G z_max,
    PySem.W.mg_none_of X G z_bool,
    PySem.W.mg_none_of X G z_ValueError,
    ⟨f_0, _, fun_mk (st := s_is_word) l_0 c_0 k_0, fun us hl => match us, hl with | [_], _ => rfl, PySem.W.mg_of X G a_0⟩,
    ⟨f_1, _, fun_mk (st := s_see) l_1 c_1 k_1, fun us hl => match us, hl with | [_], _ => rfl, PySem.W.mg_of X G a_1⟩,
    ⟨f_2, _, fun_mk (st := s_parts_of) l_2 c_2 k_2, fun us hl => match us, hl with | [_], _ => rfl, PySem.W.mg_of X G a_2⟩,
    ⟨f_3, _, fun_mk (st := s_signs) l_3 c_3 k_3, fun us hl => match us, hl with | [_], _ => rfl, PySem.W.mg_of X G a_3⟩,
    ⟨f_4, _, fun_mk (st := s_depth) l_4 c_4 k_4, fun us hl => match us, hl with | [_], _ => rfl, PySem.W.mg_of X G a_4⟩,
    ⟨f_5, _, fun_mk (st := s_looked) l_5 c_5 k_5, fun us hl => match us, hl with | [_], _ => rfl, PySem.W.mg_of X G a_5⟩,
    ⟨f_6, _, fun_mk (st := s_taken) l_6 c_6 k_6, fun us hl => match us, hl with | [_, _, _], _ => rfl, PySem.W.mg_of X G a_6⟩,
    ⟨f_7, _, fun_mk (st := s_number_of) l_7 c_7 k_7, fun us hl => match us, hl with | [_], _ => rfl, PySem.W.mg_of X G a_7⟩,
    ⟨f_8, _, fun_mk (st := s_parts_at) l_8 c_8 k_8, fun us hl => match us, hl with | [_, _, _], _ => rfl, PySem.W.mg_of X G a_8⟩,
    ⟨f_9, _, fun_mk (st := s_form_at) l_9 c_9 k_9, fun us hl => match us, hl with | [_, _, _], _ => rfl, PySem.W.mg_of X G a_9⟩,
    ⟨f_10, _, fun_mk (st := s_read) l_10 c_10 k_10, fun us hl => match us, hl with | [_], _ => rfl, PySem.W.mg_of X G a_10⟩,
    ⟨f_11, _, fun_mk (st := s__law_cell_at) l_11 c_11 k_11, fun us hl => match us, hl with | [_, _], _ => rfl, PySem.W.mg_of X G a_11⟩,
    ⟨f_12, _, fun_mk (st := s__law_whole) l_12 c_12 k_12, fun us hl => match us, hl with | [_], _ => rfl, PySem.W.mg_of X G a_12⟩,
    ⟨f_13, _, fun_mk (st := s__law_form) l_13 c_13 k_13, fun us hl => match us, hl with | [_, _, _], _ => rfl, PySem.W.mg_of X G a_13⟩,
    ⟨f_14, _, fun_mk (st := s__law_drawn) l_14 c_14 k_14, fun us hl => match us, hl with | [_, _, _], _ => rfl, PySem.W.mg_of X G a_14⟩,
    ⟨f_15, _, fun_mk (st := s__law_is_form) l_15 c_15 k_15, fun us hl => match us, hl with | [_], _ => rfl, PySem.W.mg_of X G a_15⟩,
    ⟨f_16, _, fun_mk (st := s__law_text) l_16 c_16 k_16, fun us hl => match us, hl with | [_], _ => rfl, PySem.W.mg_of X G a_16⟩,
    ⟨f_17, _, fun_mk (st := s__law_name) l_17 c_17 k_17, fun us hl => match us, hl with | [_], _ => rfl, PySem.W.mg_of X G a_17⟩,
    ⟨f_18, _, fun_mk (st := s__law_leaf) l_18 c_18 k_18, fun us hl => match us, hl with | [_], _ => rfl, PySem.W.mg_of X G a_18⟩,
    ⟨f_19, _, fun_mk (st := s__law_due) l_19 c_19 k_19, fun us hl => match us, hl with | [_], _ => rfl, PySem.W.mg_of X G a_19⟩,
    ⟨f_20, _, fun_mk (st := s__law_odd) l_20 c_20 k_20, fun us hl => match us, hl with | [_], _ => rfl, PySem.W.mg_of X G a_20⟩,
    ⟨f_21, _, fun_mk (st := s__law_told) l_21 c_21 k_21, fun us hl => match us, hl with | [_], _ => rfl, PySem.W.mg_of X G a_21⟩,
    ⟨f_22, _, fun_mk (st := s__law_spoiled) l_22 c_22 k_22, fun us hl => match us, hl with | [_, _], _ => rfl, PySem.W.mg_of X G a_22⟩,
    ⟨f_23, _, fun_mk (st := s__law_signs) l_23 c_23 k_23, fun us hl => match us, hl with | [_], _ => rfl, PySem.W.mg_of X G a_23⟩,
    ⟨f_24, _, fun_mk (st := s__law_great) l_24 c_24 k_24, fun us hl => match us, hl with | [_], _ => rfl, PySem.W.mg_of X G a_24⟩,
    ⟨f_25, _, fun_mk (st := s__law_read_great) l_25 c_25 k_25, fun us hl => match us, hl with | [_], _ => rfl, PySem.W.mg_of X G a_25⟩,
    ⟨f_26, _, fun_mk (st := s__law_worded) l_26 c_26 k_26, fun us hl => match us, hl with | [_, _], _ => rfl, PySem.W.mg_of X G a_26⟩,
    ⟨f_27, _, fun_mk (st := s_law) l_27 c_27 k_27, fun us hl => match us, hl with | [_], _ => rfl, PySem.W.mg_of X G a_27⟩,
    ⟨t_LETTERS, PySem.W.mg_of X G g_LETTERS⟩,
    ⟨t_MOST_SIGNS, PySem.W.mg_of X G g_MOST_SIGNS⟩,
    ⟨t_MOST_DEPTH, PySem.W.mg_of X G g_MOST_DEPTH⟩,
    ⟨t_MOST_PARTS, PySem.W.mg_of X G g_MOST_PARTS⟩,
    ⟨t_MOST_GAP, PySem.W.mg_of X G g_MOST_GAP⟩,
    ⟨t_FIGURES, PySem.W.mg_of X G g_FIGURES⟩,
    ⟨cl_FormError, PySem.W.mg_of X G ca_FormError, cq_FormError, ck_FormError, cb_FormError, ct_FormError, chg_FormError, chk_FormError, chd_FormError, cha_FormError, chn_FormError, cht_FormError, chm_FormError, cv_FormError⟩,
    ⟨cl_NoForm, PySem.W.mg_of X G ca_NoForm, cq_NoForm, ck_NoForm, cb_NoForm, ct_NoForm, chg_NoForm, chk_NoForm, chd_NoForm, cha_NoForm, chn_NoForm, cht_NoForm, chm_NoForm, cv_NoForm⟩,
    ⟨cl_TooMany, PySem.W.mg_of X G ca_TooMany, cq_TooMany, ck_TooMany, cb_TooMany, ct_TooMany, chg_TooMany, chk_TooMany, chd_TooMany, cha_TooMany, chn_TooMany, cht_TooMany, chm_TooMany, cv_TooMany⟩,
    ⟨cl_BadNote, PySem.W.mg_of X G ca_BadNote, cq_BadNote, ck_BadNote, cb_BadNote, ct_BadNote, chg_BadNote, chk_BadNote, chd_BadNote, cha_BadNote, chn_BadNote, cht_BadNote, chm_BadNote, cv_BadNote⟩,
    fun C D hC hD => by rw [PySem.W.mg_of X G ca_FormError] at hC; rw [PySem.W.mg_of X G ca_FormError] at hD; cases hC; cases hD; exact ⟨p1_FormError_FormError, p2_FormError_FormError⟩,
    fun C D hC hD => by rw [PySem.W.mg_of X G ca_FormError] at hC; rw [PySem.W.mg_of X G ca_NoForm] at hD; cases hC; cases hD; exact ⟨p1_FormError_NoForm, p2_FormError_NoForm⟩,
    fun C D hC hD => by rw [PySem.W.mg_of X G ca_FormError] at hC; rw [PySem.W.mg_of X G ca_TooMany] at hD; cases hC; cases hD; exact ⟨p1_FormError_TooMany, p2_FormError_TooMany⟩,
    fun C D hC hD => by rw [PySem.W.mg_of X G ca_FormError] at hC; rw [PySem.W.mg_of X G ca_BadNote] at hD; cases hC; cases hD; exact ⟨p1_FormError_BadNote, p2_FormError_BadNote⟩,
    fun C D hC hD => by rw [PySem.W.mg_of X G ca_NoForm] at hC; rw [PySem.W.mg_of X G ca_FormError] at hD; cases hC; cases hD; exact ⟨p1_NoForm_FormError, p2_NoForm_FormError⟩,
    fun C D hC hD => by rw [PySem.W.mg_of X G ca_NoForm] at hC; rw [PySem.W.mg_of X G ca_NoForm] at hD; cases hC; cases hD; exact ⟨p1_NoForm_NoForm, p2_NoForm_NoForm⟩,
    fun C D hC hD => by rw [PySem.W.mg_of X G ca_NoForm] at hC; rw [PySem.W.mg_of X G ca_TooMany] at hD; cases hC; cases hD; exact ⟨p1_NoForm_TooMany, p2_NoForm_TooMany⟩,
    fun C D hC hD => by rw [PySem.W.mg_of X G ca_NoForm] at hC; rw [PySem.W.mg_of X G ca_BadNote] at hD; cases hC; cases hD; exact ⟨p1_NoForm_BadNote, p2_NoForm_BadNote⟩,
    fun C D hC hD => by rw [PySem.W.mg_of X G ca_TooMany] at hC; rw [PySem.W.mg_of X G ca_FormError] at hD; cases hC; cases hD; exact ⟨p1_TooMany_FormError, p2_TooMany_FormError⟩,
    fun C D hC hD => by rw [PySem.W.mg_of X G ca_TooMany] at hC; rw [PySem.W.mg_of X G ca_NoForm] at hD; cases hC; cases hD; exact ⟨p1_TooMany_NoForm, p2_TooMany_NoForm⟩,
    fun C D hC hD => by rw [PySem.W.mg_of X G ca_TooMany] at hC; rw [PySem.W.mg_of X G ca_TooMany] at hD; cases hC; cases hD; exact ⟨p1_TooMany_TooMany, p2_TooMany_TooMany⟩,
    fun C D hC hD => by rw [PySem.W.mg_of X G ca_TooMany] at hC; rw [PySem.W.mg_of X G ca_BadNote] at hD; cases hC; cases hD; exact ⟨p1_TooMany_BadNote, p2_TooMany_BadNote⟩,
    fun C D hC hD => by rw [PySem.W.mg_of X G ca_BadNote] at hC; rw [PySem.W.mg_of X G ca_FormError] at hD; cases hC; cases hD; exact ⟨p1_BadNote_FormError, p2_BadNote_FormError⟩,
    fun C D hC hD => by rw [PySem.W.mg_of X G ca_BadNote] at hC; rw [PySem.W.mg_of X G ca_NoForm] at hD; cases hC; cases hD; exact ⟨p1_BadNote_NoForm, p2_BadNote_NoForm⟩,
    fun C D hC hD => by rw [PySem.W.mg_of X G ca_BadNote] at hC; rw [PySem.W.mg_of X G ca_TooMany] at hD; cases hC; cases hD; exact ⟨p1_BadNote_TooMany, p2_BadNote_TooMany⟩,
    fun C D hC hD => by rw [PySem.W.mg_of X G ca_BadNote] at hC; rw [PySem.W.mg_of X G ca_BadNote] at hD; cases hC; cases hD; exact ⟨p1_BadNote_BadNote, p2_BadNote_BadNote⟩⟩

theorem walk {l : PySem.W.OpenLaw} {q : Program} {loose : List Str} {XP : (Str → Option Value) → Heap → Prop} {YP : World → Heap → Prop} {d : DefRec} {K : Params → PySem.W.Frag} (hn : l.most = some 63) (hdf : d.params.defaults = [])
    (hY : ∀ (w : World) (h : Heap), YP w h → (K w.params).In h)
    (F : ∀ (w : World) (mg : Str → Option Value) (fa : Addr) (h : Heap), (K w.params).In h → h.Ns mainGlobals mg → mg d.name = some (.ref fa) →
      ∃ fd : FuncData, (∀ (s : Shared) (u : Value), BindsTo s fd ⟨[u], []⟩ [("script", u)]) ∧ ∀ base : Heap, (K w.params).In base → base.Ns mainGlobals mg → FnOk l.prog w (K w.params) mg base CX0 95 fa fd ["script"] (spLaw (K w.params))) :
    PySem.W.WalkO q loose XP YP l.row.toRowW d [] (fun f vs => PySem.call f vs) :=
  L2.walk_of (n := 63) (k := 95) (x := "script") (CX := fun _ => CX0) (sp := fun w => spLaw (K w.params)) hn (by decide) hdf ⟨rfl, by decide, by decide⟩ hY F (fun _ _ a ns hl _ hS => ⟨a, ns, rfl, hS, hl, fun _ => rfl⟩) fun _ _ _ _ _ z => z
end Fx
open PySem PySem.W PyProof.Rows
set_option maxRecDepth 100000 in
set_option maxHeartbeats 0 in
theorem PySem.Challenge.cw_commonforms_k14_texts_refused_holds : PySem.Challenge.rw_commonforms_k14_texts_refused.Holds := by
  w_on; o_law; k_head; (case hw => w_witness2)
  k_fill
  refine Fx.walk (l := PySem.Challenge.rw_commonforms_k14_texts_refused) rfl rfl (fun w h Y => PySem.W.kIn_of Y) ?F
  case F =>
    intro w mg fa h KX G hmg
    refine' Fx.law_fn (Fx.tp_mk KX G ?a_0 ?l_0 ?c_0 ?k_0 ?a_1 ?l_1 ?c_1 ?k_1 ?a_2 ?l_2 ?c_2 ?k_2 ?a_3 ?l_3 ?c_3 ?k_3 ?a_4 ?l_4 ?c_4 ?k_4 ?a_5 ?l_5 ?c_5 ?k_5 ?a_6 ?l_6 ?c_6 ?k_6 ?a_7 ?l_7 ?c_7 ?k_7 ?a_8 ?l_8 ?c_8 ?k_8 ?a_9 ?l_9 ?c_9 ?k_9 ?a_10 ?l_10 ?c_10 ?k_10 ?a_11 ?l_11 ?c_11 ?k_11 ?a_12 ?l_12 ?c_12 ?k_12 ?a_13 ?l_13 ?c_13 ?k_13 ?a_14 ?l_14 ?c_14 ?k_14 ?a_15 ?l_15 ?c_15 ?k_15 ?a_16 ?l_16 ?c_16 ?k_16 ?a_17 ?l_17 ?c_17 ?k_17 ?a_18 ?l_18 ?c_18 ?k_18 ?a_19 ?l_19 ?c_19 ?k_19 ?a_20 ?l_20 ?c_20 ?k_20 ?a_21 ?l_21 ?c_21 ?k_21 ?a_22 ?l_22 ?c_22 ?k_22 ?a_23 ?l_23 ?c_23 ?k_23 ?a_24 ?l_24 ?c_24 ?k_24 ?a_25 ?l_25 ?c_25 ?k_25 ?a_26 ?l_26 ?c_26 ?k_26 ?a_27 ?l_27 ?c_27 ?k_27 ?z_len ?z_tuple ?z_isinstance ?z_dict ?z_str ?z_int ?z_sum ?z_range ?z_all ?z_max ?z_bool ?z_ValueError ?g_LETTERS ?g_MOST_SIGNS ?g_MOST_DEPTH ?g_MOST_PARTS ?g_MOST_GAP ?g_FIGURES ?ca_FormError ?cq_FormError ?ck_FormError ?cb_FormError ?ct_FormError ?chg_FormError ?chk_FormError ?chd_FormError ?cha_FormError ?chn_FormError ?cht_FormError ?chm_FormError ?cv_FormError ?ca_NoForm ?cq_NoForm ?ck_NoForm ?cb_NoForm ?ct_NoForm ?chg_NoForm ?chk_NoForm ?chd_NoForm ?cha_NoForm ?chn_NoForm ?cht_NoForm ?chm_NoForm ?cv_NoForm ?ca_TooMany ?cq_TooMany ?ck_TooMany ?cb_TooMany ?ct_TooMany ?chg_TooMany ?chk_TooMany ?chd_TooMany ?cha_TooMany ?chn_TooMany ?cht_TooMany ?chm_TooMany ?cv_TooMany ?ca_BadNote ?cq_BadNote ?ck_BadNote ?cb_BadNote ?ct_BadNote ?chg_BadNote ?chk_BadNote ?chd_BadNote ?cha_BadNote ?chn_BadNote ?cht_BadNote ?chm_BadNote ?cv_BadNote ?p1_FormError_FormError ?p2_FormError_FormError ?p1_FormError_NoForm ?p2_FormError_NoForm ?p1_FormError_TooMany ?p2_FormError_TooMany ?p1_FormError_BadNote ?p2_FormError_BadNote ?p1_NoForm_FormError ?p2_NoForm_FormError ?p1_NoForm_NoForm ?p2_NoForm_NoForm ?p1_NoForm_TooMany ?p2_NoForm_TooMany ?p1_NoForm_BadNote ?p2_NoForm_BadNote ?p1_TooMany_FormError ?p2_TooMany_FormError ?p1_TooMany_NoForm ?p2_TooMany_NoForm ?p1_TooMany_TooMany ?p2_TooMany_TooMany ?p1_TooMany_BadNote ?p2_TooMany_BadNote ?p1_BadNote_FormError ?p2_BadNote_FormError ?p1_BadNote_NoForm ?p2_BadNote_NoForm ?p1_BadNote_TooMany ?p2_BadNote_TooMany ?p1_BadNote_BadNote ?p2_BadNote_BadNote) hmg
    (case a_0 => k_is); (case l_0 => k_is); (case c_0 => k_is); (case k_0 => k_is)
    (case a_1 => k_is); (case l_1 => k_is); (case c_1 => k_is); (case k_1 => k_is)
    (case a_2 => k_is); (case l_2 => k_is); (case c_2 => k_is); (case k_2 => k_is)
    (case a_3 => k_is); (case l_3 => k_is); (case c_3 => k_is); (case k_3 => k_is)
    (case a_4 => k_is); (case l_4 => k_is); (case c_4 => k_is); (case k_4 => k_is)
    (case a_5 => k_is); (case l_5 => k_is); (case c_5 => k_is); (case k_5 => k_is)
    (case a_6 => k_is); (case l_6 => k_is); (case c_6 => k_is); (case k_6 => k_is)
    (case a_7 => k_is); (case l_7 => k_is); (case c_7 => k_is); (case k_7 => k_is)
    (case a_8 => k_is); (case l_8 => k_is); (case c_8 => k_is); (case k_8 => k_is)
    (case a_9 => k_is); (case l_9 => k_is); (case c_9 => k_is); (case k_9 => k_is)
    (case a_10 => k_is); (case l_10 => k_is); (case c_10 => k_is); (case k_10 => k_is)
    (case a_11 => k_is); (case l_11 => k_is); (case c_11 => k_is); (case k_11 => k_is)
    (case a_12 => k_is); (case l_12 => k_is); (case c_12 => k_is); (case k_12 => k_is)
    (case a_13 => k_is); (case l_13 => k_is); (case c_13 => k_is); (case k_13 => k_is)
    (case a_14 => k_is); (case l_14 => k_is); (case c_14 => k_is); (case k_14 => k_is)
    (case a_15 => k_is); (case l_15 => k_is); (case c_15 => k_is); (case k_15 => k_is)
    (case a_16 => k_is); (case l_16 => k_is); (case c_16 => k_is); (case k_16 => k_is)
    (case a_17 => k_is); (case l_17 => k_is); (case c_17 => k_is); (case k_17 => k_is)
    (case a_18 => k_is); (case l_18 => k_is); (case c_18 => k_is); (case k_18 => k_is)
    (case a_19 => k_is); (case l_19 => k_is); (case c_19 => k_is); (case k_19 => k_is)
    (case a_20 => k_is); (case l_20 => k_is); (case c_20 => k_is); (case k_20 => k_is)
    (case a_21 => k_is); (case l_21 => k_is); (case c_21 => k_is); (case k_21 => k_is)
    (case a_22 => k_is); (case l_22 => k_is); (case c_22 => k_is); (case k_22 => k_is)
    (case a_23 => k_is); (case l_23 => k_is); (case c_23 => k_is); (case k_23 => k_is)
    (case a_24 => k_is); (case l_24 => k_is); (case c_24 => k_is); (case k_24 => k_is)
    (case a_25 => k_is); (case l_25 => k_is); (case c_25 => k_is); (case k_25 => k_is)
    (case a_26 => k_is); (case l_26 => k_is); (case c_26 => k_is); (case k_26 => k_is)
    (case a_27 => k_is); (case l_27 => k_is); (case c_27 => k_is); (case k_27 => k_is)
    (case z_len => k_is)
    (case z_tuple => k_is)
    (case z_isinstance => k_is)
    (case z_dict => k_is)
    (case z_str => k_is)
    (case z_int => k_is)
    (case z_sum => k_is)
    (case z_range => k_is)
    (case z_all => k_is)
    (case z_max => k_is)
    (case z_bool => k_is)
    (case z_ValueError => k_is)
    (case g_LETTERS => k_is)
    (case g_MOST_SIGNS => k_is)
    (case g_MOST_DEPTH => k_is)
    (case g_MOST_PARTS => k_is)
    (case g_MOST_GAP => k_is)
    (case g_FIGURES => k_is)
    (case ca_FormError => k_is)
    (case cq_FormError => k_exc)
    (case ck_FormError => k_is)
    (case cb_FormError => k_is)
    (case ct_FormError => k_is)
    (case chg_FormError => k_is)
    (case chk_FormError => k_is)
    (case chd_FormError => k_is)
    (case cha_FormError => k_is)
    (case chn_FormError => k_is)
    (case cht_FormError => k_is)
    (case chm_FormError => k_is)
    (case cv_FormError => kit_is)
    (case ca_NoForm => k_is)
    (case cq_NoForm => k_exc)
    (case ck_NoForm => k_is)
    (case cb_NoForm => k_is)
    (case ct_NoForm => k_is)
    (case chg_NoForm => k_is)
    (case chk_NoForm => k_is)
    (case chd_NoForm => k_is)
    (case cha_NoForm => k_is)
    (case chn_NoForm => k_is)
    (case cht_NoForm => k_is)
    (case chm_NoForm => k_is)
    (case cv_NoForm => kit_is)
    (case ca_TooMany => k_is)
    (case cq_TooMany => k_exc)
    (case ck_TooMany => k_is)
    (case cb_TooMany => k_is)
    (case ct_TooMany => k_is)
    (case chg_TooMany => k_is)
    (case chk_TooMany => k_is)
    (case chd_TooMany => k_is)
    (case cha_TooMany => k_is)
    (case chn_TooMany => k_is)
    (case cht_TooMany => k_is)
    (case chm_TooMany => k_is)
    (case cv_TooMany => kit_is)
    (case ca_BadNote => k_is)
    (case cq_BadNote => k_exc)
    (case ck_BadNote => k_is)
    (case cb_BadNote => k_is)
    (case ct_BadNote => k_is)
    (case chg_BadNote => k_is)
    (case chk_BadNote => k_is)
    (case chd_BadNote => k_is)
    (case cha_BadNote => k_is)
    (case chn_BadNote => k_is)
    (case cht_BadNote => k_is)
    (case chm_BadNote => k_is)
    (case cv_BadNote => kit_is)
    (case p1_FormError_FormError => kit_is)
    (case p2_FormError_FormError => k_is)
    (case p1_FormError_NoForm => kit_is)
    (case p2_FormError_NoForm => k_is)
    (case p1_FormError_TooMany => kit_is)
    (case p2_FormError_TooMany => k_is)
    (case p1_FormError_BadNote => kit_is)
    (case p2_FormError_BadNote => k_is)
    (case p1_NoForm_FormError => kit_is)
    (case p2_NoForm_FormError => k_is)
    (case p1_NoForm_NoForm => kit_is)
    (case p2_NoForm_NoForm => k_is)
    (case p1_NoForm_TooMany => kit_is)
    (case p2_NoForm_TooMany => k_is)
    (case p1_NoForm_BadNote => kit_is)
    (case p2_NoForm_BadNote => k_is)
    (case p1_TooMany_FormError => kit_is)
    (case p2_TooMany_FormError => k_is)
    (case p1_TooMany_NoForm => kit_is)
    (case p2_TooMany_NoForm => k_is)
    (case p1_TooMany_TooMany => kit_is)
    (case p2_TooMany_TooMany => k_is)
    (case p1_TooMany_BadNote => kit_is)
    (case p2_TooMany_BadNote => k_is)
    (case p1_BadNote_FormError => kit_is)
    (case p2_BadNote_FormError => k_is)
    (case p1_BadNote_NoForm => kit_is)
    (case p2_BadNote_NoForm => k_is)
    (case p1_BadNote_TooMany => kit_is)
    (case p2_BadNote_TooMany => k_is)
    (case p1_BadNote_BadNote => kit_is)
    (case p2_BadNote_BadNote => k_is)
