import PyProof.Rows.All
import Wide.All
import OpenK.AllK
import Wide.FinOn
import HandS.ForMost
import HandS.Walk
import HandS.Zip
import HandS.Exc
import HandS.ExcInit
import HandS.TupAny
import HandS.TupMul
import HandS.Wide
import HandS.IsInst
import HandS.Style
import HandS.SortInts
import HandS.Conv
import KE.GoesNew
import HandS.Defaults
import HandS.ExcOwn
import HandS.ExcIs
import HandS.ExcField
import HandS.WordsExc
import KE.KExcInit
import KE.KExcIs
import KE.KTryMore
import HandS.ExcValue
import HandS.CallSlots
import HandS.RaiseMore
import KE.KDictZip
import KE.KRevSl
import PyProof.StrLawsRepr
import HandS.SetFor
import HandS.Strs
import HandS.TryOnly
import PySem.Challenge.RW_middlecall_k05_changed_people_and_parts
set_option Elab.async false
set_option linter.all false
set_option maxRecDepth 100000
set_option maxHeartbeats 4000000
/-! DL: a layer of plain data over the hand layer. Rp: a value stands for data within the frozen heap Z; St: the slots stand for an environment. -/
namespace DL
open PySem L2
abbrev D := PyData
/-- at a: an exception of the class at C with its dict at d -/
def exk (a C d : Addr) : HO := .ext fun h => ∃ (oe : Obj) (vs : Array Value), h.get? a = some oe ∧ Zc (.ref C) (some d) oe ∧ oe.data = .fields vs
/-- the class that a module's name holds -/
def Cls (K : PySem.W.Frag) (c : Str) (C : Addr) : Prop := PySem.W.nsIn K mainGlobals c = some (some (.ref C))
/-- the one field of each error class -/
def fldT : List (Str × Str) := [("NoPerson", "person"), ("NoPlace", "place"), ("NoNumber", "number"), ("NoDeed", "many"), ("OtherPeople", "many"), ("NotWay", "calls"), ("BadDeed", "at"), ("BadText", "text"), ("BadLine", "at"), ("Barred", "reason"), ("TooMany", "many"), ("Full", "many")]
def fld (c : Str) : Str := (fldT.lookup c).getD ""
/-- an exception as data: its class, its field -/
abbrev excD (c : Str) (d : D) : D := .dict [(.none, .str c), (.none, d)]
mutual
/-- v stands for the data, by what the (frozen) heap Z tells -/
inductive Rp (K : PySem.W.Frag) (Z : Hp) : V → D → Prop
  | non : Rp K Z .non .none
  | bl (b : Bool) : Rp K Z (.bl b) (.bool b)
  | int (i : Int) : Rp K Z (.int i) (.int i)
  | str (x : Str) : Rp K Z (.str x) (.str x)
  | lst {a : Addr} {xs : List V} {ds : List D} : Z a = some (.lst xs) → RpA K Z xs ds → Rp K Z (.ref a) (.list ds)
  | scr {a : Addr} {xs : List V} {ds : List D} : SqL K Z a xs → RpA K Z xs ds → Rp K Z (.ref a) (.dict [(.list ds, .none)])
  | tup {a : Addr} {xs : List V} {ds : List D} : SqT K Z a xs → RpA K Z xs ds → Rp K Z (.ref a) (.tuple ds)
  | exc {a C dx : Addr} {c : Str} {v : V} {d : D} : Z a = some (exk a C dx) → Z dx = some (.xd [(fld c, v)]) → Cls K c C → Rp K Z v d → Rp K Z (.ref a) (.dict [(.none, .str c), (.none, d)])
inductive RpA (K : PySem.W.Frag) (Z : Hp) : List V → List D → Prop
  | nil : RpA K Z [] []
  | cons {v : V} {vs : List V} {d : D} {ds : List D} : Rp K Z v d → RpA K Z vs ds → RpA K Z (v :: vs) (d :: ds)
end
section
variable {K : PySem.W.Frag} {Z Z' H H' : Hp}
theorem same_rd {a : Addr} {u : HO} (e : Same Z Z') (h : Rd Z a u) : Rd Z' a u := by
  rcases h with h | ⟨o, h⟩
  · exact .inl (e _ _ h)
  · exact .inr ⟨o, e _ _ h⟩
theorem same_t {a : Addr} {xs : List V} (e : Same Z Z') (h : SqT K Z a xs) : SqT K Z' a xs := by
  rcases h with h | h
  · exact .inl (same_rd e h)
  · exact .inr h
theorem same_l {a : Addr} {xs : List V} (e : Same Z Z') (h : SqL K Z a xs) : SqL K Z' a xs := e.seq h
mutual
theorem Rp.mono (e : Same Z Z') : ∀ {v : V} {d : D}, Rp K Z v d → Rp K Z' v d
  | _, _, .non => .non
  | _, _, .bl b => .bl b
  | _, _, .int i => .int i
  | _, _, .str x => .str x
  | _, _, .lst h r => .lst (e _ _ h) (RpA.mono e r)
  | _, _, .scr h r => .scr (same_l e h) (RpA.mono e r)
  | _, _, .tup h r => .tup (same_t e h) (RpA.mono e r)
  | _, _, .exc h1 h2 h3 r => .exc (e _ _ h1) (e _ _ h2) h3 (Rp.mono e r)
theorem RpA.mono (e : Same Z Z') : ∀ {vs : List V} {ds : List D}, RpA K Z vs ds → RpA K Z' vs ds
  | _, _, .nil => .nil
  | _, _, .cons h r => .cons (Rp.mono e h) (RpA.mono e r)
end
mutual
def noD : D → Bool
  | .none => true
  | .bool _ => true
  | .int _ => true
  | .str _ => true
  | .list xs => noDs xs
  | .tuple xs => noDs xs
  | .dict _ => false
def noDs : List D → Bool
  | [] => true
  | x :: xs => noD x && noDs xs
end
mutual
theorem Rp.dp : ∀ {v : V} {d : D}, Rp K Z v d → noD d = true → Dp K Z v d
  | _, _, .non, _ => .non
  | _, _, .bl b, _ => .bl b
  | _, _, .int i, _ => .int i
  | _, _, .str x, _ => .str x
  | _, _, .lst h r, n => .lst (.inl (.inl h)) (RpA.dp r (by unfold noD at n; exact n))
  | _, _, .tup h r, n => .tup h (RpA.dp r (by unfold noD at n; exact n))
  | _, _, .scr h r, n => by unfold noD at n; cases n
  | _, _, .exc h1 h2 h3 r, n => by unfold noD at n; cases n
theorem RpA.dp : ∀ {vs : List V} {ds : List D}, RpA K Z vs ds → noDs ds = true → DpAll K Z vs ds
  | _, _, .nil, _ => .nil
  | _, _, .cons h r, n => by
    unfold noDs at n
    rw [Bool.and_eq_true] at n
    exact .cons (Rp.dp h n.1) (RpA.dp r n.2)
end
theorem RpA.length : ∀ {vs : List V} {ds : List D}, RpA K Z vs ds → vs.length = ds.length
  | _, _, .nil => rfl
  | _, _, .cons _ r => by rw [List.length_cons, List.length_cons, RpA.length r]
theorem RpA.get : ∀ {vs : List V} {ds : List D} {i : Nat} {d : D}, RpA K Z vs ds → ds[i]? = some d → ∃ v, vs[i]? = some v ∧ Rp K Z v d
  | _, _, _, _, .nil, h => by simp at h
  | _, _, 0, _, .cons (v := v) q _, h => ⟨v, rfl, by simp at h; subst h; exact q⟩
  | _, _, i + 1, _, .cons _ r, h => by
    obtain ⟨v, e, q⟩ := RpA.get (i := i) r (by simpa using h)
    exact ⟨v, by simpa using e, q⟩
theorem RpA.getV : ∀ {vs : List V} {ds : List D} {i : Nat} {v : V}, RpA K Z vs ds → vs[i]? = some v → ∃ d, ds[i]? = some d ∧ Rp K Z v d
  | _, _, _, _, .nil, h => by simp at h
  | _, _, 0, _, .cons (d := d) q _, h => ⟨d, rfl, by simp at h; subst h; exact q⟩
  | _, _, i + 1, _, .cons _ r, h => by
    obtain ⟨v, e, q⟩ := RpA.getV (i := i) r (by simpa using h)
    exact ⟨v, by simpa using e, q⟩
theorem RpA.append : ∀ {vs us : List V} {ds es : List D}, RpA K Z vs ds → RpA K Z us es → RpA K Z (vs ++ us) (ds ++ es)
  | _, _, _, _, .nil, s => s
  | _, _, _, _, .cons h r, s => .cons h (RpA.append r s)
theorem RpA.one {v : V} {d : D} (h : Rp K Z v d) : RpA K Z [v] [d] := .cons h .nil
theorem RpA.take : ∀ {vs : List V} {ds : List D} (n : Nat), RpA K Z vs ds → RpA K Z (vs.take n) (ds.take n)
  | _, _, 0, _ => .nil
  | _, _, _ + 1, .nil => .nil
  | _, _, n + 1, .cons h r => .cons h (RpA.take n r)
theorem RpA.drop : ∀ {vs : List V} {ds : List D} (n : Nat), RpA K Z vs ds → RpA K Z (vs.drop n) (ds.drop n)
  | _, _, 0, r => r
  | _, _, _ + 1, .nil => .nil
  | _, _, n + 1, .cons _ r => RpA.drop n r
theorem RpA.set {v : V} {d : D} (q : Rp K Z v d) : ∀ {vs : List V} {ds : List D} (n : Nat), RpA K Z vs ds → RpA K Z (vs.set n v) (ds.set n d)
  | _, _, _, .nil => .nil
  | _, _, 0, .cons _ r => .cons q r
  | _, _, n + 1, .cons h r => .cons h (RpA.set q n r)
theorem RpA.reverse : ∀ {vs : List V} {ds : List D}, RpA K Z vs ds → RpA K Z vs.reverse ds.reverse
  | _, _, .nil => .nil
  | _, _, .cons h r => by
    rw [List.reverse_cons, List.reverse_cons]
    exact (RpA.reverse r).append (.one h)
theorem RpA.ints : ∀ (ns : List Int), RpA K Z (ns.map V.int) (ns.map PyData.int)
  | [] => .nil
  | n :: r => .cons (.int n) (RpA.ints r)
theorem RpA.of_ints : ∀ {vs : List V} {ns : List Int}, RpA K Z vs (ns.map PyData.int) → vs = ns.map V.int
  | _, [], .nil => rfl
  | _, n :: r, .cons h t => by
    cases h
    rw [List.map_cons, RpA.of_ints t]
theorem RpA.of_bools : ∀ {vs : List V} {ns : List Bool}, RpA K Z vs (ns.map PyData.bool) → vs = ns.map V.bl
  | _, [], .nil => rfl
  | _, n :: r, .cons h t => by
    cases h
    rw [List.map_cons, RpA.of_bools t]
theorem RpA.of_strs : ∀ {vs : List V} {ns : List Str}, RpA K Z vs (ns.map PyData.str) → vs = ns.map V.str
  | _, [], .nil => rfl
  | _, n :: r, .cons h t => by
    cases h
    rw [List.map_cons, RpA.of_strs t]
theorem RpA.strs : ∀ (ns : List Str), RpA K Z (ns.map V.str) (ns.map PyData.str)
  | [] => .nil
  | n :: r => .cons (.str n) (RpA.strs r)
end

/-! ### environments -/
/-- a slot: nothing known, shared data, a list of one's own -/
inductive Sl where
  | no
  | sh (d : D)
  | ow (ds : List D)
abbrev Rho := List Sl
/-- B: what stood at the entry (and stays); Z0: what was frozen there; Z: what is frozen now -/
structure Ok (K : PySem.W.Frag) (b0 : Option Addr) (B Z0 Z H : Hp) (σ : L2.St) (ρ : Rho) : Prop where
  len : σ.length = ρ.length
  bh : Same B H
  zh : Same Z H
  zz : Same Z0 Z
  nb : ∀ p o, Z p = some o → Z0 p = some o ∨ B p = none
  sh : ∀ (i : Nat) (d : D), ρ[i]? = some (.sh d) → ∃ v, σ[i]? = some (some v) ∧ Rp K Z v d
  ow : ∀ (i : Nat) (ds : List D), ρ[i]? = some (.ow ds) → ∃ p vs, σ[i]? = some (some (.ref p)) ∧ Z p = none ∧ B p = none ∧ H p = some (.lst vs) ∧ RpA K Z vs ds
  fix : ∀ a, b0 = some a → ∀ ds, ρ[0]? = some (.ow ds) → σ[0]? = some (some (.ref a))
  sep : ∀ (i j : Nat) (p : Addr) (ds es : List D), ρ[i]? = some (.ow ds) → ρ[j]? = some (.ow es) → σ[i]? = some (some (.ref p)) → σ[j]? = some (some (.ref p)) → i = j
/-- p is none of the owned lists -/
def Apart (σ : L2.St) (ρ : Rho) (p : Addr) : Prop := ∀ (i : Nat) (ds : List D), ρ[i]? = some (.ow ds) → σ[i]? ≠ some (some (.ref p))
section
variable {K : PySem.W.Frag} {b0 : Option Addr} {B Z0 Z H : Hp} {σ : L2.St} {ρ : Rho} {p : Addr} {o : HO}
/-- a new object, frozen at once -/
theorem Ok.new (h : Ok K b0 B Z0 Z H σ ρ) (hp : H p = none) : Ok K b0 B Z0 (upd Z p o) (upd H p o) σ ρ ∧ Same Z (upd Z p o) := by
  have zp : Z p = none := h.zh.free hp
  have bp : B p = none := h.bh.free hp
  have sz : Same Z (upd Z p o) := fun b x e => by rw [upd_ne (ne_of_none e zp)]; exact e
  refine ⟨⟨h.len, fun b x e => ?_, fun b x e => ?_, h.zz.trans sz, fun b x e => ?_, fun i d e => ?_, fun i ds e => ?_, h.fix, h.sep⟩, sz⟩
  · rw [upd_ne (ne_of_none e bp)]; exact h.bh b x e
  · by_cases hb : b = p
    · subst hb; rw [upd_same] at e ⊢; exact e
    · rw [upd_ne hb] at e ⊢; exact h.zh b x e
  · by_cases hb : b = p
    · subst hb; exact .inr bp
    · rw [upd_ne hb] at e; exact h.nb b x e
  · obtain ⟨v, e1, e2⟩ := h.sh i d e
    exact ⟨v, e1, e2.mono sz⟩
  · obtain ⟨q, vs, e1, e2, e3, e4, e5⟩ := h.ow i ds e
    have nq : q ≠ p := ne_of_none e4 hp
    exact ⟨q, vs, e1, by rw [upd_ne nq]; exact e2, e3, by rw [upd_ne nq]; exact e4, e5.mono sz⟩
/-- a new object, not frozen -/
theorem Ok.fresh (h : Ok K b0 B Z0 Z H σ ρ) (hp : H p = none) : Ok K b0 B Z0 Z (upd H p o) σ ρ ∧ Z p = none ∧ B p = none ∧ Apart σ ρ p := by
  have zp : Z p = none := h.zh.free hp
  have bp : B p = none := h.bh.free hp
  refine ⟨⟨h.len, fun b x e => ?_, fun b x e => ?_, h.zz, h.nb, h.sh, fun i ds e => ?_, h.fix, h.sep⟩, zp, bp, fun i ds e q => ?_⟩
  · rw [upd_ne (ne_of_none e bp)]; exact h.bh b x e
  · rw [upd_ne (ne_of_none e zp)]; exact h.zh b x e
  · obtain ⟨q, vs, e1, e2, e3, e4, e5⟩ := h.ow i ds e
    have nq : q ≠ p := ne_of_none e4 hp
    exact ⟨q, vs, e1, e2, e3, by rw [upd_ne nq]; exact e4, e5⟩
  · obtain ⟨q', vs, e1, e2, e3, e4, e5⟩ := h.ow i ds e
    rw [e1] at q
    cases q
    rw [hp] at e4
    cases e4
/-- an object that nobody else knows is frozen -/
theorem Ok.freeze (h : Ok K b0 B Z0 Z H σ ρ) (zp : Z p = none) (bp : B p = none) (ap : Apart σ ρ p) (hp : H p = some o) : Ok K b0 B Z0 (upd Z p o) H σ ρ ∧ Same Z (upd Z p o) := by
  have sz : Same Z (upd Z p o) := fun b x e => by rw [upd_ne (ne_of_none e zp)]; exact e
  refine ⟨⟨h.len, h.bh, fun b x e => ?_, h.zz.trans sz, fun b x e => ?_, fun i d e => ?_, fun i ds e => ?_, h.fix, h.sep⟩, sz⟩
  · by_cases hb : b = p
    · subst hb; rw [upd_same] at e; rw [← e]; exact hp
    · rw [upd_ne hb] at e; exact h.zh b x e
  · by_cases hb : b = p
    · subst hb; exact .inr bp
    · rw [upd_ne hb] at e; exact h.nb b x e
  · obtain ⟨v, e1, e2⟩ := h.sh i d e
    exact ⟨v, e1, e2.mono sz⟩
  · obtain ⟨q, vs, e1, e2, e3, e4, e5⟩ := h.ow i ds e
    have nq : q ≠ p := fun z => ap i ds e (by rw [e1, z])
    exact ⟨q, vs, e1, by rw [upd_ne nq]; exact e2, e3, e4, e5.mono sz⟩
/-- an object that nobody else knows changes -/
theorem Ok.write (h : Ok K b0 B Z0 Z H σ ρ) (zp : Z p = none) (bp : B p = none) (ap : Apart σ ρ p) : Ok K b0 B Z0 Z (upd H p o) σ ρ := by
  refine ⟨h.len, fun b x e => ?_, fun b x e => ?_, h.zz, h.nb, h.sh, fun i ds e => ?_, h.fix, h.sep⟩
  · rw [upd_ne (ne_of_none e bp)]; exact h.bh b x e
  · rw [upd_ne (ne_of_none e zp)]; exact h.zh b x e
  · obtain ⟨q, vs, e1, e2, e3, e4, e5⟩ := h.ow i ds e
    have nq : q ≠ p := fun z => ap i ds e (by rw [e1, z])
    exact ⟨q, vs, e1, e2, e3, by rw [upd_ne nq]; exact e4, e5⟩
theorem set_get {α : Type} {l : List α} {i j : Nat} {x y : α} (h : (l.set i x)[j]? = some y) : (i = j ∧ x = y) ∨ (i ≠ j ∧ l[j]? = some y) := by
  by_cases hij : i = j
  · subst hij
    by_cases hl : i < l.length
    · rw [List.getElem?_set_self hl] at h
      exact .inl ⟨rfl, Option.some.inj h⟩
    · rw [List.getElem?_eq_none (by simpa using hl)] at h
      cases h
  · rw [List.getElem?_set_ne hij] at h
    exact .inr ⟨hij, h⟩
/-- shared data goes into a slot -/
theorem Ok.put {i : Nat} {v : V} {d : D} (h : Ok K b0 B Z0 Z H σ ρ) (r : Rp K Z v d) : Ok K b0 B Z0 Z H (σ.set i (some v)) (ρ.set i (.sh d)) := by
  have hl := h.len
  refine ⟨by rw [List.length_set, List.length_set]; exact hl, h.bh, h.zh, h.zz, h.nb, fun j d' e => ?_, fun j ds e => ?_, fun a ha ds e => ?_, fun j k q ds es e1 e2 e3 e4 => ?_⟩
  · by_cases hij : i = j
    · subst hij
      have hi : i < ρ.length := by
        by_cases q : i < ρ.length
        · exact q
        · rw [List.getElem?_eq_none (by simpa using q)] at e; cases e
      rw [List.getElem?_set_self hi] at e
      cases e
      exact ⟨v, by rw [List.getElem?_set_self (by omega)], r⟩
    · rw [List.getElem?_set_ne hij] at e
      rw [List.getElem?_set_ne hij]
      exact h.sh j d' e
  · rcases set_get e with ⟨_, z⟩ | ⟨n, e⟩
    · cases z
    · rw [List.getElem?_set_ne n]
      exact h.ow j ds e
  · rcases set_get e with ⟨_, z⟩ | ⟨n, e⟩
    · cases z
    · rw [List.getElem?_set_ne n]
      exact h.fix a ha ds e
  · rcases set_get e1 with ⟨_, z⟩ | ⟨n1, e1⟩
    · cases z
    · rcases set_get e2 with ⟨_, z⟩ | ⟨n2, e2⟩
      · cases z
      · rw [List.getElem?_set_ne n1] at e3
        rw [List.getElem?_set_ne n2] at e4
        exact h.sep j k q ds es e1 e2 e3 e4
/-- an own list goes into a slot -/
theorem Ok.putO {i : Nat} {vs : List V} {ds : List D} (h : Ok K b0 B Z0 Z H σ ρ) (zp : Z p = none) (bp : B p = none) (ap : Apart σ ρ p) (hp : H p = some (.lst vs)) (r : RpA K Z vs ds) (hf : ∀ a, b0 = some a → i = 0 → p = a) :
    Ok K b0 B Z0 Z H (σ.set i (some (.ref p))) (ρ.set i (.ow ds)) := by
  have hl := h.len
  refine ⟨by rw [List.length_set, List.length_set]; exact hl, h.bh, h.zh, h.zz, h.nb, fun j d' e => ?_, fun j es e => ?_, fun a ha ds e => ?_, fun j k q as es e1 e2 e3 e4 => ?_⟩
  · rcases set_get e with ⟨_, z⟩ | ⟨n, e⟩
    · cases z
    · rw [List.getElem?_set_ne n]
      exact h.sh j d' e
  · by_cases hij : i = j
    · subst hij
      have hi : i < ρ.length := by
        by_cases q : i < ρ.length
        · exact q
        · rw [List.getElem?_eq_none (by simpa using q)] at e; cases e
      rw [List.getElem?_set_self hi] at e
      cases e
      exact ⟨p, vs, by rw [List.getElem?_set_self (by omega)], zp, bp, hp, r⟩
    · rw [List.getElem?_set_ne hij] at e
      rw [List.getElem?_set_ne hij]
      exact h.ow j es e
  · by_cases hi0 : i = 0
    · subst hi0
      have hl0 : 0 < ρ.length := by
        by_cases q : 0 < ρ.length
        · exact q
        · rw [List.getElem?_eq_none (by rw [List.length_set]; omega)] at e; cases e
      rw [hf a ha rfl, List.getElem?_set_self (by omega)]
    · rw [List.getElem?_set_ne hi0] at e
      rw [List.getElem?_set_ne hi0]
      exact h.fix a ha ds e
  · rcases set_get e1 with ⟨i1, _⟩ | ⟨n1, e1⟩
    · rcases set_get e2 with ⟨i2, _⟩ | ⟨n2, e2⟩
      · rw [← i1, ← i2]
      · rw [List.getElem?_set_ne n2] at e4
        rcases set_get e3 with ⟨_, z⟩ | ⟨n, _⟩
        · cases z; exact absurd e4 (ap k es e2)
        · exact absurd i1 n
    · rw [List.getElem?_set_ne n1] at e3
      rcases set_get e2 with ⟨i2, _⟩ | ⟨n2, e2⟩
      · rcases set_get e4 with ⟨_, z⟩ | ⟨n, _⟩
        · cases z; exact absurd e3 (ap j as e1)
        · exact absurd i2 n
      · rw [List.getElem?_set_ne n2] at e4
        exact h.sep j k q as es e1 e2 e3 e4
/-- forgetting slots -/
theorem Ok.weak {σ' : L2.St} {ρ' : Rho} (h : Ok K b0 B Z0 Z H σ ρ) (hl : σ'.length = ρ'.length) (hs : ∀ (i : Nat) (s : Sl), ρ'[i]? = some s → s = .no ∨ (ρ[i]? = some s ∧ σ'[i]? = σ[i]?)) : Ok K b0 B Z0 Z H σ' ρ' := by
  refine ⟨hl, h.bh, h.zh, h.zz, h.nb, fun j d e => ?_, fun j ds e => ?_, fun a ha ds e => ?_, fun j k q as es e1 e2 e3 e4 => ?_⟩
  · rcases hs j _ e with z | ⟨z, y⟩
    · cases z
    · rw [y]; exact h.sh j d z
  · rcases hs j _ e with z | ⟨z, y⟩
    · cases z
    · rw [y]; exact h.ow j ds z
  · rcases hs 0 _ e with z | ⟨z, y⟩
    · cases z
    · rw [y]; exact h.fix a ha ds z
  · rcases hs j _ e1 with z | ⟨z1, y1⟩
    · cases z
    · rcases hs k _ e2 with z | ⟨z2, y2⟩
      · cases z
      · rw [y1] at e3
        rw [y2] at e4
        exact h.sep j k q as es z1 z2 e3 e4
end
end DL

namespace DL
open PySem L2
/-- a result: a value and the environment behind it; an exception of a class by its name, with its one field; nothing that is told -/
inductive R (α : Type) where
  | ok (a : α) (ρ : Rho)
  | ex (c : Str) (d : D) (ρ : Rho)
  | bad
def R.bind {α β : Type} (r : R α) (f : α → Rho → R β) : R β := match r with
  | .ok a ρ => f a ρ
  | .ex c d ρ => .ex c d ρ
  | .bad => .bad
def R.map {α β : Type} (f : α → β) (r : R α) : R β := match r with
  | .ok a ρ => .ok (f a) ρ
  | .ex c d ρ => .ex c d ρ
  | .bad => .bad
def R.lift {α : Type} (x : Option α) (ρ : Rho) : R α := match x with
  | some a => .ok a ρ
  | none => .bad
theorem R.bind_ok {α β : Type} {r : R α} {f : α → Rho → R β} {b : β} {ρ' : Rho} (h : r.bind f = .ok b ρ') : ∃ a ρ1, r = .ok a ρ1 ∧ f a ρ1 = .ok b ρ' := by
  cases r with
  | ok a ρ1 => exact ⟨a, ρ1, rfl, h⟩
  | ex c d ρ1 => cases h
  | bad => cases h
theorem R.map_ok {α β : Type} {r : R α} {f : α → β} {b : β} {ρ' : Rho} (h : r.map f = .ok b ρ') : ∃ a, r = .ok a ρ' ∧ f a = b := by
  cases r with
  | ok a ρ1 => cases h; exact ⟨a, rfl, rfl⟩
  | ex c d ρ1 => cases h
  | bad => cases h
theorem R.lift_ok {α : Type} {x : Option α} {ρ ρ' : Rho} {a : α} (h : R.lift x ρ = .ok a ρ') : x = some a ∧ ρ = ρ' := by
  cases x with
  | some b => cases h; exact ⟨rfl, rfl⟩
  | none => cases h
@[simp] theorem R.ok_bind {α β : Type} (a : α) (ρ : Rho) (f : α → Rho → R β) : (R.ok a ρ).bind f = f a ρ := rfl
@[simp] theorem R.ok_map {α β : Type} (a : α) (ρ : Rho) (f : α → β) : (R.ok a ρ).map f = .ok (f a) ρ := rfl
@[simp] theorem R.lift_some {α : Type} (a : α) (ρ : Rho) : R.lift (some a) ρ = .ok a ρ := rfl
/-- an operand: data, or the list of one's own in a slot -/
inductive Op where
  | val (d : D)
  | own (i : Nat)
def Op.res (o : Op) (ρ : Rho) : Option D := match o with
  | .val d => some d
  | .own i => match ρ[i]? with
    | some (.ow ds) => some (.list ds)
    | _ => none
abbrev GE := Rho → R D
abbrev GO := Rho → R Op
abbrev GT := Rho → R Bool
abbrev GF := Rho → R (List D)
abbrev GA := Rho → R (List Op)
/-- v stands for data by H, its items by Z -/
inductive Bd (K : PySem.W.Frag) (Z H : Hp) : V → D → Prop
  | non : Bd K Z H .non .none
  | bl (b : Bool) : Bd K Z H (.bl b) (.bool b)
  | int (i : Int) : Bd K Z H (.int i) (.int i)
  | str (x : Str) : Bd K Z H (.str x) (.str x)
  | lst {a : Addr} {xs : List V} {ds : List D} : H a = some (.lst xs) → RpA K Z xs ds → Bd K Z H (.ref a) (.list ds)
  | scr {a : Addr} {xs : List V} {ds : List D} : SqL K H a xs → RpA K Z xs ds → Bd K Z H (.ref a) (.dict [(.list ds, .none)])
  | tup {a : Addr} {xs : List V} {ds : List D} : SqT K Z a xs → RpA K Z xs ds → Bd K Z H (.ref a) (.tuple ds)
  | exc {a C dx : Addr} {c : Str} {v : V} {d : D} : Z a = some (exk a C dx) → Z dx = some (.xd [(fld c, v)]) → Cls K c C → Rp K Z v d → Bd K Z H (.ref a) (.dict [(.none, .str c), (.none, d)])
inductive BdA (K : PySem.W.Frag) (Z H : Hp) : List V → List D → Prop
  | nil : BdA K Z H [] []
  | cons {v : V} {vs : List V} {d : D} {ds : List D} : Bd K Z H v d → BdA K Z H vs ds → BdA K Z H (v :: vs) (d :: ds)
def OpR' (K : PySem.W.Frag) (Z : Hp) (σ : L2.St) (v : V) : Op → Prop
  | .val d => Rp K Z v d
  | .own i => σ[i]? = some (some v)
section
variable {K : PySem.W.Frag} {b0 : Option Addr} {B Z0 Z Z' H : Hp} {σ : L2.St} {ρ : Rho} {v : V} {d : D}
theorem Rp.bd (r : Rp K Z v d) (e : Same Z H) : Bd K Z H v d := by
  cases r with
  | non => exact .non
  | bl b => exact .bl b
  | int i => exact .int i
  | str x => exact .str x
  | lst h r => exact .lst (e _ _ h) r
  | scr h r => exact .scr (same_l e h) r
  | tup h r => exact .tup h r
  | exc h1 h2 h3 r => exact .exc h1 h2 h3 r
theorem OpR'.mono (e : Same Z Z') {o : Op} (h : OpR' K Z σ v o) : OpR' K Z' σ v o := by
  cases o with
  | val d => exact Rp.mono e h
  | own i => exact h
theorem Ok.bd (h : Ok K b0 B Z0 Z H σ ρ) {o : Op} (ho : OpR' K Z σ v o) (e : o.res ρ = some d) : Bd K Z H v d := by
  cases o with
  | val d' => cases e; exact Rp.bd ho h.zh
  | own i =>
    unfold Op.res at e
    dsimp only at e
    split at e
    · rename_i ds hi
      cases e
      obtain ⟨p, vs, e1, e2, e3, e4, e5⟩ := h.ow i ds hi
      have e6 : σ[i]? = some (some v) := ho
      rw [e1] at e6
      cases e6
      exact .lst e4 e5
    · cases e
end
/-! ### judgements -/
/-- an expression that gives data -/
def DE (K : PySem.W.Frag) (t : TE) (g : GE) : Prop := ∀ b0 B Z0 Z H σ ρ d ρ' (Q : VK), Ok K b0 B Z0 Z H σ ρ → g ρ = .ok d ρ' → (∀ v H' Z', Ok K b0 B Z0 Z' H' σ ρ' → Same Z Z' → Rp K Z' v d → Q v H') → t σ H Q
/-- .. an operand -/
def DO (K : PySem.W.Frag) (t : TE) (g : GO) : Prop := ∀ b0 B Z0 Z H σ ρ o ρ' (Q : VK), Ok K b0 B Z0 Z H σ ρ → g ρ = .ok o ρ' → (∀ v H' Z', Ok K b0 B Z0 Z' H' σ ρ' → Same Z Z' → OpR' K Z' σ v o → Q v H') → t σ H Q
/-- .. a new list -/
def DF (K : PySem.W.Frag) (t : TE) (g : GF) : Prop := ∀ b0 B Z0 Z H σ ρ ds ρ' (Q : VK), Ok K b0 B Z0 Z H σ ρ → g ρ = .ok ds ρ' →
  (∀ p vs H' Z', Ok K b0 B Z0 Z' H' σ ρ' → Same Z Z' → Z' p = none → B p = none → Apart σ ρ' p → H' p = some (.lst vs) → RpA K Z' vs ds → Q (.ref p) H') → t σ H Q
/-- a test -/
def DT (K : PySem.W.Frag) (t : TT) (g : GT) : Prop := ∀ b0 B Z0 Z H σ ρ b ρ' (Q : Bool → Hp → Prop), Ok K b0 B Z0 Z H σ ρ → g ρ = .ok b ρ' → (∀ H' Z', Ok K b0 B Z0 Z' H' σ ρ' → Same Z Z' → Q b H') → t σ H Q
inductive OpA (K : PySem.W.Frag) (Z : Hp) (σ : L2.St) : List V → List Op → Prop
  | nil : OpA K Z σ [] []
  | cons {v : V} {vs : List V} {o : Op} {os : List Op} : OpR' K Z σ v o → OpA K Z σ vs os → OpA K Z σ (v :: vs) (o :: os)
/-- arguments -/
def DA (K : PySem.W.Frag) (t : TA) (g : GA) : Prop := ∀ b0 B Z0 Z H σ ρ os ρ' (Q : List V → Hp → Prop), Ok K b0 B Z0 Z H σ ρ → g ρ = .ok os ρ' → (∀ vs H' Z', Ok K b0 B Z0 Z' H' σ ρ' → Same Z Z' → OpA K Z' σ vs os → Q vs H') → t σ H Q
def resA : List Op → Rho → Option (List D)
  | [], _ => some []
  | o :: os, ρ => match o.res ρ, resA os ρ with
    | some d, some ds => some (d :: ds)
    | _, _ => none
/-! ### the data's combinators -/
def eC (d : D) (ρ : Rho) : R D := .ok d ρ
def eV (i : Nat) (ρ : Rho) : R D := match ρ[i]? with
  | some (.sh d) => .ok d ρ
  | _ => .bad
def oE (g : GE) (ρ : Rho) : R Op := (g ρ).map .val
def oV (i : Nat) (ρ : Rho) : R Op := match ρ[i]? with
  | some (.ow _) => .ok (.own i) ρ
  | _ => .bad
def eL (g : GF) (ρ : Rho) : R D := (g ρ).map .list
def aNil (ρ : Rho) : R (List Op) := .ok [] ρ
def aCons (g : GO) (r : GA) (ρ : Rho) : R (List Op) := (g ρ).bind fun o ρ1 => (r ρ1).map (o :: ·)
def eOp2 {α : Type} (f : D → D → Option α) (a b : GO) (ρ : Rho) : R α := (a ρ).bind fun x ρ1 => (b ρ1).bind fun y ρ2 => match x.res ρ2, y.res ρ2 with
  | some d, some e => R.lift (f d e) ρ2
  | _, _ => .bad
def eOp1 {α : Type} (f : D → Option α) (a : GO) (ρ : Rho) : R α := (a ρ).bind fun x ρ1 => match x.res ρ1 with
  | some d => R.lift (f d) ρ1
  | _ => .bad
def eApp {α : Type} (f : List D → Option α) (as : GA) (ρ : Rho) : R α := (as ρ).bind fun os ρ1 => match resA os ρ1 with
  | some ds => R.lift (f ds) ρ1
  | none => .bad
def tstE (g : GE) (ρ : Rho) : R Bool := (g ρ).bind fun d ρ1 => match d with
  | .bool b => .ok b ρ1
  | _ => .bad
def eB (g : GT) (ρ : Rho) : R D := (g ρ).map .bool
def tNotG (g : GT) (ρ : Rho) : R Bool := (g ρ).map (!·)
def tAndG (a b : GT) (ρ : Rho) : R Bool := (a ρ).bind fun c ρ1 => if c then b ρ1 else .ok false ρ1
def tOrG (a b : GT) (ρ : Rho) : R Bool := (a ρ).bind fun c ρ1 => if c then .ok true ρ1 else b ρ1
def eAndG (a b : GE) (ρ : Rho) : R D := (a ρ).bind fun c ρ1 => match c with
  | .bool true => b ρ1
  | .bool false => .ok (.bool false) ρ1
  | _ => .bad
def eOrG (a b : GE) (ρ : Rho) : R D := (a ρ).bind fun c ρ1 => match c with
  | .bool true => .ok (.bool true) ρ1
  | .bool false => b ρ1
  | _ => .bad
def eNotG (a : GE) (ρ : Rho) : R D := (a ρ).bind fun c ρ1 => match c with
  | .bool c => .ok (.bool (!c)) ρ1
  | _ => .bad
def eIf {α : Type} (c : GT) (a b : Rho → R α) (ρ : Rho) : R α := (c ρ).bind fun k ρ1 => if k then a ρ1 else b ρ1
/-! ### a rule by values is sound for a function on data -/
def Sn2 (K : PySem.W.Frag) (r : R2) (f : D → D → Option D) : Prop := ∀ b0 B Z0 Z H σ ρ x y a b c (Q : VK), Ok K b0 B Z0 Z H σ ρ → Bd K Z H x a → Bd K Z H y b → f a b = some c → (∀ v H' Z', Ok K b0 B Z0 Z' H' σ ρ → Same Z Z' → Rp K Z' v c → Q v H') → r x y H Q
def Sn2F (K : PySem.W.Frag) (r : R2) (f : D → D → Option (List D)) : Prop := ∀ b0 B Z0 Z H σ ρ x y a b c (Q : VK), Ok K b0 B Z0 Z H σ ρ → Bd K Z H x a → Bd K Z H y b → f a b = some c →
  (∀ p vs H', Ok K b0 B Z0 Z H' σ ρ → Z p = none → B p = none → Apart σ ρ p → H' p = some (.lst vs) → RpA K Z vs c → Q (.ref p) H') → r x y H Q
def Sn1 (K : PySem.W.Frag) (r : V → Hp → VK → Prop) (f : D → Option D) : Prop := ∀ b0 B Z0 Z H σ ρ x a c (Q : VK), Ok K b0 B Z0 Z H σ ρ → Bd K Z H x a → f a = some c → (∀ v H' Z', Ok K b0 B Z0 Z' H' σ ρ → Same Z Z' → Rp K Z' v c → Q v H') → r x H Q
def SnA (K : PySem.W.Frag) (r : List V → Hp → VK → Prop) (f : List D → Option D) : Prop := ∀ b0 B Z0 Z H σ ρ xs as c (Q : VK), Ok K b0 B Z0 Z H σ ρ → BdA K Z H xs as → f as = some c → (∀ v H' Z', Ok K b0 B Z0 Z' H' σ ρ → Same Z Z' → Rp K Z' v c → Q v H') → r xs H Q
def SnAF (K : PySem.W.Frag) (r : List V → Hp → VK → Prop) (f : List D → Option (List D)) : Prop := ∀ b0 B Z0 Z H σ ρ xs as c (Q : VK), Ok K b0 B Z0 Z H σ ρ → BdA K Z H xs as → f as = some c →
  (∀ p vs H', Ok K b0 B Z0 Z H' σ ρ → Z p = none → B p = none → Apart σ ρ p → H' p = some (.lst vs) → RpA K Z vs c → Q (.ref p) H') → r xs H Q
section
variable {K : PySem.W.Frag} {ta tb te : TE} {tt tu : TT} {tas : TA}
theorem de_c {v : V} {d : D} (h : ∀ Z, Rp K Z v d) : DE K (tC v) (eC d) := fun b0 B Z0 Z H σ ρ d' ρ' Q ok e q => by
  cases e
  exact q v H Z ok (Same.refl Z) (h Z)
theorem de_int {i : Int} : DE K (tC (.int i)) (eC (.int i)) := de_c fun _ => .int i
theorem de_bl {b : Bool} : DE K (tC (.bl b)) (eC (.bool b)) := de_c fun _ => .bl b
theorem de_non : DE K (tC .non) (eC .none) := de_c fun _ => .non
theorem de_str {x : Str} : DE K (tC (.str x)) (eC (.str x)) := de_c fun _ => .str x
theorem de_v {i : Nat} : DE K (tVar i) (eV i) := fun b0 B Z0 Z H σ ρ d ρ' Q ok e q => by
  unfold eV at e
  split at e
  · rename_i d' hi
    cases e
    obtain ⟨v, e1, e2⟩ := ok.sh i _ hi
    exact ⟨v, e1, q v H Z ok (Same.refl Z) e2⟩
  · cases e
theorem do_e {g : GE} (h : DE K te g) : DO K te (oE g) := fun b0 B Z0 Z H σ ρ o ρ' Q ok e q => by
  obtain ⟨d, e1, rfl⟩ := R.map_ok e
  exact h b0 B Z0 Z H σ ρ d ρ' Q ok e1 fun v H' Z' ok' s r => q v H' Z' ok' s r
theorem do_v {i : Nat} : DO K (tVar i) (oV i) := fun b0 B Z0 Z H σ ρ o ρ' Q ok e q => by
  unfold oV at e
  split at e
  · rename_i ds hi
    cases e
    obtain ⟨p, vs, e1, _⟩ := ok.ow i ds hi
    exact ⟨.ref p, e1, q (.ref p) H Z ok (Same.refl Z) e1⟩
  · cases e
theorem de_l {g : GF} (h : DF K te g) : DE K te (eL g) := fun b0 B Z0 Z H σ ρ d ρ' Q ok e q => by
  obtain ⟨ds, e1, rfl⟩ := R.map_ok e
  refine h b0 B Z0 Z H σ ρ ds ρ' Q ok e1 fun p vs H' Z' ok' s zp bp ap hp r => ?_
  obtain ⟨ok2, s2⟩ := ok'.freeze zp bp ap hp
  exact q (.ref p) H' _ ok2 (s.trans s2) (.lst upd_same (r.mono s2))
theorem da_nil : DA K tNil aNil := fun b0 B Z0 Z H σ ρ os ρ' Q ok e q => by
  cases e
  exact q [] H Z ok (Same.refl Z) .nil
theorem OpA.mono {Z Z' : Hp} {σ : L2.St} (e : Same Z Z') : ∀ {vs : List V} {os : List Op}, OpA K Z σ vs os → OpA K Z' σ vs os
  | _, _, .nil => .nil
  | _, _, .cons h r => .cons (h.mono e) (OpA.mono e r)
theorem da_cons {g : GO} {r : GA} (h : DO K te g) (hr : DA K tas r) : DA K (tCons te tas) (aCons g r) := fun b0 B Z0 Z H σ ρ os ρ' Q ok e q => by
  obtain ⟨o, ρ1, e1, e2⟩ := R.bind_ok e
  obtain ⟨os', e3, rfl⟩ := R.map_ok e2
  refine h b0 B Z0 Z H σ ρ o ρ1 _ ok e1 fun v H1 Z1 ok1 s1 r1 => ?_
  exact hr b0 B Z0 Z1 H1 σ ρ1 os' ρ' _ ok1 e3 fun vs H2 Z2 ok2 s2 r2 => q (v :: vs) H2 Z2 ok2 (s1.trans s2) (.cons (r1.mono s2) r2)
theorem Ok.bdA {b0 : Option Addr} {B Z0 Z H : Hp} {σ : L2.St} {ρ : Rho} (ok : Ok K b0 B Z0 Z H σ ρ) : ∀ {vs : List V} {os : List Op} {ds : List D}, OpA K Z σ vs os → resA os ρ = some ds → BdA K Z H vs ds
  | _, _, _, .nil, e => by cases e; exact .nil
  | _, _, _, .cons h r, e => by
    unfold resA at e
    split at e
    · rename_i d ds' e1 e2
      cases e
      exact .cons (ok.bd h e1) (Ok.bdA ok r e2)
    · cases e
theorem op2_ok {α : Type} {f : D → D → Option α} {ga gb : GO} {ρ ρ' : Rho} {z : α} (e : eOp2 f ga gb ρ = .ok z ρ') : ∃ x ρ1 y a b, ga ρ = .ok x ρ1 ∧ gb ρ1 = .ok y ρ' ∧ x.res ρ' = some a ∧ y.res ρ' = some b ∧ f a b = some z := by
  obtain ⟨x, ρ1, e1, e2⟩ := R.bind_ok e
  obtain ⟨y, ρ2, e3, e4⟩ := R.bind_ok e2
  split at e4
  · rename_i d d' h1 h2
    obtain ⟨e5, rfl⟩ := R.lift_ok e4
    exact ⟨x, ρ1, y, d, d', e1, e3, h1, h2, e5⟩
  · cases e4
theorem de_op {r : R2} {f : D → D → Option D} {ga gb : GO} (sn : Sn2 K r f) (ha : DO K ta ga) (hb : DO K tb gb) : DE K (tOp r ta tb) (eOp2 f ga gb) := fun b0 B Z0 Z H σ ρ d ρ' Q ok e q => by
  obtain ⟨x, ρ1, y, a, b, e1, e2, e3, e4, e5⟩ := op2_ok e
  refine ha b0 B Z0 Z H σ ρ x ρ1 _ ok e1 fun v H1 Z1 ok1 s1 r1 => ?_
  refine hb b0 B Z0 Z1 H1 σ ρ1 y ρ' _ ok1 e2 fun u H2 Z2 ok2 s2 r2 => ?_
  exact sn b0 B Z0 Z2 H2 σ ρ' v u a b d Q ok2 (ok2.bd (r1.mono s2) e3) (ok2.bd r2 e4) e5 fun w H3 Z3 ok3 s3 r3 => q w H3 Z3 ok3 ((s1.trans s2).trans s3) r3
theorem df_op {r : R2} {f : D → D → Option (List D)} {ga gb : GO} (sn : Sn2F K r f) (ha : DO K ta ga) (hb : DO K tb gb) : DF K (tOp r ta tb) (eOp2 f ga gb) := fun b0 B Z0 Z H σ ρ d ρ' Q ok e q => by
  obtain ⟨x, ρ1, y, a, b, e1, e2, e3, e4, e5⟩ := op2_ok e
  refine ha b0 B Z0 Z H σ ρ x ρ1 _ ok e1 fun v H1 Z1 ok1 s1 r1 => ?_
  refine hb b0 B Z0 Z1 H1 σ ρ1 y ρ' _ ok1 e2 fun u H2 Z2 ok2 s2 r2 => ?_
  exact sn b0 B Z0 Z2 H2 σ ρ' v u a b d Q ok2 (ok2.bd (r1.mono s2) e3) (ok2.bd r2 e4) e5 fun p vs H3 ok3 zp bp ap hp r3 => q p vs H3 Z2 ok3 (s1.trans s2) zp bp ap hp r3
theorem op1_ok {α : Type} {f : D → Option α} {ga : GO} {ρ ρ' : Rho} {z : α} (e : eOp1 f ga ρ = .ok z ρ') : ∃ x a, ga ρ = .ok x ρ' ∧ x.res ρ' = some a ∧ f a = some z := by
  obtain ⟨x, ρ1, e1, e2⟩ := R.bind_ok e
  split at e2
  · rename_i d h1
    obtain ⟨e5, rfl⟩ := R.lift_ok e2
    exact ⟨x, d, e1, h1, e5⟩
  · cases e2
theorem de_un {r : V → Hp → VK → Prop} {f : D → Option D} {ga : GO} (sn : Sn1 K r f) (ha : DO K ta ga) : DE K (tUn r ta) (eOp1 f ga) := fun b0 B Z0 Z H σ ρ d ρ' Q ok e q => by
  obtain ⟨x, a, e1, e3, e5⟩ := op1_ok e
  refine ha b0 B Z0 Z H σ ρ x ρ' _ ok e1 fun v H1 Z1 ok1 s1 r1 => ?_
  exact sn b0 B Z0 Z1 H1 σ ρ' v a d Q ok1 (ok1.bd r1 e3) e5 fun w H3 Z3 ok3 s3 r3 => q w H3 Z3 ok3 (s1.trans s3) r3
theorem app_ok {α : Type} {f : List D → Option α} {ga : GA} {ρ ρ' : Rho} {z : α} (e : eApp f ga ρ = .ok z ρ') : ∃ os ds, ga ρ = .ok os ρ' ∧ resA os ρ' = some ds ∧ f ds = some z := by
  obtain ⟨x, ρ1, e1, e2⟩ := R.bind_ok e
  split at e2
  · rename_i d h1
    obtain ⟨e5, rfl⟩ := R.lift_ok e2
    exact ⟨x, d, e1, h1, e5⟩
  · cases e2
theorem de_cb {r : List V → Hp → VK → Prop} {f : List D → Option D} {ga : GA} (sn : SnA K r f) (ha : DA K tas ga) : DE K (tCB r tas) (eApp f ga) := fun b0 B Z0 Z H σ ρ d ρ' Q ok e q => by
  obtain ⟨x, a, e1, e3, e5⟩ := app_ok e
  refine ha b0 B Z0 Z H σ ρ x ρ' _ ok e1 fun v H1 Z1 ok1 s1 r1 => ?_
  exact sn b0 B Z0 Z1 H1 σ ρ' v a d Q ok1 (ok1.bdA r1 e3) e5 fun w H3 Z3 ok3 s3 r3 => q w H3 Z3 ok3 (s1.trans s3) r3
theorem df_cb {r : List V → Hp → VK → Prop} {f : List D → Option (List D)} {ga : GA} (sn : SnAF K r f) (ha : DA K tas ga) : DF K (tCB r tas) (eApp f ga) := fun b0 B Z0 Z H σ ρ d ρ' Q ok e q => by
  obtain ⟨x, a, e1, e3, e5⟩ := app_ok e
  refine ha b0 B Z0 Z H σ ρ x ρ' _ ok e1 fun v H1 Z1 ok1 s1 r1 => ?_
  exact sn b0 B Z0 Z1 H1 σ ρ' v a d Q ok1 (ok1.bdA r1 e3) e5 fun p vs H3 ok3 zp bp ap hp r3 => q p vs H3 Z1 ok3 s1 zp bp ap hp r3
/-! tests -/
theorem dt_B {g : GE} (h : DE K te g) : DT K (tB te) (tstE g) := fun b0 B Z0 Z H σ ρ b ρ' Q ok e q => by
  obtain ⟨d, ρ1, e1, e2⟩ := R.bind_ok e
  split at e2
  · cases e2
    refine h b0 B Z0 Z H σ ρ _ _ _ ok e1 fun v H' Z' ok' s r => ?_
    cases r
    exact ⟨_, rfl, q H' Z' ok' s⟩
  · cases e2
theorem dt_test {g : GE} (h : DE K te g) : DT K (tTest te) (tstE g) := fun b0 B Z0 Z H σ ρ b ρ' Q ok e q => by
  obtain ⟨d, ρ1, e1, e2⟩ := R.bind_ok e
  split at e2
  · cases e2
    refine h b0 B Z0 Z H σ ρ _ _ _ ok e1 fun v H' Z' ok' s r => ?_
    cases r
    exact ⟨_, rfl, q H' Z' ok' s⟩
  · cases e2
theorem dt_not {g : GT} (h : DT K tt g) : DT K (tNot tt) (tNotG g) := fun b0 B Z0 Z H σ ρ b ρ' Q ok e q => by
  obtain ⟨d, e1, rfl⟩ := R.map_ok e
  exact h b0 B Z0 Z H σ ρ d ρ' _ ok e1 fun H' Z' ok' s => q H' Z' ok' s
theorem dt_and {g k : GT} (h : DT K tt g) (h2 : DT K tu k) : DT K (tAnd tt tu) (tAndG g k) := fun b0 B Z0 Z H σ ρ b ρ' Q ok e q => by
  obtain ⟨c, ρ1, e1, e2⟩ := R.bind_ok e
  refine h b0 B Z0 Z H σ ρ c ρ1 _ ok e1 fun H1 Z1 ok1 s1 => ?_
  cases c with
  | true => exact h2 b0 B Z0 Z1 H1 σ ρ1 b ρ' Q ok1 e2 fun H2 Z2 ok2 s2 => q H2 Z2 ok2 (s1.trans s2)
  | false => cases e2; exact q H1 Z1 ok1 s1
theorem dt_or {g k : GT} (h : DT K tt g) (h2 : DT K tu k) : DT K (tOr tt tu) (tOrG g k) := fun b0 B Z0 Z H σ ρ b ρ' Q ok e q => by
  obtain ⟨c, ρ1, e1, e2⟩ := R.bind_ok e
  refine h b0 B Z0 Z H σ ρ c ρ1 _ ok e1 fun H1 Z1 ok1 s1 => ?_
  cases c with
  | true => cases e2; exact q H1 Z1 ok1 s1
  | false => exact h2 b0 B Z0 Z1 H1 σ ρ1 b ρ' Q ok1 e2 fun H2 Z2 ok2 s2 => q H2 Z2 ok2 (s1.trans s2)
theorem de_and {g k : GE} (h : DE K ta g) (h2 : DE K tb k) : DE K (tAndV ta tb) (eAndG g k) := fun b0 B Z0 Z H σ ρ d ρ' Q ok e q => by
  obtain ⟨c, ρ1, e1, e2⟩ := R.bind_ok e
  refine h b0 B Z0 Z H σ ρ c ρ1 _ ok e1 fun v H1 Z1 ok1 s1 r1 => ?_
  split at e2
  · cases r1
    exact ⟨true, rfl, h2 b0 B Z0 Z1 H1 σ ρ1 d ρ' Q ok1 e2 fun v H2 Z2 ok2 s2 r2 => q v H2 Z2 ok2 (s1.trans s2) r2⟩
  · cases r1; cases e2
    exact ⟨false, rfl, q _ H1 Z1 ok1 s1 (.bl false)⟩
  · cases e2
theorem de_or {g k : GE} (h : DE K ta g) (h2 : DE K tb k) : DE K (tOrV ta tb) (eOrG g k) := fun b0 B Z0 Z H σ ρ d ρ' Q ok e q => by
  obtain ⟨c, ρ1, e1, e2⟩ := R.bind_ok e
  refine h b0 B Z0 Z H σ ρ c ρ1 _ ok e1 fun v H1 Z1 ok1 s1 r1 => ?_
  split at e2
  · cases r1; cases e2
    exact ⟨true, rfl, q _ H1 Z1 ok1 s1 (.bl true)⟩
  · cases r1
    exact ⟨false, rfl, h2 b0 B Z0 Z1 H1 σ ρ1 d ρ' Q ok1 e2 fun v H2 Z2 ok2 s2 r2 => q v H2 Z2 ok2 (s1.trans s2) r2⟩
  · cases e2
theorem de_not {g : GE} (h : DE K ta g) : DE K (tNotV ta) (eNotG g) := fun b0 B Z0 Z H σ ρ d ρ' Q ok e q => by
  obtain ⟨c, ρ1, e1, e2⟩ := R.bind_ok e
  refine h b0 B Z0 Z H σ ρ c ρ1 _ ok e1 fun v H1 Z1 ok1 s1 r1 => ?_
  split at e2
  · cases r1; cases e2
    exact ⟨_, rfl, q _ H1 Z1 ok1 s1 (.bl _)⟩
  · cases e2
theorem de_if {c : GT} {g k : GE} (hc : DT K tt c) (h : DE K ta g) (h2 : DE K tb k) : DE K (tIf tt ta tb) (eIf c g k) := fun b0 B Z0 Z H σ ρ d ρ' Q ok e q => by
  obtain ⟨b, ρ1, e1, e2⟩ := R.bind_ok e
  refine hc b0 B Z0 Z H σ ρ b ρ1 _ ok e1 fun H1 Z1 ok1 s1 => ?_
  cases b with
  | true => exact h b0 B Z0 Z1 H1 σ ρ1 d ρ' Q ok1 e2 fun v H2 Z2 ok2 s2 r2 => q v H2 Z2 ok2 (s1.trans s2) r2
  | false => exact h2 b0 B Z0 Z1 H1 σ ρ1 d ρ' Q ok1 e2 fun v H2 Z2 ok2 s2 r2 => q v H2 Z2 ok2 (s1.trans s2) r2
theorem df_if {c : GT} {g k : GF} (hc : DT K tt c) (h : DF K ta g) (h2 : DF K tb k) : DF K (tIf tt ta tb) (eIf c g k) := fun b0 B Z0 Z H σ ρ d ρ' Q ok e q => by
  obtain ⟨b, ρ1, e1, e2⟩ := R.bind_ok e
  refine hc b0 B Z0 Z H σ ρ b ρ1 _ ok e1 fun H1 Z1 ok1 s1 => ?_
  cases b with
  | true => exact h b0 B Z0 Z1 H1 σ ρ1 d ρ' Q ok1 e2 fun p vs H2 Z2 ok2 s2 => q p vs H2 Z2 ok2 (s1.trans s2)
  | false => exact h2 b0 B Z0 Z1 H1 σ ρ1 d ρ' Q ok1 e2 fun p vs H2 Z2 ok2 s2 => q p vs H2 Z2 ok2 (s1.trans s2)
/-! displays -/
def valA : List Op → Option (List D)
  | [] => some []
  | .val d :: os => (valA os).map (d :: ·)
  | _ :: _ => none
theorem valA_ok {Z : Hp} {σ : L2.St} : ∀ {vs : List V} {os : List Op} {ds : List D}, OpA K Z σ vs os → valA os = some ds → RpA K Z vs ds
  | _, _, _, .nil, e => by cases e; exact .nil
  | _, _, _, .cons (o := .val d) h r, e => by
    unfold valA at e
    obtain ⟨ds', e1, rfl⟩ := Option.map_eq_some_iff.mp e
    exact .cons h (valA_ok r e1)
  | _, _, _, .cons (o := .own i) h r, e => by cases e
def eSeq (ga : GA) (ρ : Rho) : R (List D) := (ga ρ).bind fun os ρ1 => match valA os with
  | some ds => if ds.length ≤ sizeLine then .ok ds ρ1 else .bad
  | none => .bad
def eT (g : GF) (ρ : Rho) : R D := (g ρ).map .tuple
theorem seq_ok {ga : GA} {ρ ρ' : Rho} {ds : List D} (e : eSeq ga ρ = .ok ds ρ') : ∃ os, ga ρ = .ok os ρ' ∧ valA os = some ds ∧ ds.length ≤ sizeLine := by
  obtain ⟨os, ρ1, e1, e2⟩ := R.bind_ok e
  split at e2
  · split at e2
    · cases e2
      exact ⟨os, e1, by assumption, by assumption⟩
    · cases e2
  · cases e2
theorem df_lst {ga : GA} (ha : DA K tas ga) : DF K (tLst tas) (eSeq ga) := fun b0 B Z0 Z H σ ρ d ρ' Q ok e q => by
  obtain ⟨os, e1, e2, e3⟩ := seq_ok e
  refine ha b0 B Z0 Z H σ ρ os ρ' _ ok e1 fun vs H1 Z1 ok1 s1 r1 => ?_
  have ra := valA_ok r1 e2
  refine ⟨by rw [ra.length]; exact e3, fun p hp => ?_⟩
  obtain ⟨ok2, zp, bp, ap⟩ := ok1.fresh (o := .lst vs) hp
  exact q p vs _ Z1 ok2 s1 zp bp ap upd_same ra
theorem de_tup {ga : GA} (ha : DA K tas ga) : DE K (tTup tas) (eT (eSeq ga)) := fun b0 B Z0 Z H σ ρ d ρ' Q ok e q => by
  obtain ⟨ds, e0, rfl⟩ := R.map_ok e
  obtain ⟨os, e1, e2, e3⟩ := seq_ok e0
  refine ha b0 B Z0 Z H σ ρ os ρ' _ ok e1 fun vs H1 Z1 ok1 s1 r1 => ?_
  have ra := valA_ok r1 e2
  refine ⟨by rw [ra.length]; exact e3, fun p hp => ?_⟩
  obtain ⟨ok2, s2⟩ := ok1.new (o := .tup vs) hp
  exact q (.ref p) _ _ ok2 (s1.trans s2) (.tup (.inl (.inl upd_same)) (ra.mono s2))
end
end DL

namespace DL
open PySem L2
/-! ### statements -/
/-- how a block ends: next, return of data, return of a new list, break, continue, an exception, nothing that is told -/
inductive O where
  | nx (ρ : Rho)
  | rt (d : D) (ρ : Rho)
  | rf (ds : List D) (ρ : Rho)
  | bk (ρ : Rho)
  | ct (ρ : Rho)
  | ex (c : Str) (d : D) (ρ : Rho)
  | bad
abbrev GS := Rho → O
/-- what the end o promises, seen from the entry (B, Z0) -/
def Sat (K : PySem.W.Frag) (Wx : WX) (b0 : Option Addr) (B Z0 : Hp) (E : Ends) : O → Prop
  | .nx ρ => ∀ σ H Z, Ok K b0 B Z0 Z H σ ρ → E.nx σ H
  | .rt d ρ => ∀ v σ H Z, Ok K b0 B Z0 Z H σ ρ → Rp K Z v d → E.rt v H
  | .rf ds ρ => ∀ p vs σ H Z, Ok K b0 B Z0 Z H σ ρ → Z p = none → B p = none → Apart σ ρ p → H p = some (.lst vs) → RpA K Z vs ds → E.rt (.ref p) H
  | .bk ρ => ∀ σ H Z, Ok K b0 B Z0 Z H σ ρ → E.bk σ H
  | .ct ρ => ∀ σ H Z, Ok K b0 B Z0 Z H σ ρ → E.ct σ H
  | .ex c d ρ => ∀ σ H Z C dx v, Ok K b0 B Z0 Z H σ ρ → Cls K c C → Z dx = some (.xd [(fld c, v)]) → Rp K Z v d → Wx (.ref C) (some dx) σ H
  | .bad => False
def DS (K : PySem.W.Frag) (Wx : WX) (t : TS) (g : GS) : Prop := ∀ b0 B Z0 Z H σ ρ (E : Ends), Ok K b0 B Z0 Z H σ ρ → Sat K Wx b0 B Z0 E (g ρ) → t E σ H
def O.bind (o : O) (f : Rho → O) : O := match o with
  | .nx ρ => f ρ
  | o => o
def R.to {α : Type} (r : R α) (f : α → Rho → O) : O := match r with
  | .ok a ρ => f a ρ
  | .ex c d ρ => .bad
  | .bad => .bad
def sSeq (a b : GS) (ρ : Rho) : O := (a ρ).bind b
def sNext (ρ : Rho) : O := .nx ρ
def sRet (g : GE) (ρ : Rho) : O := (g ρ).to .rt
def sRetF (g : GF) (ρ : Rho) : O := (g ρ).to .rf
/-- return of the list of one's own in slot i -/
def sRetO (i : Nat) (ρ : Rho) : O := match ρ[i]? with
  | some (.ow ds) => .rf ds (ρ.set i .no)
  | _ => .bad
def sRetN (ρ : Rho) : O := .rt .none ρ
def sDrop (g : GE) (ρ : Rho) : O := (g ρ).to fun _ ρ => .nx ρ
def sIf (c : GT) (a b : GS) (ρ : Rho) : O := (c ρ).to fun k ρ1 => if k then a ρ1 else b ρ1
def sSet (i : Nat) (g : GE) (ρ : Rho) : O := (g ρ).to fun d ρ1 => .nx (ρ1.set i (.sh d))
def sSetO (i : Nat) (g : GF) (ρ : Rho) : O := (g ρ).to fun ds ρ1 => .nx (ρ1.set i (.ow ds))
def sBreak (ρ : Rho) : O := .bk ρ
def sCont (ρ : Rho) : O := .ct ρ
def sBad (ρ : Rho) : O := .bad
/-- the own list in slot i is frozen -/
def fz (i : Nat) (ρ : Rho) : Rho := match ρ[i]? with
  | some (.ow ds) => ρ.set i (.sh (.list ds))
  | _ => ρ
def sFz (i : Nat) (g : GS) (ρ : Rho) : O := g (fz i ρ)
/-- slot i is forgotten -/
def sNo (i : Nat) (g : GS) (ρ : Rho) : O := g (ρ.set i .no)
section
variable {K : PySem.W.Frag} {Wx : WX} {ta tb te : TE} {tt tu : TT} {tas : TA} {t u : TS} {b0 : Option Addr} {B Z0 Z H : Hp} {σ : L2.St} {ρ : Rho} {E : Ends}
theorem Sat.to {α : Type} {r : R α} {f : α → Rho → O} (h : Sat K Wx b0 B Z0 E (r.to f)) : ∃ a ρ', r = .ok a ρ' ∧ Sat K Wx b0 B Z0 E (f a ρ') := by
  cases r with
  | ok a ρ' => exact ⟨a, ρ', rfl, h⟩
  | ex c d ρ' => exact h.elim
  | bad => exact h.elim
theorem Sat.bind {o : O} {f : Rho → O} {nx' : L2.St → Hp → Prop} (h : Sat K Wx b0 B Z0 E (o.bind f)) (hn : ∀ ρ' σ' H' Z', Ok K b0 B Z0 Z' H' σ' ρ' → Sat K Wx b0 B Z0 E (f ρ') → nx' σ' H') : Sat K Wx b0 B Z0 { E with nx := nx' } o := by
  cases o with
  | nx ρ' => exact fun σ' H' Z' ok => hn ρ' σ' H' Z' ok h
  | rt d ρ' => exact h
  | rf ds ρ' => exact h
  | bk ρ' => exact h
  | ct ρ' => exact h
  | ex c d ρ' => exact h
  | bad => exact h.elim
theorem ds_seq {g k : GS} (h : DS K Wx t g) (h2 : DS K Wx u k) : DS K Wx (tSeq t u) (sSeq g k) := fun b0 B Z0 Z H σ ρ E ok s =>
  h b0 B Z0 Z H σ ρ _ ok (Sat.bind s fun ρ' σ' H' Z' ok' s' => h2 b0 B Z0 Z' H' σ' ρ' E ok' s')
theorem ds_next : DS K Wx tNext sNext := fun b0 B Z0 Z H σ ρ E ok s => s σ H Z ok
theorem ds_break : DS K Wx tBreak sBreak := fun b0 B Z0 Z H σ ρ E ok s => s σ H Z ok
theorem ds_cont : DS K Wx tCont sCont := fun b0 B Z0 Z H σ ρ E ok s => s σ H Z ok
theorem ds_bad {t : TS} : DS K Wx t sBad := fun b0 B Z0 Z H σ ρ E ok s => s.elim
theorem ds_ret {g : GE} (h : DE K te g) : DS K Wx (tRet te) (sRet g) := fun b0 B Z0 Z H σ ρ E ok s => by
  obtain ⟨d, ρ', e, s⟩ := Sat.to s
  exact h b0 B Z0 Z H σ ρ d ρ' _ ok e fun v H' Z' ok' _ r => s v σ H' Z' ok' r
theorem ds_retF {g : GF} (h : DF K te g) : DS K Wx (tRet te) (sRetF g) := fun b0 B Z0 Z H σ ρ E ok s => by
  obtain ⟨d, ρ', e, s⟩ := Sat.to s
  exact h b0 B Z0 Z H σ ρ d ρ' _ ok e fun p vs H' Z' ok' _ zp bp ap hp r => s p vs σ H' Z' ok' zp bp ap hp r
theorem no_get {i j : Nat} {s : Sl} (h : (ρ.set i .no)[j]? = some s) : s = .no ∨ (i ≠ j ∧ ρ[j]? = some s) := by
  rcases set_get h with ⟨_, e⟩ | ⟨n, e⟩
  · exact .inl e.symm
  · exact .inr ⟨n, e⟩
theorem Ok.forget {i : Nat} (ok : Ok K b0 B Z0 Z H σ ρ) : Ok K b0 B Z0 Z H σ (ρ.set i .no) :=
  ok.weak (by rw [List.length_set]; exact ok.len) fun j s h => (no_get h).imp id fun z => ⟨z.2, rfl⟩
theorem Ok.release {i : Nat} {ds : List D} (ok : Ok K b0 B Z0 Z H σ ρ) (h : ρ[i]? = some (.ow ds)) : ∃ p vs, σ[i]? = some (some (.ref p)) ∧ Ok K b0 B Z0 Z H σ (ρ.set i .no) ∧ Z p = none ∧ B p = none ∧ Apart σ (ρ.set i .no) p ∧ H p = some (.lst vs) ∧ RpA K Z vs ds := by
  obtain ⟨p, vs, e1, e2, e3, e4, e5⟩ := ok.ow i ds h
  refine ⟨p, vs, e1, ok.forget, e2, e3, fun j es hj q => ?_, e4, e5⟩
  rcases no_get hj with z | ⟨n, z⟩
  · cases z
  · exact n (ok.sep i j p ds es h z e1 q)
theorem ds_retO {i : Nat} : DS K Wx (tRet (tVar i)) (sRetO i) := fun b0 B Z0 Z H σ ρ E ok s => by
  unfold sRetO at s
  split at s
  · rename_i ds h
    obtain ⟨p, vs, e1, ok', zp, bp, ap, hp, r⟩ := ok.release h
    exact ⟨.ref p, e1, s p vs σ H Z ok' zp bp ap hp r⟩
  · exact s.elim
theorem ds_retN : DS K Wx tRetN sRetN := fun b0 B Z0 Z H σ ρ E ok s => s .non σ H Z ok .non
theorem ds_drop {g : GE} (h : DE K te g) : DS K Wx (tDrop te) (sDrop g) := fun b0 B Z0 Z H σ ρ E ok s => by
  obtain ⟨d, ρ', e, s⟩ := Sat.to s
  exact h b0 B Z0 Z H σ ρ d ρ' _ ok e fun v H' Z' ok' _ r => s σ H' Z' ok'
theorem ds_if {c : GT} {g k : GS} (hc : DT K tt c) (h : DS K Wx t g) (h2 : DS K Wx u k) : DS K Wx (tIfS tt t u) (sIf c g k) := fun b0 B Z0 Z H σ ρ E ok s => by
  obtain ⟨b, ρ', e, s⟩ := Sat.to s
  refine hc b0 B Z0 Z H σ ρ b ρ' _ ok e fun H' Z' ok' _ => ?_
  cases b with
  | true => exact h b0 B Z0 Z' H' σ ρ' E ok' s
  | false => exact h2 b0 B Z0 Z' H' σ ρ' E ok' s
theorem ds_set {i : Nat} {g : GE} (h : DE K te g) : DS K Wx (tAsg te (gName i)) (sSet i g) := fun b0 B Z0 Z H σ ρ E ok s => by
  obtain ⟨d, ρ', e, s⟩ := Sat.to s
  exact h b0 B Z0 Z H σ ρ d ρ' _ ok e fun v H' Z' ok' _ r => s _ H' Z' (ok'.put r)
theorem ds_setO {i : Nat} {g : GF} (h : DF K te g) (hi : i ≠ 0 := by decide) : DS K Wx (tAsg te (gName i)) (sSetO i g) := fun b0 B Z0 Z H σ ρ E ok s => by
  obtain ⟨d, ρ', e, s⟩ := Sat.to s
  exact h b0 B Z0 Z H σ ρ d ρ' _ ok e fun p vs H' Z' ok' _ zp bp ap hp r => s _ H' Z' (ok'.putO zp bp ap hp r fun _ _ z => absurd z hi)
theorem Ok.fz {i : Nat} (ok : Ok K b0 B Z0 Z H σ ρ) : ∃ Z', Ok K b0 B Z0 Z' H σ (fz i ρ) ∧ Same Z Z' := by
  unfold DL.fz
  split
  · rename_i ds h
    obtain ⟨p, vs, e1, ok', zp, bp, ap, hp, r⟩ := ok.release h
    obtain ⟨ok2, s2⟩ := ok'.freeze zp bp ap hp
    refine ⟨_, ?_, s2⟩
    have q := ok2.put (i := i) (v := .ref p) (d := .list ds) (.lst upd_same (r.mono s2))
    rw [List.set_set] at q
    have e : σ.set i (some (.ref p)) = σ := by
      apply List.ext_getElem?
      intro j
      by_cases hj : i = j
      · subst hj
        rw [List.getElem?_set_self (by
          by_cases z : i < σ.length
          · exact z
          · rw [List.getElem?_eq_none (by simpa using z)] at e1; cases e1), e1]
      · rw [List.getElem?_set_ne hj]
    rw [e] at q
    exact q
  · exact ⟨Z, ok, Same.refl Z⟩
theorem ds_fz {i : Nat} {g : GS} (h : DS K Wx t g) : DS K Wx t (sFz i g) := fun b0 B Z0 Z H σ ρ E ok s => by
  obtain ⟨Z', ok', _⟩ := ok.fz (i := i)
  exact h b0 B Z0 Z' H σ _ E ok' s
theorem ds_no {i : Nat} {g : GS} (h : DS K Wx t g) : DS K Wx t (sNo i g) := fun b0 B Z0 Z H σ ρ E ok s => h b0 B Z0 Z H σ _ E ok.forget s
/-- an expression with the own list in slot i frozen -/
def eFz {α : Type} (i : Nat) (g : Rho → R α) (ρ : Rho) : R α := g (fz i ρ)
theorem de_fz {i : Nat} {g : GE} (h : DE K te g) : DE K te (eFz i g) := fun b0 B Z0 Z H σ ρ d ρ' Q ok e q => by
  obtain ⟨Z', ok', s⟩ := ok.fz (i := i)
  exact h b0 B Z0 Z' H σ _ d ρ' Q ok' e fun v H2 Z2 ok2 s2 r => q v H2 Z2 ok2 (s.trans s2) r
/-! ### targets -/
/-- data goes to a target -/
abbrev GG := D → Rho → Option Rho
def DG (K : PySem.W.Frag) (ws : List Nat) (t : TG) (g : GG) : Prop := ∀ b0 B Z0 Z H σ ρ v d ρ' (Q : L2.St → Hp → Prop), Ok K b0 B Z0 Z H σ ρ → Rp K Z v d → g d ρ = some ρ' → (∀ σ', Ok K b0 B Z0 Z H σ' ρ' → wipe σ' ws = wipe σ ws → Q σ' H) → t v σ H Q
def DGs (K : PySem.W.Frag) (ws : List Nat) (t : TGs) (g : List D → Rho → Option Rho) : Prop := ∀ b0 B Z0 Z H σ ρ vs ds ρ' (Q : L2.St → Hp → Prop), Ok K b0 B Z0 Z H σ ρ → RpA K Z vs ds → g ds ρ = some ρ' → (∀ σ', Ok K b0 B Z0 Z H σ' ρ' → wipe σ' ws = wipe σ ws → Q σ' H) → t vs σ H Q
def gN (i : Nat) (d : D) (ρ : Rho) : Option Rho := some (ρ.set i (.sh d))
def gsNil (ds : List D) (ρ : Rho) : Option Rho := match ds with
  | [] => some ρ
  | _ => none
def gsCons (g : GG) (r : List D → Rho → Option Rho) (ds : List D) (ρ : Rho) : Option Rho := match ds with
  | [] => none
  | d :: ds => (g d ρ).bind (r ds)
def gT (n : Nat) (g : List D → Rho → Option Rho) (d : D) (ρ : Rho) : Option Rho := match d with
  | .tuple ds => if ds.length = n then g ds ρ else none
  | _ => none
theorem wipe_comm (σ : L2.St) (x : Option V) : ∀ (ws : List Nat) (i : Nat), i ∉ ws → wipe (σ.set i x) ws = (wipe σ ws).set i x
  | [], i, _ => rfl
  | w :: ws, i, h => by
    unfold wipe
    have n1 : i ≠ w := fun z => h (by rw [z]; exact List.mem_cons_self)
    rw [wipe_comm σ x ws i fun z => h (List.mem_cons_of_mem _ z), List.set_comm _ _ n1]
theorem wipe_set {σ : L2.St} {x : Option V} : ∀ {ws : List Nat} {i : Nat}, i ∈ ws → wipe (σ.set i x) ws = wipe σ ws
  | [], i, h => nomatch h
  | w :: ws, i, h => by
    unfold wipe
    by_cases hi : i ∈ ws
    · rw [wipe_set hi]
    · have e : i = w := by
        rcases List.mem_cons.mp h with z | z
        · exact z
        · exact absurd z hi
      subst e
      rw [wipe_comm σ x ws i hi, List.set_set]
variable {ws : List Nat}
theorem dg_name {i : Nat} (hi : i ∈ ws) : DG K ws (gName i) (gN i) := fun b0 B Z0 Z H σ ρ v d ρ' Q ok r e q => by
  cases e
  exact q _ (ok.put r) (wipe_set hi)
theorem dgs_nil : DGs K ws gNil gsNil := fun b0 B Z0 Z H σ ρ vs ds ρ' Q ok r e q => by
  cases r with
  | nil => cases e; exact ⟨rfl, q σ ok rfl⟩
  | cons h r => cases e
theorem dgs_cons {t : TG} {u : TGs} {g : GG} {k : List D → Rho → Option Rho} (h : DG K ws t g) (h2 : DGs K ws u k) : DGs K ws (gCons t u) (gsCons g k) := fun b0 B Z0 Z H σ ρ vs ds ρ' Q ok r e q => by
  cases r with
  | nil => cases e
  | cons h1 r =>
    obtain ⟨ρ1, e1, e2⟩ := Option.bind_eq_some_iff.mp e
    exact ⟨_, _, rfl, h b0 B Z0 Z H σ ρ _ _ ρ1 _ ok h1 e1 fun σ1 ok1 w1 => h2 b0 B Z0 Z H σ1 ρ1 _ _ ρ' Q ok1 r e2 fun σ2 ok2 w2 => q σ2 ok2 (w2.trans w1)⟩
theorem dg_tup {n : Nat} {u : TGs} {g : List D → Rho → Option Rho} (h : DGs K ws u g) : DG K ws (gTup K n u) (gT n g) := fun b0 B Z0 Z H σ ρ v d ρ' Q ok r e q => by
  unfold gT at e
  split at e
  · split at e
    · cases r with
      | tup hs ra => exact ⟨_, _, rfl, same_t ok.zh hs, by rw [ra.length]; assumption, h b0 B Z0 Z H σ ρ _ _ ρ' Q ok ra e q⟩
    · cases e
  · cases e
def sTo (g : GE) (k : GG) (ρ : Rho) : O := (g ρ).to fun d ρ1 => match k d ρ1 with
  | some ρ2 => .nx ρ2
  | none => .bad
theorem ds_to {tg : TG} {g : GE} {k : GG} (h : DE K te g) (h2 : DG K ws tg k) : DS K Wx (tAsg te tg) (sTo g k) := fun b0 B Z0 Z H σ ρ E ok s => by
  obtain ⟨d, ρ', e, s⟩ := Sat.to s
  refine h b0 B Z0 Z H σ ρ d ρ' _ ok e fun v H' Z' ok' _ r => ?_
  split at s
  · exact h2 b0 B Z0 Z' H' σ ρ' v d _ _ ok' r (by assumption) fun σ' ok2 _ => s σ' H' Z' ok2
  · exact s.elim
end
end DL

namespace DL
open PySem L2
section
variable {K : PySem.W.Frag} {Wx : WX} {ta tb te : TE} {tt tu : TT} {tas : TA} {t u : TS} {b0 : Option Addr} {B Z0 Z H : Hp} {σ : L2.St} {ρ : Rho} {E : Ends} {p : Addr} {o o' : HO}
/-! ### frames: what nobody knows stands in B for a while -/
theorem Ok.frame (ok : Ok K b0 B Z0 Z H σ ρ) (zp : Z p = none) (ap : Apart σ ρ p) (hp : H p = some o) : Ok K b0 (upd B p o) Z0 Z H σ ρ := by
  refine ⟨ok.len, fun b x e => ?_, ok.zh, ok.zz, fun b x e => ?_, ok.sh, fun i ds e => ?_, ok.fix, ok.sep⟩
  · by_cases hb : b = p
    · subst hb; rw [upd_same] at e; rw [← e]; exact hp
    · rw [upd_ne hb] at e; exact ok.bh b x e
  · rcases ok.nb b x e with z | z
    · exact .inl z
    · exact .inr (by rw [upd_ne (ne_of_none e zp)]; exact z)
  · obtain ⟨q, vs, e1, e2, e3, e4, e5⟩ := ok.ow i ds e
    have nq : q ≠ p := fun z => ap i ds e (by rw [e1, z])
    exact ⟨q, vs, e1, e2, by rw [upd_ne nq]; exact e3, e4, e5⟩
theorem Ok.unframe (ok : Ok K b0 (upd B p o) Z0 Z H σ ρ) (zp : Z0 p = none) (bp : B p = none) : Ok K b0 B Z0 Z H σ ρ ∧ Z p = none ∧ Apart σ ρ p ∧ H p = some o := by
  have hz : Z p = none := by
    cases q : Z p with
    | none => rfl
    | some x =>
      rcases ok.nb p x q with z | z
      · rw [zp] at z; cases z
      · rw [upd_same] at z; cases z
  refine ⟨⟨ok.len, fun b x e => ok.bh b x (by rw [upd_ne (ne_of_none e bp)]; exact e), ok.zh, ok.zz, fun b x e => ?_, ok.sh, fun i ds e => ?_, ok.fix, ok.sep⟩, hz, fun i ds e q => ?_, ok.bh p o upd_same⟩
  · rcases ok.nb b x e with z | z
    · exact .inl z
    · rw [upd_ne (ne_of_none e hz)] at z; exact .inr z
  · obtain ⟨q, vs, e1, e2, e3, e4, e5⟩ := ok.ow i ds e
    have nq : q ≠ p := fun z => by rw [z, upd_same] at e3; cases e3
    rw [upd_ne nq] at e3
    exact ⟨q, vs, e1, e2, e3, e4, e5⟩
  · obtain ⟨q', vs, e1, e2, e3, e4, e5⟩ := ok.ow i ds e
    rw [e1] at q
    cases q
    rw [upd_same] at e3
    cases e3
theorem Ok.reframe (ok : Ok K b0 (upd B p o) Z0 Z H σ ρ) (zp : Z0 p = none) (bp : B p = none) : Ok K b0 (upd B p o') Z0 Z (upd H p o') σ ρ := by
  obtain ⟨ok1, hz, ap, hp⟩ := ok.unframe zp bp
  exact (ok1.write (o := o') hz bp ap).frame hz ap upd_same
/-- all that is frozen joins what stays -/
def joinH (B Z : Hp) : Hp := fun p => match B p with
  | some o => some o
  | none => Z p
theorem Ok.enter (ok : Ok K b0 B Z0 Z H σ ρ) : Ok K b0 (joinH B Z) Z Z H σ ρ := by
  refine ⟨ok.len, fun b x e => ?_, ok.zh, Same.refl Z, fun b x e => .inl e, ok.sh, fun i ds e => ?_, ok.fix, ok.sep⟩
  · unfold joinH at e
    split at e
    · cases e; exact ok.bh b _ (by assumption)
    · exact ok.zh b x e
  · obtain ⟨q, vs, e1, e2, e3, e4, e5⟩ := ok.ow i ds e
    exact ⟨q, vs, e1, e2, by unfold joinH; rw [e3]; exact e2, e4, e5⟩
theorem Ok.leave {Z' H' : Hp} {σ' : L2.St} {ρ' : Rho} (ok : Ok K b0 B Z0 Z H σ ρ) (ok' : Ok K b0 (joinH B Z) Z Z' H' σ' ρ') : Ok K b0 B Z0 Z' H' σ' ρ' := by
  have jb : ∀ q, joinH B Z q = none → B q = none := fun q e => by
    unfold joinH at e
    split at e
    · cases e
    · assumption
  refine ⟨ok'.len, fun b x e => ok'.bh b x (by unfold joinH; rw [e]), ok'.zh, ok.zz.trans ok'.zz, fun b x e => ?_, ok'.sh, fun i ds e => ?_, ok'.fix, ok'.sep⟩
  · rcases ok'.nb b x e with z | z
    · exact ok.nb b x z
    · exact .inr (jb b z)
  · obtain ⟨q, vs, e1, e2, e3, e4, e5⟩ := ok'.ow i ds e
    exact ⟨q, vs, e1, e2, jb q e3, e4, e5⟩
theorem Sat.leave {o : O} (ok : Ok K b0 B Z0 Z H σ ρ) (s : Sat K Wx b0 B Z0 E o) : Sat K Wx b0 (joinH B Z) Z E o := by
  have jb : ∀ q, joinH B Z q = none → B q = none := fun q e => by
    unfold joinH at e
    split at e
    · cases e
    · assumption
  cases o with
  | nx ρ' => exact fun σ' H' Z' ok' => s σ' H' Z' (ok.leave ok')
  | rt d ρ' => exact fun v σ' H' Z' ok' r => s v σ' H' Z' (ok.leave ok') r
  | rf ds ρ' => exact fun p vs σ' H' Z' ok' zp bp ap hp r => s p vs σ' H' Z' (ok.leave ok') zp (jb p bp) ap hp r
  | bk ρ' => exact fun σ' H' Z' ok' => s σ' H' Z' (ok.leave ok')
  | ct ρ' => exact fun σ' H' Z' ok' => s σ' H' Z' (ok.leave ok')
  | ex c d ρ' => exact fun σ' H' Z' C dx v ok' => s σ' H' Z' C dx v (ok.leave ok')
  | bad => exact s.elim
/-! ### two names at once -/
/-- a value on the way into a slot: shared data, or a new list -/
inductive Nw where
  | s (d : D)
  | f (ds : List D)
def Nw.sl : Nw → Sl
  | .s d => .sh d
  | .f ds => .ow ds
def nS (g : GE) (ρ : Rho) : R Nw := (g ρ).map .s
def nF (g : GF) (ρ : Rho) : R Nw := (g ρ).map .f
def NwR (K : PySem.W.Frag) (B Z H : Hp) (σ : L2.St) (ρ : Rho) (v : V) : Nw → Prop
  | .s d => Rp K Z v d
  | .f ds => ∃ p vs, v = .ref p ∧ Z p = none ∧ B p = none ∧ Apart σ ρ p ∧ H p = some (.lst vs) ∧ RpA K Z vs ds
def DN (K : PySem.W.Frag) (t : TE) (g : Rho → R Nw) : Prop := ∀ b0 B Z0 Z H σ ρ n ρ' (Q : VK), Ok K b0 B Z0 Z H σ ρ → g ρ = .ok n ρ' → (∀ v H' Z', Ok K b0 B Z0 Z' H' σ ρ' → Same Z Z' → NwR K B Z' H' σ ρ' v n → Q v H') → t σ H Q
theorem dn_s {g : GE} (h : DE K te g) : DN K te (nS g) := fun b0 B Z0 Z H σ ρ n ρ' Q ok e q => by
  obtain ⟨d, e1, rfl⟩ := R.map_ok e
  exact h b0 B Z0 Z H σ ρ d ρ' Q ok e1 q
theorem dn_f {g : GF} (h : DF K te g) : DN K te (nF g) := fun b0 B Z0 Z H σ ρ n ρ' Q ok e q => by
  obtain ⟨d, e1, rfl⟩ := R.map_ok e
  exact h b0 B Z0 Z H σ ρ d ρ' Q ok e1 fun p vs H' Z' ok' s zp bp ap hp r => q _ H' Z' ok' s ⟨p, vs, rfl, zp, bp, ap, hp, r⟩
theorem Ok.putN {i : Nat} {v : V} {n : Nw} (ok : Ok K b0 B Z0 Z H σ ρ) (r : NwR K B Z H σ ρ v n) (hi : i ≠ 0) : Ok K b0 B Z0 Z H (σ.set i (some v)) (ρ.set i n.sl) := by
  cases n with
  | s d => exact ok.put r
  | f ds =>
    obtain ⟨p, vs, rfl, zp, bp, ap, hp, ra⟩ := r
    exact ok.putO zp bp ap hp ra fun _ _ z => absurd z hi
def sPar (i j : Nat) (a b : Rho → R Nw) (ρ : Rho) : O := (a ρ).to fun x ρ1 => (b ρ1).to fun y ρ2 => .nx ((ρ2.set i x.sl).set j y.sl)
theorem ds_par {i j : Nat} {a b : Rho → R Nw} (ha : DN K ta a) (hb : DN K tb b) (hi : i ≠ 0 := by decide) (hj0 : j ≠ 0 := by decide) : DS K Wx (tPar i j (tCons ta (tCons tb tNil))) (sPar i j a b) := fun b0 B Z0 Z H σ ρ E ok s => by
  obtain ⟨x, ρ1, e1, s⟩ := Sat.to s
  obtain ⟨y, ρ2, e2, s⟩ := Sat.to s
  refine ha b0 B Z0 Z H σ ρ x ρ1 _ ok e1 fun v H1 Z1 ok1 s1 r1 => ?_
  have pa : ∀ {q : Addr} {ds : List D} {H2 Z2 : Hp}, Ok K b0 B Z0 Z2 H2 σ ρ2 → B q = none → Z2 q = none → Apart σ ρ2 q → ∀ {k : Nat} {w : V} {m : Nw}, NwR K B Z2 H2 σ ρ2 w m → w ≠ .ref q → Apart (σ.set k (some w)) (ρ2.set k m.sl) q := by
    intro q ds H2 Z2 ok2 bq zq aq k w m rm hw j' es hj hq
    rcases set_get hj with ⟨ek, e⟩ | ⟨nk, e⟩
    · subst ek
      rcases set_get hq with ⟨_, e2⟩ | ⟨n2, _⟩
      · exact hw (Option.some.inj e2)
      · exact n2 rfl
    · rw [List.getElem?_set_ne nk] at hq
      exact aq j' es e hq
  cases x with
  | s d =>
    refine hb b0 B Z0 Z1 H1 σ ρ1 y ρ2 _ ok1 e2 fun w H2 Z2 ok2 s2 r2 => ⟨v, w, rfl, ?_⟩
    have okv := ok2.put (i := i) (Rp.mono s2 r1)
    refine s _ H2 Z2 ?_
    cases y with
    | s d2 => exact okv.put r2
    | f ds =>
      obtain ⟨q, vs, rfl, zq, bq, aq, hq, ra⟩ := r2
      refine okv.putO zq bq (fun j' es hj hqq => ?_) hq ra fun _ _ z => absurd z hj0
      rcases set_get hj with ⟨_, z⟩ | ⟨nk, e⟩
      · cases z
      · rw [List.getElem?_set_ne nk] at hqq
        exact aq j' es e hqq
  | f ds =>
    obtain ⟨q, vs, rfl, zq, bq, aq, hq, ra⟩ := r1
    have okf := ok1.frame zq aq hq
    refine hb b0 (upd B q (.lst vs)) Z0 Z1 H1 σ ρ1 y ρ2 _ okf e2 fun w H2 Z2 ok2 s2 r2 => ⟨.ref q, w, rfl, ?_⟩
    obtain ⟨ok3, zq2, aq2, hq2⟩ := ok2.unframe (ok1.zz.free zq) bq
    have okv := ok3.putO (i := i) zq2 bq aq2 hq2 (ra.mono s2) fun _ _ z => absurd z hi
    refine s _ H2 Z2 ?_
    cases y with
    | s d2 => exact okv.put r2
    | f ds2 =>
      obtain ⟨q', vs', rfl, zq', bq', aq', hq', ra'⟩ := r2
      have nq : q' ≠ q := fun z => by rw [z, upd_same] at bq'; cases bq'
      rw [upd_ne nq] at bq'
      refine okv.putO zq' bq' (fun j' es hj hqq => ?_) hq' ra' fun _ _ z => absurd z hj0
      rcases set_get hj with ⟨ek, _⟩ | ⟨nk, e⟩
      · subst ek
        rcases set_get hqq with ⟨_, e2⟩ | ⟨n2, _⟩
        · have z := Option.some.inj e2
          injection z with z
          exact nq z.symm
        · exact n2 rfl
      · rw [List.getElem?_set_ne nk] at hqq
        exact aq' j' es e hqq
/-! ### a list of one's own changes -/
def isOw : Option Sl → Bool
  | some (.ow _) => true
  | _ => false
def sApp (i : Nat) (g : GE) (ρ : Rho) : O := if isOw ρ[i]? then (g ρ).to fun d ρ1 => match ρ1[i]? with
    | some (.ow ds) => if ds.length < sizeLine then .nx (ρ1.set i (.ow (ds ++ [d]))) else .bad
    | _ => .bad
  else .bad
theorem Ok.isOw {i : Nat} (ok : Ok K b0 B Z0 Z H σ ρ) (h : isOw ρ[i]? = true) : ∃ p vs, σ[i]? = some (some (.ref p)) ∧ H p = some (.lst vs) := by
  unfold DL.isOw at h
  split at h
  · rename_i ds e
    obtain ⟨p, vs, e1, _, _, e4, _⟩ := ok.ow i ds e
    exact ⟨p, vs, e1, e4⟩
  · cases h
theorem Ok.rewrite {i : Nat} {ds es : List D} {vs' : List V} (ok : Ok K b0 B Z0 Z H σ ρ) (h : ρ[i]? = some (.ow ds)) (hp : σ[i]? = some (some (.ref p))) (r : RpA K Z vs' es) : Ok K b0 B Z0 Z (upd H p (.lst vs')) σ (ρ.set i (.ow es)) := by
  obtain ⟨q, vs, e1, ok', zp, bp, ap, _, _⟩ := ok.release h
  rw [hp] at e1
  cases e1
  have ok2 := ok'.write (o := .lst vs') zp bp ap
  have ok3 := ok2.putO (i := i) zp bp ap upd_same r fun a ha hi0 => by
    subst hi0
    have z := ok.fix a ha ds h
    rw [hp] at z
    injection z with z
    injection z with z
    injection z
  rw [List.set_set] at ok3
  have e : σ.set i (some (.ref p)) = σ := by
    apply List.ext_getElem?
    intro j
    by_cases hj : i = j
    · subst hj
      rw [List.getElem?_set_self (by
        by_cases z : i < σ.length
        · exact z
        · rw [List.getElem?_eq_none (by simpa using z)] at hp; cases hp), hp]
    · rw [List.getElem?_set_ne hj]
  rw [e] at ok3
  exact ok3
theorem ds_app {i : Nat} {g : GE} (h : DE K te g) : DS K Wx (tDrop (tBM K "list" rAppend (tVar i) (tCons te tNil))) (sApp i g) := fun b0 B Z0 Z H σ ρ E ok s => by
  unfold sApp at s
  split at s
  · rename_i h0
    obtain ⟨p, vs0, e0, hp0⟩ := ok.isOw h0
    obtain ⟨d, ρ1, e1, s⟩ := Sat.to s
    split at s
    · rename_i ds hi
      split at s
      · rename_i hs
        refine ⟨.ref p, e0, .inl ⟨rfl, vs0, .inl (.inl hp0)⟩, ?_⟩
        refine h b0 B Z0 Z H σ ρ d ρ1 _ ok e1 fun v H1 Z1 ok1 s1 r1 => ?_
        obtain ⟨q, vs, f1, f2, f3, f4, f5⟩ := ok1.ow i ds hi
        rw [e0] at f1
        cases f1
        exact ⟨p, vs, v, rfl, rfl, f4, by rw [f5.length]; exact hs, s σ _ Z1 (ok1.rewrite hi e0 (f5.append (.one r1)))⟩
      · exact s.elim
    · exact s.elim
  · exact s.elim
def sExt (i : Nat) (g : GF) (ρ : Rho) : O := if isOw ρ[i]? then (g ρ).to fun es ρ1 => match ρ1[i]? with
    | some (.ow ds) => if ds.length + es.length ≤ sizeLine then .nx (ρ1.set i (.ow (ds ++ es))) else .bad
    | _ => .bad
  else .bad
theorem ds_ext {i : Nat} {g : GF} (h : DF K te g) : DS K Wx (tDrop (tBM K "list" rExtend (tVar i) (tCons te tNil))) (sExt i g) := fun b0 B Z0 Z H σ ρ E ok s => by
  unfold sExt at s
  split at s
  · rename_i h0
    obtain ⟨p, vs0, e0, hp0⟩ := ok.isOw h0
    obtain ⟨d, ρ1, e1, s⟩ := Sat.to s
    split at s
    · rename_i ds hi
      split at s
      · rename_i hs
        refine ⟨.ref p, e0, .inl ⟨rfl, vs0, .inl (.inl hp0)⟩, ?_⟩
        refine h b0 B Z0 Z H σ ρ d ρ1 _ ok e1 fun p2 vs2 H1 Z1 ok1 s1 zp bp ap hp r1 => ?_
        obtain ⟨q, vs, f1, f2, f3, f4, f5⟩ := ok1.ow i ds hi
        rw [e0] at f1
        cases f1
        exact ⟨p, p2, vs, vs2, rfl, rfl, f4, hp, by rw [f5.length, r1.length]; exact hs, s σ _ Z1 (ok1.rewrite hi e0 (f5.append r1))⟩
      · exact s.elim
    · exact s.elim
  · exact s.elim
def sPop (i : Nat) (ρ : Rho) : O := match ρ[i]? with
  | some (.ow ds) => if ds.isEmpty then .bad else .nx (ρ.set i (.ow ds.dropLast))
  | _ => .bad
theorem dropLast_take (vs : List V) : vs.dropLast = vs.take (vs.length - 1) := List.dropLast_eq_take
theorem ds_pop {i : Nat} : DS K Wx (tDrop (tBM0 K "list" rPop (tVar i))) (sPop i) := fun b0 B Z0 Z H σ ρ E ok s => by
  unfold sPop at s
  split at s
  · rename_i ds hi
    split at s
    · exact s.elim
    · rename_i he
      obtain ⟨p, vs, f1, f2, f3, f4, f5⟩ := ok.ow i ds hi
      have hl := f5.length
      have hn : 0 < vs.length := by
        rw [hl]
        cases ds with
        | nil => exact absurd rfl he
        | cons _ _ => exact Nat.succ_pos _
      have g : vs[vs.length - 1]? = some vs[vs.length - 1] := List.getElem?_eq_getElem (by omega)
      refine ⟨.ref p, f1, .inl ⟨rfl, vs, .inl (.inl f4)⟩, p, vs, _, rfl, rfl, f4, g, s σ _ Z (ok.rewrite hi f1 ?_)⟩
      rw [List.dropLast_eq_take, List.dropLast_eq_take, hl]
      exact f5.take _
  · exact s.elim
/-- x[k] = e -/
def sPutIx (i : Nat) (gk : GE) (g : GE) (ρ : Rho) : O := (g ρ).to fun d ρ1 => if isOw ρ1[i]? then (gk ρ1).to fun k ρ2 => match k, ρ2[i]? with
    | .int k, some (.ow ds) => (match ixN ds.length k with
      | some j => .nx (ρ2.set i (.ow (ds.set j d)))
      | none => .bad)
    | _, _ => .bad
  else .bad
theorem ds_putIx {i : Nat} {gk g : GE} (h : DE K te g) (hk : DE K tb gk) : DS K Wx (tAsg te (gSub (tVar i) tb rSetL)) (sPutIx i gk g) := fun b0 B Z0 Z H σ ρ E ok s => by
  unfold sPutIx at s
  obtain ⟨d, ρ1, e1, s⟩ := Sat.to s
  refine h b0 B Z0 Z H σ ρ d ρ1 _ ok e1 fun v H1 Z1 ok1 s1 r1 => ?_
  split at s
  · rename_i h0
    obtain ⟨p, vs0, e0, hp0⟩ := ok1.isOw h0
    obtain ⟨k, ρ2, e2, s⟩ := Sat.to s
    split at s
    · rename_i k' ds hi
      split at s
      · rename_i j hj
        refine ⟨.ref p, e0, ?_⟩
        refine hk b0 B Z0 Z1 H1 σ ρ1 _ ρ2 _ ok1 e2 fun w H2 Z2 ok2 s2 r2 => ?_
        cases r2
        obtain ⟨q, vs, f1, f2, f3, f4, f5⟩ := ok2.ow i ds hi
        rw [e0] at f1
        cases f1
        exact ⟨p, vs, k', j, rfl, rfl, f4, by rw [f5.length]; exact hj, s σ _ Z2 (ok2.rewrite hi e0 (f5.set (r1.mono s2) j))⟩
      · exact s.elim
    · exact s.elim
  · exact s.elim
/-! ### x op= e -/
def SnIp (K : PySem.W.Frag) (r : TIp) (f : D → D → Option D) : Prop := ∀ b0 B Z0 Z H σ ρ x y a b c (Q : VK), Ok K b0 B Z0 Z H σ ρ → Rp K Z x a → Rp K Z y b → f a b = some c → (∀ v H' Z', Ok K b0 B Z0 Z' H' σ ρ → Same Z Z' → Rp K Z' v c → Q v H') → r x y H Q
def sAug (i : Nat) (f : D → D → Option D) (g : GE) (ρ : Rho) : O := match ρ[i]? with
  | some (.sh a) => (g ρ).to fun b ρ1 => match f a b with
    | some c => .nx (ρ1.set i (.sh c))
    | none => .bad
  | _ => .bad
theorem ds_aug {i : Nat} {r : TIp} {f : D → D → Option D} {g : GE} (sn : SnIp K r f) (h : DE K te g) : DS K Wx (tAug i te r) (sAug i f g) := fun b0 B Z0 Z H σ ρ E ok s => by
  unfold sAug at s
  split at s
  · rename_i a hi
    obtain ⟨b, ρ1, e1, s⟩ := Sat.to s
    split at s
    · rename_i c hc
      obtain ⟨v, e0, r0⟩ := ok.sh i a hi
      refine ⟨v, e0, ?_⟩
      refine h b0 B Z0 Z H σ ρ b ρ1 _ ok e1 fun w H1 Z1 ok1 s1 r1 => ?_
      exact sn b0 B Z0 Z1 H1 σ ρ1 v w a b c _ ok1 (r0.mono s1) r1 hc fun u H2 Z2 ok2 s2 r2 => s _ H2 Z2 (ok2.put r2)
    · exact s.elim
  · exact s.elim
def iAdd : D → D → Option D
  | .int i, .int j => some (.int (i + j))
  | _, _ => none
def iSub : D → D → Option D
  | .int i, .int j => some (.int (i - j))
  | _, _ => none
theorem sn_ipAdd : SnIp K (ipI fun i j => i + j) iAdd := fun b0 B Z0 Z H σ ρ x y a b c Q ok ra rb e q => by
  unfold iAdd at e
  split at e
  · cases e; cases ra; cases rb
    exact ⟨_, _, rfl, rfl, q _ H Z ok (Same.refl Z) (.int _)⟩
  · cases e
theorem sn_ipSub : SnIp K (ipI fun i j => i - j) iSub := fun b0 B Z0 Z H σ ρ x y a b c Q ok ra rb e q => by
  unfold iSub at e
  split at e
  · cases e; cases ra; cases rb
    exact ⟨_, _, rfl, rfl, q _ H Z ok (Same.refl Z) (.int _)⟩
  · cases e
/-! ### loops -/
structure Wk (K : PySem.W.Frag) (J : It) (Z : Hp) (ds : List D) : Prop where
  goes : ∀ i H, i < ds.length → Same Z H → J.go i H
  stops : ∀ H, Same Z H → J.stop ds.length H
  yields : ∀ i H x H', i < ds.length → J.yld i H x H' → ∀ b0 B Z0 Z' σ ρ, Ok K b0 B Z0 Z' H σ ρ → Same Z Z' → ∃ Z'' d, Ok K b0 B Z0 Z'' H' σ ρ ∧ Same Z' Z'' ∧ ds[i]? = some d ∧ Rp K Z'' x d
def DI (K : PySem.W.Frag) (t : TI) (g : GF) : Prop := ∀ b0 B Z0 Z H σ ρ ds ρ' (R : It → Hp → Prop), Ok K b0 B Z0 Z H σ ρ → g ρ = .ok ds ρ' → (∀ J H' Z', Ok K b0 B Z0 Z' H' σ ρ' → Same Z Z' → Wk K J Z' ds → R J H') → t σ H R
def forL (k : GG) (b : GS) : List D → Rho → O
  | [], ρ => .nx ρ
  | d :: ds, ρ => match k d ρ with
    | none => .bad
    | some ρ1 => match b ρ1 with
      | .nx ρ2 => forL k b ds ρ2
      | .ct ρ2 => forL k b ds ρ2
      | .bk ρ2 => .nx ρ2
      | o => o
def sFor (gi : GF) (k : GG) (b : GS) (ρ : Rho) : O := (gi ρ).to fun ds ρ1 => forL k b ds ρ1
theorem ds_for {ti : TI} {tg : TG} {tb : TS} {ws : List Nat} {gi : GF} {k : GG} {b : GS} (hi : DI K ti gi) (hk : DG K ws tg k) (hb : DS K Wx tb b) : DS K Wx (tFor ti tg tb) (sFor gi k b) := fun b0 B Z0 Z H σ ρ E ok s => by
  obtain ⟨ds, ρ1, e1, s⟩ := Sat.to s
  refine hi b0 B Z0 Z H σ ρ ds ρ1 _ ok e1 fun J H1 Z1 ok1 s1 wk => ?_
  have W : Walk J ds.length (fun H => Same Z1 H) (fun i H x H' => J.yld i H x H') := ⟨wk.goes, wk.stops, fun _ _ _ _ _ _ y => y⟩
  refine for_it W (fun i σ H => ∃ Z ρ, Ok K b0 (joinH B Z1) Z1 Z H σ ρ ∧ Sat K Wx b0 (joinH B Z1) Z1 E (forL k b (ds.drop i) ρ)) ⟨Z1, ρ1, ok1.enter, ?_⟩ (fun i σ H _ h => ?_) (fun i x σ H H' hlt h y => ?_) (fun σ H h => ?_)
  · rw [List.drop_zero]
    exact Sat.leave ok1 s
  · obtain ⟨Z, ρ, ok, _⟩ := h
    exact ok.zz.trans ok.zh
  · obtain ⟨Z2, ρ2, ok2, sat⟩ := h
    obtain ⟨Z3, d, ok3, s3, hd, rd⟩ := wk.yields i H x H' hlt y _ _ _ _ _ _ ok2 ok2.zz
    have ed : ds.drop i = d :: ds.drop (i + 1) := by
      obtain ⟨hl, e⟩ := List.getElem?_eq_some_iff.mp hd
      rw [← e]
      exact List.drop_eq_getElem_cons hl
    rw [ed] at sat
    unfold forL at sat
    split at sat
    · exact sat.elim
    · rename_i ρ3 hk3
      refine hk _ _ _ Z3 H' σ ρ2 x d ρ3 _ ok3 rd hk3 fun σ3 ok4 _ => ?_
      refine hb _ _ _ Z3 H' σ3 ρ3 _ ok4 ?_
      split at sat
      · rename_i ρ4 e4; rw [e4]; exact fun σ4 H4 Z4 ok5 => ⟨Z4, ρ4, ok5, sat⟩
      · rename_i ρ4 e4; rw [e4]; exact fun σ4 H4 Z4 ok5 => ⟨Z4, ρ4, ok5, sat⟩
      · rename_i ρ4 e4; rw [e4]; exact sat
      · rename_i o h1 h2 h3
        generalize b ρ3 = o' at *
        cases o' with
        | nx ρ' => exact absurd rfl (h1 ρ')
        | ct ρ' => exact absurd rfl (h2 ρ')
        | bk ρ' => exact absurd rfl (h3 ρ')
        | rt d ρ' => exact sat
        | rf ds ρ' => exact sat
        | ex c d ρ' => exact sat
        | bad => exact sat.elim
  · obtain ⟨Z2, ρ2, ok2, sat⟩ := h
    rw [List.drop_length] at sat
    exact sat σ H Z2 ok2
def whileL (c : GT) (b : GS) : Nat → Rho → O
  | 0, _ => .bad
  | n + 1, ρ => (c ρ).to fun k ρ1 => if k then (match b ρ1 with
      | .nx ρ2 => whileL c b n ρ2
      | .ct ρ2 => whileL c b n ρ2
      | .bk ρ2 => .nx ρ2
      | o => o) else .nx ρ1
theorem ds_while {n : Nat} {tb : TS} {c : GT} {b : GS} (hc : DT K tt c) (hb : DS K Wx tb b) : DS K Wx (tWhile tt tb) (whileL c b n) := fun b0 B Z0 Z H σ ρ E ok s => by
  refine ⟨fun m σ H => ∃ Z ρ, Ok K b0 B Z0 Z H σ ρ ∧ Sat K Wx b0 B Z0 E (whileL c b m ρ), ⟨n, Z, ρ, ok, s⟩, fun m σ H h => ?_⟩
  obtain ⟨Z1, ρ1, ok1, sat⟩ := h
  cases m with
  | zero => exact sat.elim
  | succ m =>
    unfold whileL at sat
    obtain ⟨k, ρ2, e2, sat⟩ := Sat.to sat
    refine hc b0 B Z0 Z1 H σ ρ1 k ρ2 _ ok1 e2 fun H2 Z2 ok2 _ => ?_
    cases k with
    | false => exact sat σ H2 Z2 ok2
    | true =>
      refine ⟨fun σ H => ∃ Z ρ, Ok K b0 B Z0 Z H σ ρ ∧ Sat K Wx b0 B Z0 E (whileL c b m ρ), fun σ' H' h => ⟨m, Nat.lt_succ_self m, h⟩, ?_⟩
      refine hb _ _ _ Z2 H2 σ ρ2 _ ok2 ?_
      simp only [if_true] at sat
      split at sat
      · rename_i ρ4 e4; rw [e4]; exact fun σ4 H4 Z4 ok5 => ⟨Z4, ρ4, ok5, sat⟩
      · rename_i ρ4 e4; rw [e4]; exact fun σ4 H4 Z4 ok5 => ⟨Z4, ρ4, ok5, sat⟩
      · rename_i ρ4 e4; rw [e4]; exact sat
      · rename_i o h1 h2 h3
        generalize b ρ2 = o' at *
        cases o' with
        | nx ρ' => exact absurd rfl (h1 ρ')
        | ct ρ' => exact absurd rfl (h2 ρ')
        | bk ρ' => exact absurd rfl (h3 ρ')
        | rt d ρ' => exact sat
        | rf ds ρ' => exact sat
        | ex c d ρ' => exact sat
        | bad => exact sat.elim
end
end DL

namespace DL
open PySem L2
section
variable {K : PySem.W.Frag} {Wx : WX} {ta tb te : TE} {tt tu : TT} {tas : TA} {t u : TS} {b0 : Option Addr} {B Z0 Z H : Hp} {σ : L2.St} {ρ : Rho} {E : Ends} {p : Addr} {o o' : HO}
/-! ### comprehensions -/
def wipeR (ρ : Rho) : List Nat → Rho
  | [] => ρ
  | v :: vs => (wipeR ρ vs).set v .no
theorem wipeR_len : ∀ (vs : List Nat), (wipeR ρ vs).length = ρ.length
  | [] => rfl
  | v :: vs => by unfold wipeR; rw [List.length_set, wipeR_len vs]
theorem wipeR_get {i : Nat} {s : Sl} : ∀ {vs : List Nat}, (wipeR ρ vs)[i]? = some s → s = .no ∨ (i ∉ vs ∧ ρ[i]? = some s)
  | [], h => .inr ⟨by simp, h⟩
  | v :: vs, h => by
    unfold wipeR at h
    rcases set_get h with ⟨_, e⟩ | ⟨n, e⟩
    · exact .inl e.symm
    · rcases wipeR_get e with z | ⟨z1, z2⟩
      · exact .inl z
      · exact .inr ⟨fun z => (List.mem_cons.mp z).elim (fun y => n y.symm) z1, z2⟩
theorem wipe_get {i : Nat} : ∀ {vs : List Nat}, i ∉ vs → (wipe σ vs)[i]? = σ[i]?
  | [], _ => rfl
  | v :: vs, h => by
    unfold wipe
    rw [List.getElem?_set_ne (fun z => h (by rw [z]; exact List.mem_cons_self)), wipe_get fun z => h (List.mem_cons_of_mem _ z)]
theorem Ok.wipe (vs : List Nat) (ok : Ok K b0 B Z0 Z H σ ρ) : Ok K b0 B Z0 Z H (wipe σ vs) (wipeR ρ vs) :=
  ok.weak (by rw [wipe_length, wipeR_len]; exact ok.len) fun i s h => (wipeR_get h).imp id fun z => ⟨z.2, wipe_get z.1⟩
theorem Ok.unwipe (vs : List Nat) (ok : Ok K b0 B Z0 Z H (L2.wipe σ vs) ρ) : Ok K b0 B Z0 Z H σ (wipeR ρ vs) :=
  ok.weak (by rw [wipeR_len, ← ok.len, wipe_length]) fun i s h => (wipeR_get h).imp id fun z => ⟨z.2, (wipe_get z.1).symm⟩
theorem wipe_wipe (σ : L2.St) (vs : List Nat) : L2.wipe (L2.wipe σ vs) vs = L2.wipe σ vs := by
  apply List.ext_getElem?
  intro i
  by_cases h : i ∈ vs
  · have e : ∀ (τ : L2.St) (ws : List Nat), i ∈ ws → (L2.wipe τ ws)[i]? = if i < τ.length then some none else none := by
      intro τ ws
      induction ws with
      | nil => intro h; cases h
      | cons w ws ih =>
        intro h
        unfold L2.wipe
        by_cases hw : w = i
        · subst hw
          by_cases hl : w < τ.length
          · rw [List.getElem?_set_self (by rw [wipe_length]; exact hl), if_pos hl]
          · rw [if_neg hl, List.getElem?_eq_none (by rw [List.length_set, wipe_length]; omega)]
        · rw [List.getElem?_set_ne hw]
          exact ih ((List.mem_cons.mp h).resolve_left fun z => hw z.symm)
    rw [e _ _ h, e _ _ h, wipe_length]
  · rw [wipe_get h]
def gYes (ρ : Rho) : R Bool := .ok true ρ
theorem dt_yes : DT K tYes gYes := fun b0 B Z0 Z H σ ρ b ρ' Q ok e q => by
  cases e
  exact q H Z ok (Same.refl Z)
def lcL (vs : List Nat) (k : GG) (t : GT) (e : GE) : List D → Rho → R (List D)
  | [], ρ => .ok [] ρ
  | d :: ds, ρ => match k d ρ with
    | none => .bad
    | some ρ1 => (t ρ1).bind fun b ρ2 => if b then (e ρ2).bind fun y ρ3 => (lcL vs k t e ds (wipeR ρ3 vs)).map (y :: ·) else lcL vs k t e ds (wipeR ρ2 vs)
def eLc (vs : List Nat) (gi : GF) (k : GG) (t : GT) (e : GE) (ρ : Rho) : R (List D) := (gi ρ).bind fun ds ρ1 => if ds.length ≤ sizeLine then (lcL vs k t e ds (wipeR ρ1 vs)).bind fun ys ρ2 => .ok ys (wipeR ρ2 vs) else .bad
theorem df_lc {ti : TI} {tg : TG} {vs : List Nat} {gi : GF} {k : GG} {gt : GT} {ge : GE} (hi : DI K ti gi) (hk : DG K vs tg k) (ht : DT K tt gt) (he : DE K te ge) : DF K (tLc ti tg tt te vs) (eLc vs gi k gt ge) := fun b0 B Z0 Z H σ ρ ys ρ' Q ok e q => by
  obtain ⟨ds, ρ1, e1, e2⟩ := R.bind_ok e
  split at e2
  · rename_i hsz
    obtain ⟨ys', ρ2, e3, e4⟩ := R.bind_ok e2
    cases e4
    refine hi b0 B Z0 Z H σ ρ ds ρ1 _ ok e1 fun J H1 Z1 ok1 s1 wk => fun D hD => ?_
    have W : Walk J ds.length (fun H => Same Z1 H) (fun i H x H' => J.yld i H x H') := ⟨wk.goes, wk.stops, fun _ _ _ _ _ _ y => y⟩
    have bD : B D = none := ok1.bh.free hD
    have zD : Z0 D = none := ok1.zz.free (ok1.zh.free hD)
    refine lc_it W (fun i H => ∃ Z ρ acc da rest, Ok K b0 (upd B D (.lst acc)) Z0 Z H (wipe σ vs) ρ ∧ Same Z1 Z ∧ RpA K Z acc da ∧ acc.length ≤ i ∧ lcL vs k gt ge (ds.drop i) ρ = .ok rest ρ2 ∧ ys = da ++ rest) ?_ (fun i H _ h => ?_) (fun i x H H' hlt h y => ?_) (fun H h => ?_)
    · obtain ⟨okf, zf, bf, af⟩ := ok1.fresh (o := .lst []) hD
      have okw := okf.frame zf af upd_same
      refine ⟨Z1, wipeR ρ1 vs, [], [], ys, okw.wipe vs, Same.refl Z1, .nil, Nat.le_refl 0, ?_, rfl⟩
      rw [List.drop_zero]
      exact e3
    · obtain ⟨Z2, ρ2, acc, da, rest, ok2, s2, _⟩ := h
      exact s2.trans ok2.zh
    · obtain ⟨Z2, ρ2', acc, da, rest, ok2, s2, ra, hl, el, ey⟩ := h
      obtain ⟨Z3, d, ok3, s3, hd, rd⟩ := wk.yields i H x H' hlt y _ _ _ _ _ _ ok2 s2
      have ed : ds.drop i = d :: ds.drop (i + 1) := by
        obtain ⟨hl, e⟩ := List.getElem?_eq_some_iff.mp hd
        rw [← e]
        exact List.drop_eq_getElem_cons hl
      rw [ed] at el
      unfold lcL at el
      split at el
      · cases el
      · rename_i ρ3 hk3
        refine hk _ _ _ Z3 H' (wipe σ vs) ρ2' x d ρ3 _ ok3 rd hk3 fun σ3 ok4 w4 => ⟨w4.trans (wipe_wipe σ vs), ?_⟩
        obtain ⟨b, ρ4, e4, el⟩ := R.bind_ok el
        refine ht _ _ _ Z3 H' σ3 ρ3 b ρ4 _ ok4 e4 fun H5 Z5 ok5 s5 => ?_
        cases b with
        | false =>
          refine ⟨Z5, wipeR ρ4 vs, acc, da, rest, ?_, (s2.trans s3).trans s5, (ra.mono s3).mono s5, Nat.le_succ_of_le hl, el, ey⟩
          have := ok5.wipe vs
          rw [w4, wipe_wipe] at this
          exact this
        | true =>
          obtain ⟨yv, ρ5, e5, el⟩ := R.bind_ok el
          obtain ⟨rest', e6, rfl⟩ := R.map_ok el
          refine he _ _ _ Z5 H5 σ3 ρ4 yv ρ5 _ ok5 e5 fun v H6 Z6 ok6 s6 r6 => ?_
          obtain ⟨_, hz6, ap6, hp6⟩ := ok6.unframe zD bD
          refine ⟨acc, hp6, by omega, Z6, wipeR ρ5 vs, acc ++ [v], da ++ [yv], rest', ?_, ((s2.trans s3).trans s5).trans s6, (((ra.mono s3).mono s5).mono s6).append (.one r6), ?_, e6, ?_⟩
          · have := (ok6.reframe (o' := .lst (acc ++ [v])) zD bD).wipe vs
            rw [w4, wipe_wipe] at this
            exact this
          · rw [List.length_append, List.length_singleton]; omega
          · rw [ey, List.append_assoc]; rfl
    · obtain ⟨Z2, ρ2', acc, da, rest, ok2, s2, ra, hl, el, ey⟩ := h
      rw [List.drop_length] at el
      cases el
      obtain ⟨ok3, hz, ap, hp⟩ := ok2.unframe zD bD
      have ok4 := ok3.unwipe vs
      rw [List.append_nil] at ey
      subst ey
      refine q D acc H Z2 ok4 (s1.trans s2) hz bD (fun i es hi hq => ?_) hp ra
      rcases wipeR_get hi with z | ⟨z1, z2⟩
      · cases z
      · exact ap i es z2 (by rw [wipe_get z1]; exact hq)
  · cases e2
end
end DL

namespace DL
open PySem L2
section
variable {K : PySem.W.Frag} {Wx : WX} {ta tb te : TE} {tt tu : TT} {tas : TA} {t u : TS} {b0 : Option Addr} {B Z0 Z H : Hp} {σ : L2.St} {ρ : Rho} {p : Addr} {o o' : HO}
/-! ### defs: promises about data -/
/-- what a caller hears of the frozen heap behind a call -/
def Grow (H Z Z' H' : Hp) : Prop := Same Z Z' ∧ Same Z' H' ∧ ∀ p o, Z' p = some o → Z p = some o ∨ H p = none
/-- a def that hands back data and changes nothing -/
def spP (K : PySem.W.Frag) (np : Nat) (F : List D → Option D) : Sp := fun vs H Q _ => vs.length = np ∧ ∃ Z ds d, Same Z H ∧ RpA K Z vs ds ∧ F ds = some d ∧ ∀ v H' Z', Same H H' → Grow H Z Z' H' → Rp K Z' v d → Q v H'
/-- .. a new list -/
def spF (K : PySem.W.Frag) (np : Nat) (F : List D → Option (List D)) : Sp := fun vs H Q _ => vs.length = np ∧ ∃ Z ds es, Same Z H ∧ RpA K Z vs ds ∧ F ds = some es ∧ ∀ p ws H' Z', Same H H' → Grow H Z Z' H' → H p = none → Z' p = none → H' p = some (.lst ws) → RpA K Z' ws es → Q (.ref p) H'
/-- a def whose first parameter is a list that it may change -/
def spB (K : PySem.W.Frag) (np : Nat) (F : List D → List D → Option (D × List D)) : Sp := fun vs H Q _ => vs.length = np ∧ ∃ Z b vb box rest ds d box', vs = .ref b :: rest ∧ Same Z H ∧ Z b = none ∧ H b = some (.lst vb) ∧ RpA K Z vb box ∧ RpA K Z rest ds ∧ F box ds = some (d, box') ∧
  ∀ v H' Z' vb', (∀ p o, p ≠ b → H p = some o → H' p = some o) → Grow H Z Z' H' → Z' b = none → H' b = some (.lst vb') → RpA K Z' vb' box' → Rp K Z' v d → Q v H'
def spBF (K : PySem.W.Frag) (np : Nat) (F : List D → List D → Option (List D × List D)) : Sp := fun vs H Q _ => vs.length = np ∧ ∃ Z b vb box rest ds es box', vs = .ref b :: rest ∧ Same Z H ∧ Z b = none ∧ H b = some (.lst vb) ∧ RpA K Z vb box ∧ RpA K Z rest ds ∧ F box ds = some (es, box') ∧
  ∀ p ws H' Z' vb', (∀ p o, p ≠ b → H p = some o → H' p = some o) → Grow H Z Z' H' → Z' b = none → H' b = some (.lst vb') → RpA K Z' vb' box' → H p = none → Z' p = none → H' p = some (.lst ws) → RpA K Z' ws es → Q (.ref p) H'
/-! the functions that a body computes: n slots -/
def env0 (n : Nat) (args : List D) : Rho := args.map .sh ++ List.replicate (n - args.length) .no
def envB (n : Nat) (box : List D) (args : List D) : Rho := .ow box :: (args.map .sh ++ List.replicate (n - (args.length + 1)) .no)
def callP (np n : Nat) (g : GS) : List D → Option D := fun args => if args.length ≠ np then none else match g (env0 n args) with
  | .rt d _ => some d
  | .nx _ => some .none
  | .rf ds _ => some (.list ds)
  | _ => none
def callF (np n : Nat) (g : GS) : List D → Option (List D) := fun args => if args.length ≠ np then none else match g (env0 n args) with
  | .rf ds _ => some ds
  | _ => none
def box0 (ρ : Rho) : Option (List D) := match (ρ[0]? : Option Sl) with
  | some (.ow b) => some b
  | _ => none
def callB (np n : Nat) (g : GS) : List D → List D → Option (D × List D) := fun box args => if args.length + 1 ≠ np then none else match g (envB n box args) with
  | .rt d ρ => (box0 ρ).map (d, ·)
  | .nx ρ => (box0 ρ).map (.none, ·)
  | .rf ds ρ => (box0 ρ).map (.list ds, ·)
  | _ => none
def callBF (np n : Nat) (g : GS) : List D → List D → Option (List D × List D) := fun box args => if args.length + 1 ≠ np then none else match g (envB n box args) with
  | .rf ds ρ => (box0 ρ).map (ds, ·)
  | _ => none
theorem args_get {vs : List V} {ds : List D} {n m i : Nat} {s : Sl} (r : RpA K Z vs ds) (h : (ds.map Sl.sh ++ List.replicate m .no)[i]? = some s) : s = .no ∨ ∃ d v, s = .sh d ∧ (vs.map some ++ List.replicate n none)[i]? = some (some v) ∧ Rp K Z v d := by
  by_cases hi : i < ds.length
  · rw [List.getElem?_append_left (by rw [List.length_map]; exact hi), List.getElem?_map] at h
    obtain ⟨d, hd, rfl⟩ := Option.map_eq_some_iff.mp h
    obtain ⟨v, hv, rv⟩ := r.get hd
    refine .inr ⟨d, v, rfl, ?_, rv⟩
    rw [List.getElem?_append_left (by rw [List.length_map, r.length]; exact hi), List.getElem?_map, hv]
    rfl
  · rw [List.getElem?_append_right (by rw [List.length_map]; omega), List.getElem?_replicate] at h
    split at h
    · exact .inl (Option.some.inj h).symm
    · cases h
theorem ok_start {N : List Str} {vs : List V} {ds : List D} (s : Same Z H) (r : RpA K Z vs ds) (hn : vs.length ≤ N.length) : Ok K none H Z Z H (L2.start N vs) (env0 N.length ds) := by
  unfold L2.start env0
  refine ⟨?_, Same.refl H, s, Same.refl Z, fun _ _ e => .inl e, fun i d h => ?_, fun i ds' h => ?_, (fun _ z => nomatch z), fun i j p as bs h _ _ _ => ?_⟩
  · rw [List.length_append, List.length_append, List.length_map, List.length_map, List.length_replicate, List.length_replicate, r.length]
  · rcases args_get (n := N.length - vs.length) r h with z | ⟨d', v, e, e2, rv⟩
    · cases z
    · cases e; exact ⟨v, e2, rv⟩
  · rcases args_get (n := N.length - vs.length) r h with z | ⟨d', v, e, e2, rv⟩
    · cases z
    · cases e
  · rcases args_get (n := N.length - vs.length) r h with z | ⟨d', v, e, e2, rv⟩
    · cases z
    · cases e
/-- a body that reads as g keeps the promise -/
theorem run_P {N : List Str} {np : Nat} {g : GS} {vs : List V} {Q : VK} {E : XK} (h : DS K (fun _ _ _ _ => False) t g) (hk : np ≤ N.length) (hs : spP K np (callP np N.length g) vs H Q E) : t { nx := fun _ H' => Q .non H', rt := Q } (L2.start N vs) H := by
  obtain ⟨hl, Z, ds, d, sZ, ra, e, q⟩ := hs
  have ok := ok_start (N := N) sZ ra (by omega)
  refine h _ _ _ _ _ _ _ _ ok ?_
  unfold callP at e
  split at e
  · cases e
  split at e
  · rename_i d' ρ' e'
    cases e
    rw [e']
    exact fun v σ' H' Z' ok' r => q v H' Z' ok'.bh ⟨ok'.zz, ok'.zh, ok'.nb⟩ r
  · rename_i ρ' e'
    cases e
    rw [e']
    exact fun σ' H' Z' ok' => q .non H' Z' ok'.bh ⟨ok'.zz, ok'.zh, ok'.nb⟩ .non
  · rename_i ds' ρ' e'
    cases e
    rw [e']
    intro p ws σ' H' Z' ok' zp bp ap hp r
    obtain ⟨ok2, s2⟩ := ok'.freeze zp bp ap hp
    exact q (.ref p) H' _ ok2.bh ⟨ok2.zz, ok2.zh, ok2.nb⟩ (.lst upd_same (r.mono s2))
  · cases e
theorem run_F {N : List Str} {np : Nat} {g : GS} {vs : List V} {Q : VK} {E : XK} (h : DS K (fun _ _ _ _ => False) t g) (hk : np ≤ N.length) (hs : spF K np (callF np N.length g) vs H Q E) : t { nx := fun _ H' => Q .non H', rt := Q } (L2.start N vs) H := by
  obtain ⟨hl, Z, ds, d, sZ, ra, e, q⟩ := hs
  have ok := ok_start (N := N) sZ ra (by omega)
  refine h _ _ _ _ _ _ _ _ ok ?_
  unfold callF at e
  split at e
  · cases e
  split at e
  · rename_i ds' ρ' e'
    cases e
    rw [e']
    intro p ws σ' H' Z' ok' zp bp ap hp r
    exact q p ws H' Z' ok'.bh ⟨ok'.zz, ok'.zh, ok'.nb⟩ bp zp hp r
  · cases e
/-- H without b -/
def but (H : Hp) (b : Addr) : Hp := fun p => if p = b then none else H p
theorem but_same {b : Addr} : but H b b = none := if_pos rfl
theorem but_ne {b q : Addr} (h : q ≠ b) : but H b q = H q := if_neg h
theorem but_le {b : Addr} : Same (but H b) H := fun q o e => by
  by_cases hq : q = b
  · rw [hq, but_same] at e; cases e
  · rw [but_ne hq] at e; exact e
theorem ok_startB {N : List Str} {b : Addr} {vb rest : List V} {box ds : List D} (s : Same Z H) (zb : Z b = none) (hb : H b = some (.lst vb)) (rb : RpA K Z vb box) (r : RpA K Z rest ds) (hn : rest.length + 1 ≤ N.length) : Ok K (some b) (but H b) Z Z H (L2.start N (.ref b :: rest)) (envB N.length box ds) := by
  have len : (L2.start N (.ref b :: rest)) = some (.ref b) :: (rest.map some ++ List.replicate (N.length - (rest.length + 1)) none) := rfl
  rw [len]
  unfold envB
  have zb' : ∀ q o, Z q = some o → (Z q = some o ∨ but H b q = none) := fun q o e => .inl e
  have G : ∀ {i : Nat} {s : Sl}, (Sl.ow box :: (ds.map Sl.sh ++ List.replicate (N.length - (ds.length + 1)) .no))[i]? = some s → (i = 0 ∧ s = .ow box) ∨ s = .no ∨ ∃ j d v, i = j + 1 ∧ s = .sh d ∧ (rest.map some ++ List.replicate (N.length - (rest.length + 1)) none)[j]? = some (some v) ∧ Rp K Z v d := by
    intro i s h
    cases i with
    | zero => exact .inl ⟨rfl, (Option.some.inj h).symm⟩
    | succ j =>
      rw [List.getElem?_cons_succ] at h
      rcases args_get (n := N.length - (rest.length + 1)) r h with z | ⟨d', v, e, e2, rv⟩
      · exact .inr (.inl z)
      · exact .inr (.inr ⟨j, d', v, rfl, e, e2, rv⟩)
  refine ⟨?_, but_le, s, Same.refl Z, zb', fun i d h => ?_, fun i ds' h => ?_, fun a ha ds' h => by cases ha; rfl, fun i j p as bs h h' _ _ => ?_⟩
  · simp only [List.length_cons, List.length_append, List.length_map, List.length_replicate, r.length]
  · rcases G h with ⟨_, z⟩ | z | ⟨j, d', v, rfl, e, e2, rv⟩
    · cases z
    · cases z
    · cases e; exact ⟨v, by rw [List.getElem?_cons_succ]; exact e2, rv⟩
  · rcases G h with ⟨rfl, z⟩ | z | ⟨j, d', v, rfl, e, e2, rv⟩
    · cases z; exact ⟨b, vb, rfl, zb, but_same, hb, rb⟩
    · cases z
    · cases e
  · rcases G h with ⟨rfl, z⟩ | z | ⟨j, d', v, rfl, e, e2, rv⟩
    · rcases G h' with ⟨rfl, z⟩ | z | ⟨j, d', v, rfl, e, e2, rv⟩
      · rfl
      · cases z
      · cases e
    · cases z
    · cases e
theorem box0_ok {b : Addr} {Z' H' : Hp} {σ' : L2.St} {ρ' : Rho} {box' : List D} (ok : Ok K (some b) (but H b) Z0 Z' H' σ' ρ') (h : box0 ρ' = some box') : ∃ vb', Z' b = none ∧ H' b = some (.lst vb') ∧ RpA K Z' vb' box' := by
  unfold box0 at h
  split at h
  · rename_i b' e
    cases h
    obtain ⟨q, vs, e1, e2, e3, e4, e5⟩ := ok.ow 0 _ e
    have z := ok.fix b rfl _ e
    rw [e1] at z
    cases z
    exact ⟨vs, e2, e4, e5⟩
  · cases h
theorem but_nb {b : Addr} {Z' : Hp} (zb : Z' b = none) (h : ∀ p o, Z' p = some o → Z p = some o ∨ but H b p = none) : ∀ p o, Z' p = some o → Z p = some o ∨ H p = none := fun p o e => by
  rcases h p o e with z | z
  · exact .inl z
  · have n : p ≠ b := ne_of_none e zb
    rw [but_ne n] at z
    exact .inr z
theorem but_bh {b : Addr} {H' : Hp} (h : Same (but H b) H') : ∀ p o, p ≠ b → H p = some o → H' p = some o := fun p o n e => h p o (by rw [but_ne n]; exact e)
theorem run_B {N : List Str} {np : Nat} {g : GS} {vs : List V} {Q : VK} {E : XK} (h : DS K (fun _ _ _ _ => False) t g) (hk : np ≤ N.length) (hs : spB K np (callB np N.length g) vs H Q E) : t { nx := fun _ H' => Q .non H', rt := Q } (L2.start N vs) H := by
  obtain ⟨hl, Z, b, vb, box, rest, ds, d, box', rfl, sZ, zb, hb, rb, ra, e, q⟩ := hs
  have ok := ok_startB (N := N) sZ zb hb rb ra (by rw [List.length_cons] at hl; omega)
  refine h _ _ _ _ _ _ _ _ ok ?_
  unfold callB at e
  split at e
  · cases e
  split at e
  · rename_i d' ρ' e'
    obtain ⟨bx, e1, e2⟩ := Option.map_eq_some_iff.mp e
    cases e2
    rw [e']
    intro v σ' H' Z' ok' r
    obtain ⟨vb', z1, z2, z3⟩ := box0_ok ok' e1
    exact q v H' Z' vb' (but_bh ok'.bh) ⟨ok'.zz, ok'.zh, but_nb z1 ok'.nb⟩ z1 z2 z3 r
  · rename_i ρ' e'
    obtain ⟨bx, e1, e2⟩ := Option.map_eq_some_iff.mp e
    cases e2
    rw [e']
    intro σ' H' Z' ok'
    obtain ⟨vb', z1, z2, z3⟩ := box0_ok ok' e1
    exact q .non H' Z' vb' (but_bh ok'.bh) ⟨ok'.zz, ok'.zh, but_nb z1 ok'.nb⟩ z1 z2 z3 .non
  · rename_i ds' ρ' e'
    obtain ⟨bx, e1, e2⟩ := Option.map_eq_some_iff.mp e
    cases e2
    rw [e']
    intro p ws σ' H' Z' ok' zp bp ap hp r
    obtain ⟨ok2, s2⟩ := ok'.freeze zp bp ap hp
    obtain ⟨vb', z1, z2, z3⟩ := box0_ok ok2 e1
    exact q (.ref p) H' _ vb' (but_bh ok2.bh) ⟨ok2.zz, ok2.zh, but_nb z1 ok2.nb⟩ z1 z2 z3 (.lst upd_same (r.mono s2))
  · cases e
theorem run_BF {N : List Str} {np : Nat} {g : GS} {vs : List V} {Q : VK} {E : XK} (h : DS K (fun _ _ _ _ => False) t g) (hk : np ≤ N.length) (hs : spBF K np (callBF np N.length g) vs H Q E) : t { nx := fun _ H' => Q .non H', rt := Q } (L2.start N vs) H := by
  obtain ⟨hl, Z, b, vb, box, rest, ds, d, box', rfl, sZ, zb, hb, rb, ra, e, q⟩ := hs
  have ok := ok_startB (N := N) sZ zb hb rb ra (by rw [List.length_cons] at hl; omega)
  refine h _ _ _ _ _ _ _ _ ok ?_
  unfold callBF at e
  split at e
  · cases e
  split at e
  · rename_i ds' ρ' e'
    obtain ⟨bx, e1, e2⟩ := Option.map_eq_some_iff.mp e
    cases e2
    rw [e']
    intro p ws σ' H' Z' ok' zp bp ap hp r
    obtain ⟨vb', z1, z2, z3⟩ := box0_ok ok' e1
    have hpn : H p = none := by
      by_cases hpb : p = b
      · subst hpb
        -- p is the box itself: it is owned in slot 0, p is apart from it
        exfalso
        unfold box0 at e1
        split at e1
        · rename_i b' e0
          exact ap 0 _ e0 (ok'.fix p rfl _ e0)
        · cases e1
      · rw [but_ne hpb] at bp; exact bp
    exact q p ws H' Z' vb' (but_bh ok'.bh) ⟨ok'.zz, ok'.zh, but_nb z1 ok'.nb⟩ z1 z2 z3 hpn zp hp r
  · cases e
/-! ### calls -/
def flatD : D → Bool
  | .none => true
  | .bool _ => true
  | .int _ => true
  | .str _ => true
  | _ => false
theorem flat_rp {v : V} {d : D} {Z Z' : Hp} (h : flatD d = true) (r : Rp K Z v d) : Rp K Z' v d := by
  cases r with
  | non => exact .non
  | bl b => exact .bl b
  | int i => exact .int i
  | str x => exact .str x
  | lst _ _ => cases h
  | scr _ _ => cases h
  | tup _ _ => cases h
  | exc _ _ _ _ => cases h
/-- a call, its arguments data -/
def eCall {α : Type} (F : List D → Option α) (ga : GA) (ρ : Rho) : R α := (ga ρ).bind fun os ρ1 => match valA os with
  | some ds => R.lift (F ds) ρ1
  | none => .bad
theorem call_ok {α : Type} {F : List D → Option α} {ga : GA} {ρ ρ' : Rho} {z : α} (e : eCall F ga ρ = .ok z ρ') : ∃ os ds, ga ρ = .ok os ρ' ∧ valA os = some ds ∧ F ds = some z := by
  obtain ⟨x, ρ1, e1, e2⟩ := R.bind_ok e
  split at e2
  · rename_i d h1
    obtain ⟨e5, rfl⟩ := R.lift_ok e2
    exact ⟨x, d, e1, h1, e5⟩
  · cases e2
/-- behind a call that keeps all -/
theorem Ok.grow {Z' H' : Hp} (ok : Ok K b0 B Z0 Z H σ ρ) (hh : Same H H') (g : Grow H Z Z' H') : Ok K b0 B Z0 Z' H' σ ρ := by
  refine ⟨ok.len, ok.bh.trans hh, g.2.1, ok.zz.trans g.1, fun p o e => ?_, fun i d e => ?_, fun i ds e => ?_, ok.fix, ok.sep⟩
  · rcases g.2.2 p o e with z | z
    · exact ok.nb p o z
    · exact .inr (ok.bh.free z)
  · obtain ⟨v, e1, e2⟩ := ok.sh i d e
    exact ⟨v, e1, e2.mono g.1⟩
  · obtain ⟨q, vs, e1, e2, e3, e4, e5⟩ := ok.ow i ds e
    refine ⟨q, vs, e1, ?_, e3, hh _ _ e4, e5.mono g.1⟩
    cases z : Z' q with
    | none => rfl
    | some o =>
      rcases g.2.2 q o z with y | y
      · rw [e2] at y; cases y
      · rw [e4] at y; cases y
theorem OpA.length {Z : Hp} {σ : L2.St} : ∀ {vs : List V} {os : List Op}, OpA K Z σ vs os → vs.length = os.length
  | _, _, .nil => rfl
  | _, _, .cons _ r => by rw [List.length_cons, List.length_cons, OpA.length r]
theorem callP_len {np n : Nat} {g : GS} : ∀ ds d, callP np n g ds = some d → ds.length = np := fun ds d h => by
  unfold callP at h
  split at h
  · cases h
  · omega
theorem callF_len {np n : Nat} {g : GS} : ∀ ds d, callF np n g ds = some d → ds.length = np := fun ds d h => by
  unfold callF at h
  split at h
  · cases h
  · omega
theorem callB_len {np n : Nat} {g : GS} : ∀ b ds d, callB np n g b ds = some d → ds.length + 1 = np := fun b ds d h => by
  unfold callB at h
  split at h
  · cases h
  · omega
theorem callBF_len {np n : Nat} {g : GS} : ∀ b ds d, callBF np n g b ds = some d → ds.length + 1 = np := fun b ds d h => by
  unfold callBF at h
  split at h
  · cases h
  · omega
theorem de_call {np : Nat} {F : List D → Option D} {ga : GA} {E : XK} (hF : ∀ ds d, F ds = some d → ds.length = np) (ha : DA K tas ga) : DE K (tCall (spP K np F) [] E tas) (eCall F ga) := fun b0 B Z0 Z H σ ρ d ρ' Q ok e q => by
  obtain ⟨os, ds, e1, e2, e3⟩ := call_ok e
  refine ha b0 B Z0 Z H σ ρ os ρ' _ ok e1 fun vs H1 Z1 ok1 s1 r1 => ?_
  have rA := valA_ok r1 e2
  refine ⟨by rw [List.append_nil, rA.length]; exact hF _ _ e3, Z1, ds, d, ok1.zh, by rw [List.append_nil]; exact rA, e3, fun v H' Z' hh g r => ?_⟩
  exact q v H' Z' (ok1.grow hh g) (s1.trans g.1) r
theorem df_call {np : Nat} {F : List D → Option (List D)} {ga : GA} {E : XK} (hF : ∀ ds d, F ds = some d → ds.length = np) (ha : DA K tas ga) : DF K (tCall (spF K np F) [] E tas) (eCall F ga) := fun b0 B Z0 Z H σ ρ d ρ' Q ok e q => by
  obtain ⟨os, ds, e1, e2, e3⟩ := call_ok e
  refine ha b0 B Z0 Z H σ ρ os ρ' _ ok e1 fun vs H1 Z1 ok1 s1 r1 => ?_
  have rA := valA_ok r1 e2
  refine ⟨by rw [List.append_nil, rA.length]; exact hF _ _ e3, Z1, ds, d, ok1.zh, by rw [List.append_nil]; exact rA, e3, fun p ws H' Z' hh g hp zp hp' r => ?_⟩
  refine q p ws H' Z' (ok1.grow hh g) (s1.trans g.1) zp (ok1.bh.free hp) (fun i es hi hq => ?_) hp' r
  obtain ⟨q', vs', f1, _, _, f4, _⟩ := ok1.ow i es hi
  rw [f1] at hq
  cases hq
  rw [hp] at f4
  cases f4
/-- a call whose answer is flat; its arguments may be lists of one's own -/
def eCallO (F : List D → Option D) (ga : GA) (ρ : Rho) : R D := (ga ρ).bind fun os ρ1 => match resA os ρ1 with
  | some ds => (match F ds with
    | some d => if flatD d then .ok d ρ1 else .bad
    | none => .bad)
  | none => .bad
theorem bdA_rp {vs : List V} {ds : List D} (s : Same Z H) (h : BdA K Z H vs ds) : RpA K H vs ds := by
  induction h with
  | nil => exact .nil
  | cons h _ ih =>
    refine .cons ?_ ih
    cases h with
    | non => exact .non
    | bl b => exact .bl b
    | int i => exact .int i
    | str x => exact .str x
    | lst h r => exact .lst h (r.mono s)
    | scr h r => exact .scr h (r.mono s)
    | tup h r => exact .tup (same_t s h) (r.mono s)
    | exc h1 h2 h3 r => exact .exc (s _ _ h1) (s _ _ h2) h3 (r.mono s)
theorem Ok.later {H' : Hp} (ok : Ok K b0 B Z0 Z H σ ρ) (hh : Same H H') : Ok K b0 B Z0 Z H' σ ρ :=
  ok.grow hh ⟨Same.refl Z, ok.zh.trans hh, fun _ _ e => .inl e⟩
theorem BdA.length {Z H : Hp} : ∀ {vs : List V} {ds : List D}, BdA K Z H vs ds → vs.length = ds.length
  | _, _, .nil => rfl
  | _, _, .cons _ r => by rw [List.length_cons, List.length_cons, BdA.length r]
theorem de_callO {np : Nat} {F : List D → Option D} {ga : GA} {E : XK} (hF : ∀ ds d, F ds = some d → ds.length = np) (ha : DA K tas ga) : DE K (tCall (spP K np F) [] E tas) (eCallO F ga) := fun b0 B Z0 Z H σ ρ d ρ' Q ok e q => by
  obtain ⟨os, ρ1, e1, e2⟩ := R.bind_ok e
  split at e2
  · rename_i ds e3
    split at e2
    · rename_i d' e4
      split at e2
      · rename_i hf
        cases e2
        refine ha b0 B Z0 Z H σ ρ os ρ' _ ok e1 fun vs H1 Z1 ok1 s1 r1 => ?_
        have rA := ok1.bdA r1 e3
        refine ⟨by rw [List.append_nil, rA.length]; exact hF _ _ e4, H1, ds, d, Same.refl H1, by rw [List.append_nil]; exact bdA_rp ok1.zh rA, e4, fun v H' Z' hh g r => ?_⟩
        exact q v H' Z1 (ok1.later hh) s1 (flat_rp hf r)
      · cases e2
    · cases e2
  · cases e2
/-- a call of a def that may change the list in slot i -/
def eCallB (F : List D → List D → Option (D × List D)) (i : Nat) (ga : GA) (ρ : Rho) : R D := if isOw ρ[i]? then (ga ρ).bind fun os ρ1 => match ρ1[i]?, valA os with
    | some (.ow box), some ds => (match F box ds with
      | some (d, box') => .ok d (ρ1.set i (.ow box'))
      | none => .bad)
    | _, _ => .bad
  else .bad
theorem Ok.growB {Z' H' : Hp} {b : Addr} {vb' : List V} {i : Nat} {box box' : List D} (ok : Ok K b0 B Z0 Z H σ ρ) (hi : ρ[i]? = some (.ow box)) (hb : σ[i]? = some (some (.ref b))) (hh : ∀ p o, p ≠ b → H p = some o → H' p = some o) (g : Grow H Z Z' H')
    (zb : Z' b = none) (hb' : H' b = some (.lst vb')) (r : RpA K Z' vb' box') : Ok K b0 B Z0 Z' H' σ (ρ.set i (.ow box')) := by
  obtain ⟨b1, vb, f1, f2, f3, f4, f5⟩ := ok.ow i box hi
  rw [hb] at f1
  cases f1
  have hl : i < ρ.length := by
    by_cases z : i < ρ.length
    · exact z
    · rw [List.getElem?_eq_none (by simpa using z)] at hi; cases hi
  refine ⟨by rw [List.length_set]; exact ok.len, fun p o e => hh p o (ne_of_none e f3) (ok.bh p o e), g.2.1, ok.zz.trans g.1, fun p o e => ?_, fun j d e => ?_, fun j ds e => ?_, fun a ha ds e => ?_, fun j k q as es e1 e2 e3 e4 => ?_⟩
  · rcases g.2.2 p o e with z | z
    · exact ok.nb p o z
    · exact .inr (ok.bh.free z)
  · rcases set_get e with ⟨_, z⟩ | ⟨n, e⟩
    · cases z
    · obtain ⟨v, e1, e2⟩ := ok.sh j d e
      exact ⟨v, e1, e2.mono g.1⟩
  · rcases set_get e with ⟨rfl, z⟩ | ⟨n, e⟩
    · cases z
      exact ⟨b, vb', hb, zb, f3, hb', r⟩
    · obtain ⟨q, vs, e1, e2, e3, e4, e5⟩ := ok.ow j ds e
      have nq : q ≠ b := fun z => n (ok.sep i j b box ds hi e hb (by rw [e1, z]))
      refine ⟨q, vs, e1, ?_, e3, hh _ _ nq e4, e5.mono g.1⟩
      cases z : Z' q with
      | none => rfl
      | some o =>
        rcases g.2.2 q o z with y | y
        · rw [e2] at y; cases y
        · rw [e4] at y; cases y
  · rcases set_get e with ⟨rfl, z⟩ | ⟨n, e⟩
    · exact ok.fix a ha box hi
    · exact ok.fix a ha ds e
  · have G : ∀ {j : Nat} {as : List D}, (ρ.set i (.ow box'))[j]? = some (.ow as) → ∃ as', ρ[j]? = some (.ow as') := fun {j as} e => by
      rcases set_get e with ⟨rfl, z⟩ | ⟨n, e⟩
      · exact ⟨box, hi⟩
      · exact ⟨as, e⟩
    obtain ⟨_, y1⟩ := G e1
    obtain ⟨_, y2⟩ := G e2
    exact ok.sep j k q _ _ y1 y2 e3 e4
theorem de_callB {np : Nat} {F : List D → List D → Option (D × List D)} {i : Nat} {ga : GA} {E : XK} (hF0 : ∀ b ds d, F b ds = some d → ds.length + 1 = np) (ha : DA K tas ga) : DE K (tCall (spB K np F) [] E (tCons (tVar i) tas)) (eCallB F i ga) := fun b0 B Z0 Z H σ ρ d ρ' Q ok e q => by
  unfold eCallB at e
  split at e
  · rename_i h0
    obtain ⟨b, vb0, e0, hb0⟩ := ok.isOw h0
    obtain ⟨os, ρ1, e1, e⟩ := R.bind_ok e
    split at e
    · rename_i box ds hi hv
      split at e
      · rename_i d' box' hF
        cases e
        refine ⟨.ref b, e0, ?_⟩
        refine ha b0 B Z0 Z H σ ρ os ρ1 _ ok e1 fun vs H1 Z1 ok1 s1 r1 => ?_
        obtain ⟨b1, vb, f1, f2, f3, f4, f5⟩ := ok1.ow i box hi
        rw [e0] at f1
        cases f1
        have rA := valA_ok r1 hv
        refine ⟨by rw [List.append_nil, List.length_cons, rA.length]; exact hF0 _ _ _ hF, Z1, b, vb, box, vs, ds, d, box', by rw [List.append_nil], ok1.zh, f2, f4, f5, rA, hF, fun v H' Z' vb' hh g zb hb' rb r => ?_⟩
        exact q v H' Z' (ok1.growB hi e0 hh g zb hb' rb) (s1.trans g.1) r
      · cases e
    · cases e
  · cases e
end
end DL

namespace DL
open PySem L2
/-! ### operators on data -/
def sz (n : Nat) : Bool := decide (n ≤ sizeLine)
def addD : D → D → Option D
  | .int i, .int j => some (.int (i + j))
  | .str x, .str y => if x.length + y.length ≤ sizeLine then some (.str (x ++ y)) else none
  | .tuple xs, .tuple ys => if xs.length + ys.length ≤ sizeLine then some (.tuple (xs ++ ys)) else none
  | _, _ => none
def addL : D → D → Option (List D)
  | .list xs, .list ys => if xs.length + ys.length ≤ sizeLine then some (xs ++ ys) else none
  | _, _ => none
def subD : D → D → Option D
  | .int i, .int j => some (.int (i - j))
  | _, _ => none
instance (i j : Int) : Decidable (CMul i j) := inferInstanceAs (Decidable (_ ∨ _))
instance (i j : Int) : Decidable (CMulW i j) := inferInstanceAs (Decidable (_ < _))
/-- a small factor, or together less than a million bits -/
def CMulU (i j : Int) : Prop := CMul i j ∨ CMulW i j
instance (i j : Int) : Decidable (CMulU i j) := inferInstanceAs (Decidable (_ ∨ _))
theorem CMulU.ok {i j : Int} (h : CMulU i j) : _root_.PySem.IntMulOk i j := h.elim CMul.ok CMulW.ok
def mulD : D → D → Option D
  | .int i, .int j => if CMulU i j then some (.int (i * j)) else none
  | _, _ => none
def repL : D → D → Option (List D)
  | .list xs, .int k => if -(2 ^ 63) ≤ k ∧ k < 2 ^ 63 ∧ xs.length * k.toNat ≤ sizeLine then some (List.replicate k.toNat xs).flatten else none
  | _, _ => none
def fdivD : D → D → Option D
  | .int i, .int j => if 0 < j ∧ j.natAbs.log2 < 9000 then some (.int (i / j)) else none
  | _, _ => none
def modD : D → D → Option D
  | .int i, .int j => if 0 < j then some (.int (i % j)) else none
  | _, _ => none
def powD : D → D → Option D
  | .int i, .int j => if 0 ≤ j ∧ j ≤ 1000000 ∧ i.natAbs < 2 ^ 64 then some (.int (i ^ j.toNat)) else none
  | _, _ => none
def eqD (d e : D) : Option D := if SeqAt.shaped d = true ∧ SeqAt.shaped e = true then some (.bool (PyData.eqv d e)) else none
def neD (d e : D) : Option D := if SeqAt.shaped d = true ∧ SeqAt.shaped e = true then some (.bool (!PyData.eqv d e)) else none
def ltD : D → D → Option D
  | .int i, .int j => some (.bool (decide (i < j)))
  | _, _ => none
def leD : D → D → Option D
  | .int i, .int j => some (.bool (decide (i ≤ j)))
  | _, _ => none
def gtD : D → D → Option D
  | .int i, .int j => some (.bool (decide (j < i)))
  | _, _ => none
def geD : D → D → Option D
  | .int i, .int j => some (.bool (decide (j ≤ i)))
  | _, _ => none
def isNoneD : D → Bool
  | .none => true
  | _ => false
def isD : D → D → Option D
  | d, .none => some (.bool (isNoneD d))
  | _, _ => none
def isNotD : D → D → Option D
  | d, .none => some (.bool (!isNoneD d))
  | _, _ => none
def isBD : D → D → Option D
  | .bool a, .bool b => some (.bool (decide (a = b)))
  | _, _ => none
def isNotBD : D → D → Option D
  | .bool a, .bool b => some (.bool (!decide (a = b)))
  | _, _ => none
def negD : D → Option D
  | .int i => some (.int (-i))
  | _ => none
section
variable {X : Cx} {K : PySem.W.Frag}
theorem opr_or {f : Value → Value → Sem Value} {r r' : R2} (h : OpR X f r) (h' : OpR X f r') : OpR X f (fun x y H Q => r x y H Q ∨ r' x y H Q) := fun pins s σ H x y v u Q I rx ry q => by
  rcases q with q | q
  · exact h pins s σ H x y v u Q I rx ry q
  · exact h' pins s σ H x y v u Q I rx ry q
theorem sn_or1 {r r' : R2} {f : D → D → Option D} (h : Sn2 K r f) : Sn2 K (fun x y H Q => r x y H Q ∨ r' x y H Q) f := fun b0 B Z0 Z H σ ρ x y a b c Q ok ha hb e q => .inl (h b0 B Z0 Z H σ ρ x y a b c Q ok ha hb e q)
theorem sn2_mono {r r' : R2} {f : D → D → Option D} (h : Sn2 K r f) (m : ∀ x y H Q, r x y H Q → r' x y H Q) : Sn2 K r' f := fun b0 B Z0 Z H σ ρ x y a b c Q ok ha hb e q => m _ _ _ _ (h b0 B Z0 Z H σ ρ x y a b c Q ok ha hb e q)
/-- a rule on two ints -/
theorem sn_i0 {g : Int → Int → V} {f : D → D → Option D} (hf : ∀ a b c, f a b = some c → ∃ i j, a = .int i ∧ b = .int j ∧ ∀ Z, Rp K Z (g i j) c) : Sn2 K (rI0 g) f := fun b0 B Z0 Z H σ ρ x y a b c Q ok ha hb e q => by
  obtain ⟨i, j, rfl, rfl, r⟩ := hf a b c e
  cases ha
  cases hb
  exact ⟨i, j, rfl, rfl, q _ H Z ok (Same.refl Z) (r Z)⟩
theorem sn_iC {C : Int → Int → Prop} {g : Int → Int → V} {f : D → D → Option D} (hf : ∀ a b c, f a b = some c → ∃ i j, a = .int i ∧ b = .int j ∧ C i j ∧ ∀ Z, Rp K Z (g i j) c) : Sn2 K (rI C g) f := fun b0 B Z0 Z H σ ρ x y a b c Q ok ha hb e q => by
  obtain ⟨i, j, rfl, rfl, hc, r⟩ := hf a b c e
  cases ha
  cases hb
  exact ⟨i, j, rfl, rfl, hc, q _ H Z ok (Same.refl Z) (r Z)⟩
theorem sn_sub : Sn2 K (rI0 fun i j => .int (i - j)) subD := sn_i0 fun a b c e => by
  unfold subD at e; split at e <;> cases e; exact ⟨_, _, rfl, rfl, fun _ => .int _⟩
theorem sn_mulI : Sn2 K (rI CMulU fun i j => .int (i * j)) mulD := sn_iC fun a b c e => by
  unfold mulD at e
  split at e
  · split at e
    · cases e; exact ⟨_, _, rfl, rfl, by assumption, fun _ => .int _⟩
    · cases e
  · cases e
theorem sn_fdiv : Sn2 K (rI CDivW fun i j => .int (i / j)) fdivD := sn_iC fun a b c e => by
  unfold fdivD at e
  split at e
  · split at e
    · cases e; exact ⟨_, _, rfl, rfl, by assumption, fun _ => .int _⟩
    · cases e
  · cases e
theorem sn_mod : Sn2 K (rI (fun _ j => 0 < j) fun i j => .int (i % j)) modD := sn_iC fun a b c e => by
  unfold modD at e
  split at e
  · split at e
    · cases e; exact ⟨_, _, rfl, rfl, by assumption, fun _ => .int _⟩
    · cases e
  · cases e
theorem sn_pow : Sn2 K (rI CPow fun i j => .int (i ^ j.toNat)) powD := sn_iC fun a b c e => by
  unfold powD at e
  split at e
  · split at e
    · cases e; exact ⟨_, _, rfl, rfl, by assumption, fun _ => .int _⟩
    · cases e
  · cases e
theorem sn_lt : Sn2 K (rI0 fun i j => .bl (decide (i < j))) ltD := sn_i0 fun a b c e => by
  unfold ltD at e; split at e <;> cases e; exact ⟨_, _, rfl, rfl, fun _ => .bl _⟩
theorem sn_le : Sn2 K (rI0 fun i j => .bl (decide (i ≤ j))) leD := sn_i0 fun a b c e => by
  unfold leD at e; split at e <;> cases e; exact ⟨_, _, rfl, rfl, fun _ => .bl _⟩
theorem sn_gt : Sn2 K (rI0 fun i j => .bl (decide (j < i))) gtD := sn_i0 fun a b c e => by
  unfold gtD at e; split at e <;> cases e; exact ⟨_, _, rfl, rfl, fun _ => .bl _⟩
theorem sn_ge : Sn2 K (rI0 fun i j => .bl (decide (j ≤ i))) geD := sn_i0 fun a b c e => by
  unfold geD at e; split at e <;> cases e; exact ⟨_, _, rfl, rfl, fun _ => .bl _⟩
/-! + : ints, texts, tuples; lists -/
def rAddI : R2 := rI0 fun i j => .int (i + j)
def rAddS : R2 := fun x y H Q => ∃ i j, x = .str i ∧ y = .str j ∧ i.length + j.length ≤ sizeLine ∧ Q (.str (i ++ j)) H
def rAddU (K : PySem.W.Frag) : R2 := fun x y H Q => rAddI x y H Q ∨ rAddS x y H Q ∨ rCatA K x y H Q ∨ rCat x y H Q
theorem op_addU : OpR X (binaryOp .Add) (rAddU X.K) := opr_or op_add (opr_or op_add_str (opr_or op_catA op_cat))
theorem sn_add : Sn2 K (rAddU K) addD := fun b0 B Z0 Z H σ ρ x y a b c Q ok ha hb e q => by
  unfold addD at e
  split at e
  · cases e; cases ha; cases hb
    exact .inl ⟨_, _, rfl, rfl, q _ H Z ok (Same.refl Z) (.int _)⟩
  · split at e
    · cases e; cases ha; cases hb
      exact .inr (.inl ⟨_, _, rfl, rfl, by assumption, q _ H Z ok (Same.refl Z) (.str _)⟩)
    · cases e
  · split at e
    · rename_i hl
      cases e
      cases ha with
      | tup h1 r1 =>
      cases hb with
      | tup h2 r2 =>
      refine .inr (.inr (.inl ⟨_, _, _, _, rfl, rfl, same_t ok.zh h1, same_t ok.zh h2, by rw [r1.length, r2.length]; exact hl, fun z => ?_, fun _ z => ?_, fun _ _ p hp => ?_⟩))
      · subst z
        cases r1
        exact q _ H Z ok (Same.refl Z) (.tup h2 r2)
      · subst z
        cases r2
        rw [List.append_nil] at q
        exact q _ H Z ok (Same.refl Z) (.tup h1 r1)
      · obtain ⟨ok2, s2⟩ := ok.new (o := .tup _) hp
        exact q _ _ _ ok2 s2 (.tup (.inl (.inl upd_same)) ((r1.append r2).mono s2))
    · cases e
  · cases e
theorem sn_addL : Sn2F K (rAddU K) addL := fun b0 B Z0 Z H σ ρ x y a b c Q ok ha hb e q => by
  unfold addL at e
  split at e
  · split at e
    · rename_i hl
      cases e
      cases ha with
      | lst h1 r1 =>
      cases hb with
      | lst h2 r2 =>
      refine .inr (.inr (.inr ⟨_, _, _, _, rfl, rfl, h1, h2, by rw [r1.length, r2.length]; exact hl, fun p hp => ?_⟩))
      obtain ⟨ok2, zp, bp, ap⟩ := ok.fresh (o := .lst _) hp
      exact q p _ _ ok2 zp bp ap upd_same (r1.append r2)
    · cases e
  · cases e
/-! * : ints; a list times an int -/
theorem op_mulC : OpR X (binaryOp .Mult) (rI CMulU fun i j => .int (i * j)) := opI fun _ _ _ _ _ _ _ hc q => PyProof.Rows.mul_int q hc.ok
def rMulU : R2 := fun x y H Q => rI CMulU (fun i j => .int (i * j)) x y H Q ∨ rRep x y H Q
theorem op_mulU : OpR X (binaryOp .Mult) rMulU := opr_or op_mulC op_rep
theorem sn_mul : Sn2 K rMulU mulD := sn2_mono sn_mulI fun _ _ _ _ h => .inl h
theorem flat_rep {vs : List V} {ds : List D} {Z : Hp} (r : RpA K Z vs ds) : ∀ n : Nat, RpA K Z (List.replicate n vs).flatten (List.replicate n ds).flatten
  | 0 => .nil
  | n + 1 => by
    rw [List.replicate_succ, List.replicate_succ, List.flatten_cons, List.flatten_cons]
    exact r.append (flat_rep r n)
theorem sn_repL : Sn2F K rMulU repL := fun b0 B Z0 Z H σ ρ x y a b c Q ok ha hb e q => by
  unfold repL at e
  split at e
  · split at e
    · rename_i hl
      cases e
      cases hb
      cases ha with
      | lst h1 r1 =>
      refine .inr ⟨_, _, _, rfl, rfl, h1, hl.1, hl.2.1, by rw [r1.length]; exact hl.2.2, fun p hp => ?_⟩
      obtain ⟨ok2, zp, bp, ap⟩ := ok.fresh (o := .lst _) hp
      exact q p _ _ ok2 zp bp ap upd_same (flat_rep r1 _)
    · cases e
  · cases e
/-! ==, != -/
mutual
theorem noD_of : ∀ d : D, d.canLay0 = true → noD d = true
  | .none, _ => by simp [noD]
  | .bool _, _ => by simp [noD]
  | .int _, _ => by simp [noD]
  | .str _, _ => by simp [noD]
  | .list xs, h => by
    simp only [noD]
    exact noDs_of xs (by simpa [PyData.canLay0] using h)
  | .tuple xs, h => by
    simp only [noD]
    exact noDs_of xs (by simpa [PyData.canLay0] using h)
  | .dict _, h => by simp [PyData.canLay0] at h
theorem noDs_of : ∀ xs : List D, PyData.canLayAll0 xs = true → noDs xs = true
  | [], _ => by simp [noDs]
  | x :: xs, h => by
    have h' : x.canLay0 = true ∧ PyData.canLayAll0 xs = true := by simpa [PyData.canLayAll0] using h
    simp only [noDs, noD_of x h'.1, noDs_of xs h'.2, Bool.and_self]
end
theorem shaped_noD {d : D} (h : SeqAt.shaped d = true) : noD d = true := by
  unfold SeqAt.shaped at h
  rw [Bool.and_eq_true] at h
  exact noD_of d h.1
theorem bd_rp {Z H : Hp} {v : V} {d : D} (s : Same Z H) (h : Bd K Z H v d) : Rp K H v d := by
  cases h with
  | non => exact .non
  | bl b => exact .bl b
  | int i => exact .int i
  | str x => exact .str x
  | lst h r => exact .lst h (r.mono s)
  | scr h r => exact .scr h (r.mono s)
  | tup h r => exact .tup (same_t s h) (r.mono s)
  | exc h1 h2 h3 r => exact .exc (s _ _ h1) (s _ _ h2) h3 (r.mono s)
theorem sn_eq : Sn2 K (rEqD K) eqD := fun b0 B Z0 Z H σ ρ x y a b c Q ok ha hb e q => by
  unfold eqD at e
  split at e
  · rename_i h
    cases e
    exact ⟨a, b, (bd_rp ok.zh ha).dp (shaped_noD h.1), (bd_rp ok.zh hb).dp (shaped_noD h.2), h.1, h.2, q _ H Z ok (Same.refl Z) (.bl _)⟩
  · cases e
theorem sn_ne : Sn2 K (rNeD K) neD := fun b0 B Z0 Z H σ ρ x y a b c Q ok ha hb e q => by
  unfold neD at e
  split at e
  · rename_i h
    cases e
    exact ⟨a, b, (bd_rp ok.zh ha).dp (shaped_noD h.1), (bd_rp ok.zh hb).dp (shaped_noD h.2), h.1, h.2, q _ H Z ok (Same.refl Z) (.bl _)⟩
  · cases e
/-! is -/
theorem non_iff {Z H : Hp} {v : V} {d : D} (h : Bd K Z H v d) : decide (v = V.non) = isNoneD d := by
  cases h <;> rfl
def rIsU : R2 := fun x y H Q => (y = .non ∧ Q (.bl (decide (x = .non))) H)
def rIsNotU : R2 := fun x y H Q => (y = .non ∧ Q (.bl (!decide (x = .non))) H)
theorem op_isU : OpR X (compareOp .Is) rIsU := op_isN
theorem op_isNotU : OpR X (compareOp .IsNot) rIsNotU := op_notN
theorem sn_is : Sn2 K rIsU isD := fun b0 B Z0 Z H σ ρ x y a b c Q ok ha hb e q => by
  unfold isD at e
  split at e
  · cases e; cases hb
    exact ⟨rfl, q _ H Z ok (Same.refl Z) (by rw [non_iff ha]; exact .bl _)⟩
  · cases e
theorem sn_isNot : Sn2 K rIsNotU isNotD := fun b0 B Z0 Z H σ ρ x y a b c Q ok ha hb e q => by
  unfold isNotD at e
  split at e
  · cases e; cases hb
    exact ⟨rfl, q _ H Z ok (Same.refl Z) (by rw [non_iff ha]; exact .bl _)⟩
  · cases e
theorem sn_isB : Sn2 K rIsB isBD := fun b0 B Z0 Z H σ ρ x y a b c Q ok ha hb e q => by
  unfold isBD at e
  split at e
  · cases e; cases ha; cases hb
    exact ⟨_, _, rfl, rfl, q _ H Z ok (Same.refl Z) (.bl _)⟩
  · cases e
theorem sn_isNotB : Sn2 K rNotB isNotBD := fun b0 B Z0 Z H σ ρ x y a b c Q ok ha hb e q => by
  unfold isNotBD at e
  split at e
  · cases e; cases ha; cases hb
    exact ⟨_, _, rfl, rfl, q _ H Z ok (Same.refl Z) (.bl _)⟩
  · cases e
theorem sn_neg : Sn1 K (rU fun i => .int (-i)) negD := fun b0 B Z0 Z H σ ρ x a c Q ok ha e q => by
  unfold negD at e
  split at e
  · cases e; cases ha
    exact ⟨_, rfl, q _ H Z ok (Same.refl Z) (.int _)⟩
  · cases e
/-! ### x[i] -/
def chr1 (c : Nat) : Str := ⟨#[c]⟩
def ixD : D → D → Option D
  | .list xs, .int i => atI xs i
  | .dict [(.list xs, .none)], .int i => atI xs i
  | .tuple xs, .int i => atI xs i
  | .str z, .int i => if z.length ≤ sizeLine then (atI z.cps.toList i).map fun c => .str ⟨#[c]⟩ else none
  | _, _ => none
theorem atI_rp {Z : Hp} {vs : List V} {ds : List D} {i : Int} {d : D} (r : RpA K Z vs ds) (h : atI ds i = some d) : ∃ v, atI vs i = some v ∧ Rp K Z v d := by
  unfold atI at h ⊢
  rw [r.length]
  obtain ⟨j, e1, e2⟩ := Option.bind_eq_some_iff.mp h
  obtain ⟨v, e3, rv⟩ := r.get e2
  exact ⟨v, by rw [e1]; exact e3, rv⟩
theorem sn_ix : Sn2 K (rIx K) ixD := fun b0 B Z0 Z H σ ρ x y a b c Q ok ha hb e q => by
  unfold ixD at e
  split at e
  · cases hb
    cases ha with
    | lst h r =>
    obtain ⟨v, e1, rv⟩ := atI_rp r e
    exact .inl ⟨_, _, _, v, rfl, rfl, .inl (.inl h), e1, q v H Z ok (Same.refl Z) rv⟩
  · cases hb
    cases ha with
    | scr h r =>
    obtain ⟨v, e1, rv⟩ := atI_rp r e
    exact .inl ⟨_, _, _, v, rfl, rfl, h, e1, q v H Z ok (Same.refl Z) rv⟩
  · cases hb
    cases ha with
    | tup h r =>
    obtain ⟨v, e1, rv⟩ := atI_rp r e
    exact .inr (.inl ⟨_, _, _, v, rfl, rfl, same_t ok.zh h, e1, q v H Z ok (Same.refl Z) rv⟩)
  · split at e
    · rename_i hz
      cases hb
      cases ha
      obtain ⟨c', e1, rfl⟩ := Option.map_eq_some_iff.mp e
      exact .inr (.inr ⟨_, _, c', rfl, rfl, hz, e1, q _ H Z ok (Same.refl Z) (.str _)⟩)
    · cases e
  · cases e
end
end DL

namespace DL
open PySem L2
section
variable {X : Cx} {K : PySem.W.Frag} {ta tb te tc : TE} {tas : TA}
/-! ### chains a < b < c -/
def eChain (f f' : D → D → Option D) (a b c : GO) (ρ : Rho) : R D := (a ρ).bind fun x ρ1 => (b ρ1).bind fun y ρ2 => match x.res ρ2, y.res ρ2 with
  | some d, some e => (match f d e with
    | some (.bool true) => (c ρ2).bind fun z ρ3 => (match y.res ρ3, z.res ρ3 with
      | some e', some k => R.lift (f' e' k) ρ3
      | _, _ => .bad)
    | some (.bool false) => .ok (.bool false) ρ2
    | _ => .bad)
  | _, _ => .bad
theorem de_chain {r r' : R2} {f f' : D → D → Option D} {ga gb gc : GO} (sn : Sn2 K r f) (sn' : Sn2 K r' f') (ha : DO K ta ga) (hb : DO K tb gb) (hc : DO K tc gc) : DE K (tChain r r' ta tb tc) (eChain f f' ga gb gc) := fun b0 B Z0 Z H σ ρ d ρ' Q ok e q => by
  obtain ⟨x, ρ1, e1, e⟩ := R.bind_ok e
  obtain ⟨y, ρ2, e2, e⟩ := R.bind_ok e
  refine ha b0 B Z0 Z H σ ρ x ρ1 _ ok e1 fun v H1 Z1 ok1 s1 r1 => ?_
  refine hb b0 B Z0 Z1 H1 σ ρ1 y ρ2 _ ok1 e2 fun u H2 Z2 ok2 s2 r2 => ?_
  split at e
  · rename_i d1 d2 h1 h2
    split at e
    · rename_i hf
      refine sn b0 B Z0 Z2 H2 σ ρ2 v u d1 d2 _ _ ok2 (ok2.bd (r1.mono s2) h1) (ok2.bd r2 h2) hf fun w H3 Z3 ok3 s3 r3 => ?_
      cases r3
      refine ⟨true, rfl, ?_⟩
      obtain ⟨z, ρ3, e3, e⟩ := R.bind_ok e
      refine hc b0 B Z0 Z3 H3 σ ρ2 z ρ3 _ ok3 e3 fun w4 H4 Z4 ok4 s4 r4 => ?_
      split at e
      · rename_i e' k h3 h4
        obtain ⟨e5, rfl⟩ := R.lift_ok e
        exact sn' b0 B Z0 Z4 H4 σ ρ3 u w4 e' k d Q ok4 (ok4.bd ((r2.mono s3).mono s4) h3) (ok4.bd r4 h4) e5 fun w5 H5 Z5 ok5 s5 r5 => q w5 H5 Z5 ok5 ((((s1.trans s2).trans s3).trans s4).trans s5) r5
      · cases e
    · rename_i hf
      cases e
      refine sn b0 B Z0 Z2 H2 σ _ v u d1 d2 _ _ ok2 (ok2.bd (r1.mono s2) h1) (ok2.bd r2 h2) hf fun w H3 Z3 ok3 s3 r3 => ?_
      cases r3
      exact ⟨false, rfl, q _ H3 Z3 ok3 ((s1.trans s2).trans s3) (.bl false)⟩
    · cases e
  · cases e
/-! ### slices -/
abbrev GP := Rho → R (Option Int)
def DP (K : PySem.W.Frag) (t : TO) (g : GP) : Prop := ∀ b0 B Z0 Z H σ ρ o ρ' (Q : Option Int → Hp → Prop), Ok K b0 B Z0 Z H σ ρ → g ρ = .ok o ρ' → (∀ H' Z', Ok K b0 B Z0 Z' H' σ ρ' → Same Z Z' → Q o H') → t σ H Q
def pNo (ρ : Rho) : R (Option Int) := .ok none ρ
def pSo (g : GE) (ρ : Rho) : R (Option Int) := (g ρ).bind fun d ρ1 => match d with
  | .int i => .ok (some i) ρ1
  | _ => .bad
theorem dp_no : DP K tNoPart pNo := fun b0 B Z0 Z H σ ρ o ρ' Q ok e q => by
  cases e
  exact q H Z ok (Same.refl Z)
theorem dp_so {g : GE} (h : DE K te g) : DP K (tPart te) (pSo g) := fun b0 B Z0 Z H σ ρ o ρ' Q ok e q => by
  obtain ⟨d, ρ1, e1, e⟩ := R.bind_ok e
  split at e
  · cases e
    refine h b0 B Z0 Z H σ ρ _ _ _ ok e1 fun v H1 Z1 ok1 s1 r1 => ?_
    cases r1
    exact ⟨_, rfl, q H1 Z1 ok1 s1⟩
  · cases e
def cutD {α : Type} (xs : List α) (lo hi : Option Int) : List α := (xs.drop (HT.sIx xs.length 0 lo)).take (HT.sIx xs.length xs.length hi - HT.sIx xs.length 0 lo)
theorem cut_rp {Z : Hp} {vs : List V} {ds : List D} {lo hi : Option Int} (r : RpA K Z vs ds) : RpA K Z (cutV vs lo hi) (cutD ds lo hi) := by
  unfold cutV cutD
  rw [r.length]
  exact (r.drop _).take _
def SnSl (K : PySem.W.Frag) (r : V → Option Int → Option Int → Hp → VK → Prop) (f : D → Option Int → Option Int → Option D) : Prop := ∀ b0 B Z0 Z H σ ρ x a lo hi c (Q : VK), Ok K b0 B Z0 Z H σ ρ → Bd K Z H x a → f a lo hi = some c → (∀ v H' Z', Ok K b0 B Z0 Z' H' σ ρ → Same Z Z' → Rp K Z' v c → Q v H') → r x lo hi H Q
def SnSlF (K : PySem.W.Frag) (r : V → Option Int → Option Int → Hp → VK → Prop) (f : D → Option Int → Option Int → Option (List D)) : Prop := ∀ b0 B Z0 Z H σ ρ x a lo hi c (Q : VK), Ok K b0 B Z0 Z H σ ρ → Bd K Z H x a → f a lo hi = some c →
  (∀ p vs H', Ok K b0 B Z0 Z H' σ ρ → Z p = none → B p = none → Apart σ ρ p → H' p = some (.lst vs) → RpA K Z vs c → Q (.ref p) H') → r x lo hi H Q
def rSlU (K : PySem.W.Frag) : V → Option Int → Option Int → Hp → VK → Prop := fun x lo hi H Q => rSlL K x lo hi H Q ∨ rSlA K x lo hi H Q
theorem sl_U : SlR X (rSlU X.K) := fun pins s σ H x v vl vu lo hi sl Q I rx hs pl pu h => by
  rcases h with h | h
  · exact sl_list pins s σ H x v vl vu lo hi sl Q I rx hs pl pu h
  · exact sl_tupA pins s σ H x v vl vu lo hi sl Q I rx hs pl pu h
def sliceL (d : D) (lo hi : Option Int) : Option (List D) := match d with
  | .list xs => some (cutD xs lo hi)
  | .dict [(.list xs, .none)] => some (cutD xs lo hi)
  | _ => none
def sliceT (d : D) (lo hi : Option Int) : Option D := match d with
  | .tuple xs => some (.tuple (cutD xs lo hi))
  | _ => none
theorem sn_sliceL : SnSlF K (rSlU K) sliceL := fun b0 B Z0 Z H σ ρ x a lo hi c Q ok ha e q => by
  unfold sliceL at e
  split at e
  · cases e
    cases ha with
    | lst h r =>
    refine .inl ⟨_, _, rfl, .inl (.inl h), fun p hp => ?_⟩
    obtain ⟨ok2, zp, bp, ap⟩ := ok.fresh (o := .lst _) hp
    exact q p _ _ ok2 zp bp ap upd_same (cut_rp r)
  · cases e
    cases ha with
    | scr h r =>
    refine .inl ⟨_, _, rfl, h, fun p hp => ?_⟩
    obtain ⟨ok2, zp, bp, ap⟩ := ok.fresh (o := .lst _) hp
    exact q p _ _ ok2 zp bp ap upd_same (cut_rp r)
  · cases e
theorem cut_all {α : Type} (xs : List α) {lo hi : Option Int} (h1 : HT.sIx xs.length 0 lo = 0) (h2 : HT.sIx xs.length xs.length hi = xs.length) : cutD xs lo hi = xs := by
  unfold cutD
  rw [h1, h2, List.drop_zero, Nat.sub_zero, List.take_length]
theorem sn_sliceT : SnSl K (rSlU K) sliceT := fun b0 B Z0 Z H σ ρ x a lo hi c Q ok ha e q => by
  unfold sliceT at e
  split at e
  · cases e
    cases ha with
    | tup h r =>
    refine .inr ⟨_, _, rfl, same_t ok.zh h, fun z => ?_, fun _ p hp => ?_⟩
    · have := r.length
      rw [this] at z
      rw [cut_all _ z.1 z.2] at q
      exact q _ H Z ok (Same.refl Z) (.tup h r)
    · obtain ⟨ok2, s2⟩ := ok.new (o := .tup _) hp
      exact q _ _ _ ok2 s2 (.tup (.inl (.inl upd_same)) ((cut_rp r).mono s2))
  · cases e
def eSl {α : Type} (f : D → Option Int → Option Int → Option α) (g : GO) (lo hi : GP) (ρ : Rho) : R α := (g ρ).bind fun x ρ1 => (lo ρ1).bind fun l ρ2 => (hi ρ2).bind fun u ρ3 => match x.res ρ3 with
  | some d => R.lift (f d l u) ρ3
  | none => .bad
theorem sl_ok {α : Type} {f : D → Option Int → Option Int → Option α} {g : GO} {lo hi : GP} {ρ ρ' : Rho} {z : α} (e : eSl f g lo hi ρ = .ok z ρ') : ∃ x ρ1 l ρ2 u d, g ρ = .ok x ρ1 ∧ lo ρ1 = .ok l ρ2 ∧ hi ρ2 = .ok u ρ' ∧ x.res ρ' = some d ∧ f d l u = some z := by
  obtain ⟨x, ρ1, e1, e⟩ := R.bind_ok e
  obtain ⟨l, ρ2, e2, e⟩ := R.bind_ok e
  obtain ⟨u, ρ3, e3, e⟩ := R.bind_ok e
  split at e
  · rename_i d h
    obtain ⟨e5, rfl⟩ := R.lift_ok e
    exact ⟨x, ρ1, l, ρ2, u, d, e1, e2, e3, h, e5⟩
  · cases e
theorem df_sl {r : V → Option Int → Option Int → Hp → VK → Prop} {f : D → Option Int → Option Int → Option (List D)} {g : GO} {lo hi : GP} {tl th : TO} (sn : SnSlF K r f) (hg : DO K te g) (hl : DP K tl lo) (hh : DP K th hi) : DF K (tSl r te tl th) (eSl f g lo hi) := fun b0 B Z0 Z H σ ρ d ρ' Q ok e q => by
  obtain ⟨x, ρ1, l, ρ2, u, d', e1, e2, e3, e4, e5⟩ := sl_ok e
  refine hg b0 B Z0 Z H σ ρ x ρ1 _ ok e1 fun v H1 Z1 ok1 s1 r1 => ?_
  refine hl b0 B Z0 Z1 H1 σ ρ1 l ρ2 _ ok1 e2 fun H2 Z2 ok2 s2 => ?_
  refine hh b0 B Z0 Z2 H2 σ ρ2 u ρ' _ ok2 e3 fun H3 Z3 ok3 s3 => ?_
  exact sn b0 B Z0 Z3 H3 σ ρ' v d' l u d Q ok3 (ok3.bd ((r1.mono s2).mono s3) e4) e5 fun p vs H4 ok4 zp bp ap hp r4 => q p vs H4 Z3 ok4 ((s1.trans s2).trans s3) zp bp ap hp r4
theorem de_sl {r : V → Option Int → Option Int → Hp → VK → Prop} {f : D → Option Int → Option Int → Option D} {g : GO} {lo hi : GP} {tl th : TO} (sn : SnSl K r f) (hg : DO K te g) (hl : DP K tl lo) (hh : DP K th hi) : DE K (tSl r te tl th) (eSl f g lo hi) := fun b0 B Z0 Z H σ ρ d ρ' Q ok e q => by
  obtain ⟨x, ρ1, l, ρ2, u, d', e1, e2, e3, e4, e5⟩ := sl_ok e
  refine hg b0 B Z0 Z H σ ρ x ρ1 _ ok e1 fun v H1 Z1 ok1 s1 r1 => ?_
  refine hl b0 B Z0 Z1 H1 σ ρ1 l ρ2 _ ok1 e2 fun H2 Z2 ok2 s2 => ?_
  refine hh b0 B Z0 Z2 H2 σ ρ2 u ρ' _ ok2 e3 fun H3 Z3 ok3 s3 => ?_
  exact sn b0 B Z0 Z3 H3 σ ρ' v d' l u d Q ok3 (ok3.bd ((r1.mono s2).mono s3) e4) e5 fun w H4 Z4 ok4 s4 r4 => q w H4 Z4 ok4 (((s1.trans s2).trans s3).trans s4) r4
/-! ### built-ins -/
theorem callr_or {f : Value} {r r' : List V → Hp → VK → Prop} (h : CallR X f r) (h' : CallR X f r') : CallR X f (fun xs H Q => r xs H Q ∨ r' xs H Q) := fun pins s σ H xs us Q I rx q => by
  rcases q with q | q
  · exact h pins s σ H xs us Q I rx q
  · exact h' pins s σ H xs us Q I rx q
def lenD : List D → Option D
  | [.list xs] => some (.int xs.length)
  | [.dict [(.list xs, .none)]] => some (.int xs.length)
  | [.tuple xs] => some (.int xs.length)
  | [.str z] => if z.length ≤ sizeLine then some (.int z.length) else none
  | _ => none
def rLen (K : PySem.W.Frag) : List V → Hp → VK → Prop := fun xs H Q => ∃ x n, xs = [x] ∧ LenV K x H n ∧ Q (.int n) H
theorem call_lenU : CallR X (.builtin "len") (rLen X.K) := call_len
theorem sn_len : SnA K (rLen K) lenD := fun b0 B Z0 Z H σ ρ xs as c Q ok ha e q => by
  unfold lenD at e
  split at e
  · cases e
    cases ha with
    | cons h h' =>
    cases h'
    cases h with
    | lst h r => exact ⟨_, _, rfl, .inl ⟨_, .inl (.inl h), rfl⟩, by rw [r.length]; exact q _ H Z ok (Same.refl Z) (.int _)⟩
  · cases e
    cases ha with
    | cons h h' =>
    cases h'
    cases h with
    | scr h r => exact ⟨_, _, rfl, .inl ⟨_, h, rfl⟩, by rw [r.length]; exact q _ H Z ok (Same.refl Z) (.int _)⟩
  · cases e
    cases ha with
    | cons h h' =>
    cases h'
    cases h with
    | tup h r => exact ⟨_, _, rfl, .inr ⟨_, same_t ok.zh h, rfl⟩, by rw [r.length]; exact q _ H Z ok (Same.refl Z) (.int _)⟩
  · split at e
    · rename_i hz
      cases e
      cases ha with
      | cons h h' =>
      cases h'
      cases h
      exact ⟨_, _, rfl, ⟨hz, rfl⟩, q _ H Z ok (Same.refl Z) (.int _)⟩
    · cases e
  · cases e
def absD : List D → Option D
  | [.int i] => some (.int (if i < 0 then -i else i))
  | _ => none
def rAbs : List V → Hp → VK → Prop := fun xs H Q => ∃ i, xs = [.int i] ∧ Q (.int (if i < 0 then -i else i)) H
theorem call_absU : CallR X (.builtin "abs") rAbs := call_abs
theorem sn_abs : SnA K rAbs absD := fun b0 B Z0 Z H σ ρ xs as c Q ok ha e q => by
  unfold absD at e
  split at e
  · cases e
    cases ha with
    | cons h h' =>
    cases h'; cases h
    exact ⟨_, rfl, q _ H Z ok (Same.refl Z) (.int _)⟩
  · cases e
def intD : List D → Option D
  | [.int i] => some (.int i)
  | [.bool k] => some (.int (if k then 1 else 0))
  | _ => none
def rInt1 : List V → Hp → VK → Prop := fun xs H Q => (∃ i, xs = [.int i] ∧ Q (.int i) H) ∨ ∃ k, xs = [.bl k] ∧ Q (.int (if k then 1 else 0)) H
theorem call_intU : CallR X (.type "int") rInt1 := call_int1
theorem sn_int : SnA K rInt1 intD := fun b0 B Z0 Z H σ ρ xs as c Q ok ha e q => by
  unfold intD at e
  split at e
  · cases e
    cases ha with
    | cons h h' =>
    cases h'; cases h
    exact .inl ⟨_, rfl, q _ H Z ok (Same.refl Z) (.int _)⟩
  · cases e
    cases ha with
    | cons h h' =>
    cases h'; cases h
    exact .inr ⟨_, rfl, q _ H Z ok (Same.refl Z) (.int _)⟩
  · cases e
def intsOf : List D → Option (List Int)
  | [] => some []
  | .int i :: ds => (intsOf ds).map (i :: ·)
  | _ :: _ => none
theorem intsOf_eq : ∀ {ds : List D} {ns : List Int}, intsOf ds = some ns → ds = ns.map PyData.int
  | [], ns, h => by cases h; rfl
  | .int i :: ds, ns, h => by
    unfold intsOf at h
    obtain ⟨ms, e, rfl⟩ := Option.map_eq_some_iff.mp h
    rw [intsOf_eq e]; rfl
theorem intsOf_map : ∀ (ns : List Int), intsOf (ns.map PyData.int) = some ns
  | [] => rfl
  | n :: r => by
    show (intsOf (r.map PyData.int)).map (n :: ·) = _
    rw [intsOf_map r]; rfl
def boolsOf : List D → Option (List Bool)
  | [] => some []
  | .bool i :: ds => (boolsOf ds).map (i :: ·)
  | _ :: _ => none
theorem boolsOf_eq : ∀ {ds : List D} {ns : List Bool}, boolsOf ds = some ns → ds = ns.map PyData.bool
  | [], ns, h => by cases h; rfl
  | .bool i :: ds, ns, h => by
    unfold boolsOf at h
    obtain ⟨ms, e, rfl⟩ := Option.map_eq_some_iff.mp h
    rw [boolsOf_eq e]; rfl
theorem boolsOf_map : ∀ (ns : List Bool), boolsOf (ns.map PyData.bool) = some ns
  | [] => rfl
  | n :: r => by
    show (boolsOf (r.map PyData.bool)).map (n :: ·) = _
    rw [boolsOf_map r]; rfl
def allD : List D → Option D
  | [.list ds] => (boolsOf ds).map fun bs => .bool (bs.all id)
  | _ => none
def anyD : List D → Option D
  | [.list ds] => (boolsOf ds).map fun bs => .bool (bs.any id)
  | _ => none
def sumD : List D → Option D
  | [.list ds] => (intsOf ds).map fun ns => .int ns.sum
  | _ => none
theorem sn_all : SnA K (rAll K) allD := fun b0 B Z0 Z H σ ρ xs as c Q ok ha e q => by
  unfold allD at e
  split at e
  · obtain ⟨bs, e1, rfl⟩ := Option.map_eq_some_iff.mp e
    cases boolsOf_eq e1
    cases ha with
    | cons h h' =>
    cases h'
    cases h with
    | lst h r =>
    cases r.of_bools
    exact ⟨_, bs, rfl, .inl (.inl h), q _ H Z ok (Same.refl Z) (.bl _)⟩
  · cases e
theorem sn_any : SnA K (rAny K) anyD := fun b0 B Z0 Z H σ ρ xs as c Q ok ha e q => by
  unfold anyD at e
  split at e
  · obtain ⟨bs, e1, rfl⟩ := Option.map_eq_some_iff.mp e
    cases boolsOf_eq e1
    cases ha with
    | cons h h' =>
    cases h'
    cases h with
    | lst h r =>
    cases r.of_bools
    exact ⟨_, bs, rfl, .inl (.inl h), q _ H Z ok (Same.refl Z) (.bl _)⟩
  · cases e
theorem sn_sum : SnA K (rSum K) sumD := fun b0 B Z0 Z H σ ρ xs as c Q ok ha e q => by
  unfold sumD at e
  split at e
  · obtain ⟨bs, e1, rfl⟩ := Option.map_eq_some_iff.mp e
    cases intsOf_eq e1
    cases ha with
    | cons h h' =>
    cases h'
    cases h with
    | lst h r =>
    cases r.of_ints
    exact ⟨_, bs, rfl, .inl (.inl h), q _ H Z ok (Same.refl Z) (.int _)⟩
  · cases e
def max2D : List D → Option D
  | [.int i, .int j] => some (.int (if j > i then j else i))
  | _ => none
def min2D : List D → Option D
  | [.int i, .int j] => some (.int (if j < i then j else i))
  | _ => none
def rMax2 : List V → Hp → VK → Prop := fun xs H Q => ∃ i j, xs = [.int i, .int j] ∧ Q (.int (if j > i then j else i)) H
def rMin2 : List V → Hp → VK → Prop := fun xs H Q => ∃ i j, xs = [.int i, .int j] ∧ Q (.int (if j < i then j else i)) H
theorem call_max2U (hc : X.calm = true) : CallR X (.builtin "max") rMax2 := call_max2 hc
theorem call_min2U (hc : X.calm = true) : CallR X (.builtin "min") rMin2 := call_min2 hc
theorem sn_max2 : SnA K rMax2 max2D := fun b0 B Z0 Z H σ ρ xs as c Q ok ha e q => by
  unfold max2D at e
  split at e
  · cases e
    cases ha with
    | cons h h' =>
    cases h' with
    | cons h2 h' =>
    cases h'; cases h; cases h2
    exact ⟨_, _, rfl, q _ H Z ok (Same.refl Z) (.int _)⟩
  · cases e
theorem sn_min2 : SnA K rMin2 min2D := fun b0 B Z0 Z H σ ρ xs as c Q ok ha e q => by
  unfold min2D at e
  split at e
  · cases e
    cases ha with
    | cons h h' =>
    cases h' with
    | cons h2 h' =>
    cases h'; cases h; cases h2
    exact ⟨_, _, rfl, q _ H Z ok (Same.refl Z) (.int _)⟩
  · cases e
def listD : List D → Option (List D)
  | [.list xs] => some xs
  | [.tuple xs] => some xs
  | [.dict [(.list xs, .none)]] => some xs
  | _ => none
def rList (K : PySem.W.Frag) : List V → Hp → VK → Prop := fun xs H Q => ∃ p ys, xs = [.ref p] ∧ (SqL K H p ys ∨ SqT K H p ys) ∧ ∀ l, H l = none → Q (.ref l) (upd H l (.lst ys))
theorem call_listU : CallR X (.type "list") (rList X.K) := call_list_of
theorem sn_list : SnAF K (rList K) listD := fun b0 B Z0 Z H σ ρ xs as c Q ok ha e q => by
  have fin : ∀ {a : Addr} {vs : List V} (p : Addr), (SqL K H a vs ∨ SqT K H a vs) → RpA K Z vs c → rList K [.ref a] H Q := fun {a vs} _ h r => by
    refine ⟨_, _, rfl, h, fun p hp => ?_⟩
    obtain ⟨ok2, zp, bp, ap⟩ := ok.fresh (o := .lst _) hp
    exact q p _ _ ok2 zp bp ap upd_same r
  unfold listD at e
  split at e
  · cases e
    cases ha with
    | cons h h' =>
    cases h'
    cases h with
    | lst h r => exact fin 0 (.inl (.inl (.inl h))) r
  · cases e
    cases ha with
    | cons h h' =>
    cases h'
    cases h with
    | tup h r => exact fin 0 (.inr (same_t ok.zh h)) r
  · cases e
    cases ha with
    | cons h h' =>
    cases h'
    cases h with
    | scr h r => exact fin 0 (.inl h) r
  · cases e
def tupleD : List D → Option D
  | [.list xs] => some (.tuple xs)
  | [.tuple xs] => some (.tuple xs)
  | [.dict [(.list xs, .none)]] => some (.tuple xs)
  | _ => none
def rTuple (K : PySem.W.Frag) : List V → Hp → VK → Prop := fun xs H Q => ∃ p ys, xs = [.ref p] ∧ ((SqL K H p ys ∧ ∀ l, H l = none → Q (.ref l) (upd H l (.tup ys))) ∨ (SqT K H p ys ∧ Q (.ref p) H))
theorem call_tupleU : CallR X (.type "tuple") (rTuple X.K) := call_tuple_of
theorem sn_tuple : SnA K (rTuple K) tupleD := fun b0 B Z0 Z H σ ρ xs as c Q ok ha e q => by
  have fin : ∀ {a : Addr} {vs : List V} {ds : List D} (p : Addr), c = .tuple ds → SqL K H a vs → RpA K Z vs ds → rTuple K [.ref a] H Q := fun {a vs ds} _ ec h r => by
    refine ⟨_, _, rfl, .inl ⟨h, fun p hp => ?_⟩⟩
    obtain ⟨ok2, s2⟩ := ok.new (o := .tup _) hp
    subst ec
    exact q _ _ _ ok2 s2 (.tup (.inl (.inl upd_same)) (r.mono s2))
  unfold tupleD at e
  split at e
  · cases e
    cases ha with
    | cons h h' =>
    cases h'
    cases h with
    | lst h r => exact fin 0 rfl (.inl (.inl h)) r
  · cases e
    cases ha with
    | cons h h' =>
    cases h'
    cases h with
    | tup h r => exact ⟨_, _, rfl, .inr ⟨same_t ok.zh h, q _ H Z ok (Same.refl Z) (.tup h r)⟩⟩
  · cases e
    cases ha with
    | cons h h' =>
    cases h'
    cases h with
    | scr h r => exact fin 0 rfl h r
  · cases e
end
end DL

namespace DL
open PySem L2
section
variable {X : Cx} {K : PySem.W.Frag} {ta tb te tc : TE} {tas : TA} {tg : Expr}
theorem pi_or {e : Expr} {w1 w2 : TI} (h1 : PI X tg e w1) (h2 : PI X tg e w2) : PI X tg e (fun σ H R => w1 σ H R ∨ w2 σ H R) := ⟨fun pins s σ H R I h => by
  rcases h with h | h
  · exact h1.run pins s σ H R I h
  · exact h2.run pins s σ H R I h⟩
def iSeqU (K : PySem.W.Frag) (te : TE) : TI := fun σ H R => iList K te σ H R ∨ iTup K te σ H R
theorem pi_seqU {e : Expr} (he : PE X e te) : PI X tg e (iSeqU X.K te) := pi_or (pi_list he) (pi_tup he)
def itemsD : D → Option (List D)
  | .list xs => some xs
  | .tuple xs => some xs
  | .dict [(.list xs, .none)] => some xs
  | _ => none
def gSeq (g : GE) (ρ : Rho) : R (List D) := (g ρ).bind fun d ρ1 => R.lift (itemsD d) ρ1
theorem wk_list {Z : Hp} {a : Addr} {xs : List V} {ds : List D} (h : SqL K Z a xs) (r : RpA K Z xs ds) : Wk K (Itl K a) Z ds where
  goes := fun i H hi s => ⟨xs, xs[i]'(by rw [r.length]; exact hi), same_l s h, List.getElem?_eq_getElem _⟩
  stops := fun H s => ⟨xs, same_l s h, by rw [r.length]; exact Nat.le_refl _⟩
  yields := fun i H x H' hi y b0 B Z0 Z' σ ρ ok s => by
    obtain ⟨rfl, y⟩ := y
    obtain ⟨d, e1, r1⟩ := r.getV (y xs (same_l (s.trans ok.zh) h))
    exact ⟨Z', d, ok, Same.refl Z', e1, r1.mono s⟩
theorem wk_tup {Z : Hp} {a : Addr} {xs : List V} {ds : List D} (h : SqT K Z a xs) (r : RpA K Z xs ds) : Wk K (Itt K a) Z ds where
  goes := fun i H hi s => ⟨xs, xs[i]'(by rw [r.length]; exact hi), same_t s h, List.getElem?_eq_getElem _⟩
  stops := fun H s => ⟨xs, same_t s h, by rw [r.length]; exact Nat.le_refl _⟩
  yields := fun i H x H' hi y b0 B Z0 Z' σ ρ ok s => by
    obtain ⟨rfl, y⟩ := y
    obtain ⟨d, e1, r1⟩ := r.getV (y xs (same_t (s.trans ok.zh) h))
    exact ⟨Z', d, ok, Same.refl Z', e1, r1.mono s⟩
theorem di_seq {g : GE} (h : DE K te g) : DI K (iSeqU K te) (gSeq g) := fun b0 B Z0 Z H σ ρ ds ρ' W ok e q => by
  obtain ⟨d, ρ1, e1, e⟩ := R.bind_ok e
  obtain ⟨e2, rfl⟩ := R.lift_ok e
  unfold itemsD at e2
  split at e2
  · cases e2
    refine .inl (h b0 B Z0 Z H σ ρ _ _ _ ok e1 fun v H1 Z1 ok1 s1 r1 => ?_)
    cases r1 with
    | lst hs ra => exact ⟨_, rfl, ⟨_, .inl (.inl (ok1.zh _ _ hs))⟩, q _ H1 Z1 ok1 s1 (wk_list (.inl (.inl hs)) ra)⟩
  · cases e2
    refine .inr (h b0 B Z0 Z H σ ρ _ _ _ ok e1 fun v H1 Z1 ok1 s1 r1 => ?_)
    cases r1 with
    | tup hs ra => exact ⟨_, rfl, ⟨_, same_t ok1.zh hs⟩, q _ H1 Z1 ok1 s1 (wk_tup hs ra)⟩
  · cases e2
    refine .inl (h b0 B Z0 Z H σ ρ _ _ _ ok e1 fun v H1 Z1 ok1 s1 r1 => ?_)
    cases r1 with
    | scr hs ra => exact ⟨_, rfl, ⟨_, same_l ok1.zh hs⟩, q _ H1 Z1 ok1 s1 (wk_list hs ra)⟩
  · cases e2
/-! ### range -/
def rangeD (lo : Int) (n : Nat) : List D := (List.range n).map fun (i : Nat) => PyData.int (lo + (i : Int))
theorem rangeD_len (lo : Int) (n : Nat) : (rangeD lo n).length = n := by unfold rangeD; rw [List.length_map, List.length_range]
theorem rangeD_get {lo : Int} {n i : Nat} (h : i < n) : (rangeD lo n)[i]? = some (.int (lo + (i : Int))) := by
  unfold rangeD
  rw [List.getElem?_map, List.getElem?_range h]; rfl
theorem wk_rng {Z : Hp} {lo : Int} {n : Nat} : Wk K (Itr lo n) Z (rangeD lo n) where
  goes := fun i H hi s => by rw [rangeD_len] at hi; exact hi
  stops := fun H s => by rw [rangeD_len]; exact Nat.le_refl _
  yields := fun i H x H' hi y b0 B Z0 Z' σ ρ ok s => by
    obtain ⟨rfl, rfl⟩ := y
    rw [rangeD_len] at hi
    exact ⟨Z', _, ok, Same.refl Z', rangeD_get hi, .int _⟩
def rng1 : List D → Option (List D)
  | [.int j] => if -(2 ^ 62) ≤ j ∧ j < 2 ^ 62 then some (rangeD 0 j.toNat) else none
  | _ => none
def rng2 : List D → Option (List D)
  | [.int i, .int j] => if -(2 ^ 62) ≤ i ∧ i < 2 ^ 62 ∧ -(2 ^ 62) ≤ j ∧ j < 2 ^ 62 then some (rangeD i (j - i).toNat) else none
  | _ => none
theorem di_rng1 {ga : GA} (h : DA K tas ga) : DI K (iRng1 tas) (eCall rng1 ga) := fun b0 B Z0 Z H σ ρ ds ρ' W ok e q => by
  obtain ⟨os, as, e1, e2, e3⟩ := call_ok e
  refine h b0 B Z0 Z H σ ρ os ρ' _ ok e1 fun vs H1 Z1 ok1 s1 r1 => ?_
  have ra := valA_ok r1 e2
  unfold rng1 at e3
  split at e3
  · split at e3
    · rename_i hb
      cases e3
      cases ra with
      | cons r ra =>
      cases r; cases ra
      exact ⟨_, rfl, hb.1, hb.2, q _ H1 Z1 ok1 s1 wk_rng⟩
    · cases e3
  · cases e3
theorem di_rng2 {ga : GA} (h : DA K tas ga) : DI K (iRng2 tas) (eCall rng2 ga) := fun b0 B Z0 Z H σ ρ ds ρ' W ok e q => by
  obtain ⟨os, as, e1, e2, e3⟩ := call_ok e
  refine h b0 B Z0 Z H σ ρ os ρ' _ ok e1 fun vs H1 Z1 ok1 s1 r1 => ?_
  have ra := valA_ok r1 e2
  unfold rng2 at e3
  split at e3
  · split at e3
    · rename_i hb
      cases e3
      cases ra with
      | cons r ra =>
      cases ra with
      | cons r' ra =>
      cases r; cases r'; cases ra
      exact ⟨_, _, rfl, hb, q _ H1 Z1 ok1 s1 wk_rng⟩
    · cases e3
  · cases e3
/-! ### zip and enumerate of lists and tuples in any mix -/
/-- what may be walked: a list, a tuple -/
inductive Sk where
  | L
  | T
def Sk.sq (K : PySem.W.Frag) (H : Hp) (a : Addr) (xs : List V) : Sk → Prop
  | .L => SqL K H a xs
  | .T => SqT K H a xs
def Sk.src (h : Heap) (a : Addr) (its : Array Value) : Sk → Prop
  | .L => h.IsList a its
  | .T => h.IsTuple a its
def Sk.itr (h : Heap) (it a : Addr) (i : Nat) : Sk → Prop
  | .L => h.IsListIter it a i
  | .T => h.IsTupleIter it a i
def Sk.obj (a : Addr) : Sk → Obj
  | .L => { cls := .type "list_iterator", data := .fields #[.ref a, .int 0 0] }
  | .T => { cls := .type "tuple_iterator", data := .fields #[.ref a, .int 0 0] }
theorem Sk.draws {prog : Program} {w : World} {A : Around} (k : Sk) (hh : A.handled = none) (it a : Addr) (hne : a ≠ it) (its : Array Value) : Draws prog w A it [it, a] its.size (fun i v => its[i]? = some v) (fun i h => k.itr h it a i ∧ k.src h a its) := by
  cases k with
  | L => exact Draws.list hh it a hne its
  | T => exact Draws.tuple hh it a hne its
theorem Sk.begins (k : Sk) (a : Addr) (its : Array Value) : Begins (.ref a) (k.obj a) (fun h => k.src h a its) := by
  cases k with
  | L => exact begins_list a its
  | T => exact begins_tuple a its
theorem Sk.first (k : Sk) {h : Heap} {it a : Addr} (e : h.get? it = some (k.obj a)) : k.itr h it a 0 := by
  cases k with
  | L => exact ⟨_, e, rfl, rfl⟩
  | T => exact ⟨_, e, rfl, rfl⟩
theorem Sk.there (k : Sk) {pins : List (Addr × Obj)} {σ : L2.St} {H : Hp} {s : Shared} {a : Addr} {xs : List V} (I : L2.Inv X pins σ H s) (h : k.sq X.K H a xs) : ∃ its, Vals xs its ∧ k.src s.heap a its.toArray := by
  cases k with
  | L =>
    obtain ⟨its, r, p, _⟩ := I.list h
    exact ⟨its, r, p.isList⟩
  | T =>
    obtain ⟨its, r, p, _⟩ := I.tuple h
    exact ⟨its, r, p⟩
theorem Sk.lt (k : Sk) {h : Heap} {a : Addr} {its : Array Value} (e : k.src h a its) : a < h.objs.size := by
  cases k with
  | L => obtain ⟨o, q, _⟩ := e; exact Heap.lt_size q
  | T => obtain ⟨o, q, _⟩ := e; exact Heap.lt_size q
theorem Sk.obj_of (k : Sk) {h : Heap} {it a : Addr} {i : Nat} (e : k.itr h it a i) : ∃ o, h.get? it = some o ∧ ∀ v, o.data ≠ .cell v := by
  cases k with
  | L => obtain ⟨o, q, _, d⟩ := e; exact ⟨o, q, fun v z => by rw [d] at z; cases z⟩
  | T => obtain ⟨o, q, _, d⟩ := e; exact ⟨o, q, fun v z => by rw [d] at z; cases z⟩
theorem Sk.keep (k : Sk) {h h' : Heap} {it a : Addr} {i : Nat} (e : k.itr h it a i) (kp : ∀ o, h.get? it = some o → h'.get? it = some o) : k.itr h' it a i := by
  cases k with
  | L => obtain ⟨o, q, r⟩ := e; exact ⟨o, kp o q, r⟩
  | T => obtain ⟨o, q, r⟩ := e; exact ⟨o, kp o q, r⟩
theorem Sk.mono (k : Sk) {Z H : Hp} {a : Addr} {xs : List V} (s : Same Z H) (h : k.sq K Z a xs) : k.sq K H a xs := by
  cases k with
  | L => exact same_l s h
  | T => exact same_t s h
/-- pairs, n of them, while S holds -/
def ItP (S : Hp → Prop) (n : Nat) (f g : Nat → Option V) : It :=
  ⟨fun i H => S H ∧ i < n, fun i H v H' => ∃ T x y, v = .ref T ∧ H T = none ∧ H' = upd H T (.tup [x, y]) ∧ f i = some x ∧ g i = some y, fun i H => S H ∧ i = n⟩
/-- a new pair goes into the heap, the iterators' own objects turn -/
theorem pair_inv {pins : List (Addr × Obj)} {σ : L2.St} {H : Hp} {s : Shared} {h' : Heap} {tk : Nat} {T : Addr} {x y : V} {u v : Value} {wr fp : List Addr} (I : L2.Inv X pins σ H s) (hf : ∀ b ∈ fp, FpOk X pins H b) (sub : ∀ b ∈ wr, b ∈ fp)
    (kp : ∀ b o, b ∉ wr → s.heap.get? b = some o → h'.get? b = some o) (hT : s.heap.objs.size ≤ T) (tup : h'.IsTuple T #[u, v]) (rx : RelV x u) (ry : RelV y v) (live : ∀ b ∈ fp, ∃ o, s.heap.get? b = some o) :
    L2.Inv X pins σ (upd H T (.tup [x, y])) { s with heap := h', toks := tk } ∧ H T = none ∧ ∀ b ∈ fp, upd H T (.tup [x, y]) b = none := by
  refine ⟨I.turnedNew (t' := tk) (ch := wr) kp (fun b hb => hf b (sub b hb)) hT ⟨by show 2 ≤ sizeLine; decide, [u, v], .cons rx (.cons ry .nil), tup⟩, I.hok.fresh hT, fun b hb => ?_⟩
  obtain ⟨o, e⟩ := live b hb
  rw [upd_ne (Nat.ne_of_lt (Nat.lt_of_lt_of_le (Heap.lt_size e) hT))]
  exact (hf b hb).1
def zipTn (k1 k2 : Sk) (a b N : Addr) : Nat → Heap → Prop := fun i h => IsZip h (N + 4) (N + 2) (N + 3) .none ∧ IsTupOf2 h (N + 2) (.ref N) (.ref (N + 1)) ∧ (∃ a1 a2, IsTupOf2 h (N + 3) a1 a2) ∧ k1.itr h N a i ∧ k2.itr h (N + 1) b i
def fp5 (N : Addr) : List Addr := [N + 4, N + 2, N + 3, N, N + 1]
theorem zip_live {k1 k2 : Sk} {a b N : Addr} {i : Nat} {h : Heap} (st : zipTn k1 k2 a b N i h) : ∀ c ∈ fp5 N, ∃ o, h.get? c = some o ∧ ∀ v, o.data ≠ .cell v := fun c hc => by
  obtain ⟨h1, h2, ⟨a1, a2, h3⟩, h4, h5⟩ := st
  have e : c = N + 4 ∨ c = N + 2 ∨ c = N + 3 ∨ c = N ∨ c = N + 1 := by simpa [fp5] using hc
  rcases e with e | e | e | e | e
  · rw [e]; exact ⟨_, h1, fun v z => nomatch z⟩
  · rw [e]; exact ⟨_, h2, fun v z => nomatch z⟩
  · rw [e]; exact ⟨_, h3, fun v z => nomatch z⟩
  · rw [e]; exact k1.obj_of h4
  · rw [e]; exact k2.obj_of h5
theorem turn_zipU {P : Program} {w : World} {elts : List Expr} {kk : Nat} {tpos : Pos} (k1 k2 : Sk) {a b N : Addr} (ha : a < N) (hb : b < N) (xs ys : List V) :
    Turn P w K (.Tuple elts kk tpos) (ItP (fun H => k1.sq K H a xs ∧ k2.sq K H b ys) (min xs.length ys.length) (fun i => xs[i]?) (fun i => ys[i]?)) (fp5 N) (N + 4) (zipTn k1 k2 a b N) where
  mem := by simp [fp5]
  obj := fun i h st => zip_live st
  keep := fun i h h' st kp => by
    obtain ⟨h1, h2, ⟨a1, a2, h3⟩, h4, h5⟩ := st
    exact ⟨kp _ (by simp [fp5]) _ h1, kp _ (by simp [fp5]) _ h2, ⟨a1, a2, kp _ (by simp [fp5]) _ h3⟩, k1.keep h4 fun o q => kp _ (by simp [fp5]) o q, k2.keep h5 fun o q => kp _ (by simp [fp5]) o q⟩
  item := by
    intro X hP hw hK hc i pins s σ H E I hf st hg
    subst hP hw hK
    obtain ⟨⟨q1, q2⟩, hi⟩ := hg
    obtain ⟨i1, r1, s1⟩ := k1.there I q1
    obtain ⟨i2, r2, s2⟩ := k2.there I q2
    have W := GoesN.zip2 (prog := X.prog) (w := X.w) (A := X.A) (elts := elts) (x1 := kk) (pos := tpos) (zip_sep2 (N := N) (fp1 := [a]) (fp2 := [b]) (by simpa using ha) (by simpa using hb))
      (k1.draws (A := X.A.in1) (I.ok.hd hc) N a (Nat.ne_of_lt ha) i1.toArray) (k2.draws (A := X.A.in1) (I.ok.hd hc) (N + 1) b (Nat.ne_of_lt (Nat.lt_succ_of_lt hb)) i2.toArray)
    have st0 := st
    obtain ⟨h1, h2, h3, h4, h5⟩ := st
    refine W.goes i s _ E (by rw [List.size_toArray, List.size_toArray, ← r1.length, ← r2.length]; exact hi) ⟨h1, h2, h3, ⟨h4, s1⟩, h5, s2⟩ fun v h' tk hY st' kp htk => ?_
    obtain ⟨T, x, y, rfl, hT, ex, ey, tup⟩ := hY
    have gx : xs[i]? = some (xs[i]'(by omega)) := List.getElem?_eq_getElem _
    have gy : ys[i]? = some (ys[i]'(by omega)) := List.getElem?_eq_getElem _
    obtain ⟨u, eu, ru⟩ := r1.get gx
    obtain ⟨v, ev, rv⟩ := r2.get gy
    have e1 : u = x := Option.some.inj (eu.symm.trans (by simpa using ex))
    have e2 : v = y := Option.some.inj (ev.symm.trans (by simpa using ey))
    subst e1 e2
    obtain ⟨I2, hn, fr⟩ := pair_inv (tk := tk) I hf (by simp [fp5]) kp hT tup ru rv fun b hb => let ⟨o, e, _⟩ := zip_live st0 b hb; ⟨o, e⟩
    obtain ⟨g1, g2, g3, ⟨g4, _⟩, g5, _⟩ := st'
    exact ⟨.ref T, _, I2, rfl, ⟨T, _, _, rfl, hn, rfl, gx, gy⟩, ⟨g1, g2, g3, g4, g5⟩, fr⟩
  done := by
    intro X hP hw hK hc i pins s σ H E I hf st hg
    subst hP hw hK
    obtain ⟨⟨q1, q2⟩, hi⟩ := hg
    obtain ⟨i1, r1, s1⟩ := k1.there I q1
    obtain ⟨i2, r2, s2⟩ := k2.there I q2
    have W := GoesN.zip2 (prog := X.prog) (w := X.w) (A := X.A) (elts := elts) (x1 := kk) (pos := tpos) (zip_sep2 (N := N) (fp1 := [a]) (fp2 := [b]) (by simpa using ha) (by simpa using hb))
      (k1.draws (A := X.A.in1) (I.ok.hd hc) N a (Nat.ne_of_lt ha) i1.toArray) (k2.draws (A := X.A.in1) (I.ok.hd hc) (N + 1) b (Nat.ne_of_lt (Nat.lt_succ_of_lt hb)) i2.toArray)
    obtain ⟨h1, h2, h3, h4, h5⟩ := st
    have hn : min i1.toArray.size i2.toArray.size = i := by rw [List.size_toArray, List.size_toArray, ← r1.length, ← r2.length]; exact hi.symm
    rw [hn] at W
    refine W.stops s _ E ⟨h1, h2, h3, ⟨h4, s1⟩, h5, s2⟩ fun h' tk kp htk => ?_
    exact I.turnedL (t' := tk) (ch := [N + 4, N + 3, N, N + 1]) kp fun b hb => hf b (by
      have : b = N + 4 ∨ b = N + 3 ∨ b = N ∨ b = N + 1 := by simpa using hb
      rcases this with e | e | e | e <;> simp [fp5, e])
  self := fun A i s Q E st h => wpAny_pyIter_zip st.1 h
def iZipU (K : PySem.W.Frag) (ta : TA) : TI := fun σ H R => ta σ H fun vs H1 => ∃ a b k1 k2 xs ys, vs = [.ref a, .ref b] ∧ Sk.sq K H1 a xs k1 ∧ Sk.sq K H1 b ys k2 ∧ R (ItP (fun H => k1.sq K H a xs ∧ k2.sq K H b ys) (min xs.length ys.length) (fun i => xs[i]?) (fun i => ys[i]?)) H1
theorem pi_zipU {e e2 : Expr} {ta : TA} {p pos tpos : Pos} {elts : List Expr} {kk : Nat} (hg : Gl X "zip") (hm : X.mg "zip" = none) (ha : PA X [e, e2] ta)
    (h1 : starEach [e, e2] X.env = (false, eval e X.env) :: starEach [e2] X.env := by rfl) (h2 : (backTo pos (starEach [e2] X.env)).any (·.1) = false := by rfl) :
    PI X (.Tuple elts kk tpos) (.Call (.Name "zip" p) [e, e2] [] pos) (iZipU X.K ta) := by
  refine ⟨fun pins s σ H R I h => PyProof.Rows.Call_ (ld_blt I hg hm PyProof.Rows.boot_zip (PyProof.Rows.callWith_type1 (thn (ha.run pos pins s σ H _ I h) fun us s1 ⟨vs, H1, I1, r1, q1⟩ => ?_) h1 h2))⟩
  obtain ⟨a, b, k1, k2, xs, ys, rfl, q1, q2, q⟩ := q1
  cases r1 with
  | cons r rr =>
  cases rr with
  | cons r' rr =>
  cases rr; cases r; cases r'
  obtain ⟨i1, r1, s1'⟩ := k1.there I1 q1
  obtain ⟨i2, r2, s2'⟩ := k2.there I1 q2
  refine zip_begins2 (k1.begins a i1.toArray) (k2.begins b i2.toArray) s1' s2' fun h' hz hTI hTO g1 g2 hsz hk => wpAny_pyIter_zip hz ?_
  refine ⟨s1.heap.objs.size + 4, fp5 s1.heap.objs.size, _, _, H1, rfl, I1.kept (t' := s1.toks) hk, turn_zipU k1 k2 (k1.lt s1') (k2.lt s2') xs ys, ⟨hz, hTI, ⟨_, _, hTO⟩, k1.first g1, k2.first g2⟩, fun c hc => ?_, q⟩
  have hle : s1.heap.objs.size ≤ c := by
    have : c = s1.heap.objs.size + 4 ∨ c = s1.heap.objs.size + 2 ∨ c = s1.heap.objs.size + 3 ∨ c = s1.heap.objs.size ∨ c = s1.heap.objs.size + 1 := by simpa [fp5] using hc
    rcases this with z | z | z | z | z <;> rw [z] <;> first | exact Nat.le_add_right _ _ | exact Nat.le_refl _
  exact I1.fpOk hle (I1.hok.fresh hle)
theorem wk_pair {Z : Hp} {S : Hp → Prop} {n : Nat} {f g : Nat → Option V} {ds : List D} (hS : ∀ H, Same Z H → S H) (hn : ds.length = n) (hd : ∀ i x y, i < n → f i = some x → g i = some y → ∃ a b, ds[i]? = some (.tuple [a, b]) ∧ Rp K Z x a ∧ Rp K Z y b) : Wk K (ItP S n f g) Z ds where
  goes := fun i H hi s => ⟨hS H s, by rw [← hn]; exact hi⟩
  stops := fun H s => ⟨hS H s, hn⟩
  yields := fun i H x H' hi y b0 B Z0 Z' σ ρ ok s => by
    obtain ⟨T, x, y, rfl, hT, rfl, e1, e2⟩ := y
    obtain ⟨a, b, ed, ra, rb⟩ := hd i x y (by omega) e1 e2
    obtain ⟨ok2, s2⟩ := ok.new (o := .tup [x, y]) hT
    exact ⟨_, _, ok2, s2, ed, .tup (.inl (.inl upd_same)) (.cons ((ra.mono s).mono s2) (.cons ((rb.mono s).mono s2) .nil))⟩
def skOf : D → Option (Sk × List D)
  | .list xs => some (.L, xs)
  | .tuple xs => some (.T, xs)
  | .dict [(.list xs, .none)] => some (.L, xs)
  | _ => none
theorem sk_rp {Z : Hp} {v : V} {d : D} {k : Sk} {ds : List D} (h : skOf d = some (k, ds)) (r : Rp K Z v d) : ∃ a xs, v = .ref a ∧ k.sq K Z a xs ∧ RpA K Z xs ds := by
  unfold skOf at h
  split at h
  · cases h
    cases r with
    | lst hs ra => exact ⟨_, _, rfl, .inl (.inl hs), ra⟩
  · cases h
    cases r with
    | tup hs ra => exact ⟨_, _, rfl, hs, ra⟩
  · cases h
    cases r with
    | scr hs ra => exact ⟨_, _, rfl, hs, ra⟩
  · cases h
def zipD (as bs : List D) : List D := List.zipWith (fun a b => .tuple [a, b]) as bs
def zip2D : List D → Option (List D)
  | [a, b] => match skOf a, skOf b with
    | some (_, xs), some (_, ys) => some (zipD xs ys)
    | _, _ => none
  | _ => none
theorem di_zip {ga : GA} (h : DA K tas ga) : DI K (iZipU K tas) (eCall zip2D ga) := fun b0 B Z0 Z H σ ρ ds ρ' W ok e q => by
  obtain ⟨os, as, e1, e2, e3⟩ := call_ok e
  refine h b0 B Z0 Z H σ ρ os ρ' _ ok e1 fun vs H1 Z1 ok1 s1 r1 => ?_
  have ra := valA_ok r1 e2
  unfold zip2D at e3
  split at e3
  · split at e3
    · rename_i k1 xs k2 ys f1 f2
      cases e3
      cases ra with
      | cons r ra =>
      cases ra with
      | cons r' ra =>
      cases ra
      obtain ⟨a, va, rfl, qa, rva⟩ := sk_rp f1 r
      obtain ⟨b, vb, rfl, qb, rvb⟩ := sk_rp f2 r'
      refine ⟨a, b, k1, k2, va, vb, rfl, k1.mono ok1.zh qa, k2.mono ok1.zh qb, q _ H1 Z1 ok1 s1 (wk_pair (fun H s => ⟨k1.mono s qa, k2.mono s qb⟩) ?_ fun i x y hi ex ey => ?_)⟩
      · unfold zipD; rw [List.length_zipWith, rva.length, rvb.length]
      · obtain ⟨d1, g1, rd1⟩ := rva.getV ex
        obtain ⟨d2, g2, rd2⟩ := rvb.getV ey
        refine ⟨d1, d2, ?_, rd1, rd2⟩
        unfold zipD
        rw [List.getElem?_zipWith, g1, g2]
    · cases e3
  · cases e3
end
end DL

namespace DL
open PySem L2
/-! ### enumerate(x), x a list or a tuple -/
theorem enum_new1 {v : Value} {o : Obj} {HH : Heap → Prop} (B : Begins v o HH) :
    Meets (Builtin.«enumerate.__new__» ⟨[.type "enumerate", v], []⟩) (fun _ R s => HH s.heap ∧
      R (.ok (.ret (.ref (s.heap.push o).objs.size))) { s with heap := (s.heap.push o).push { cls := .type "enumerate", data := .fields #[.none, .bool false, .ref s.heap.objs.size, rawInt 0, .none, .none] } }) :=
  .of_wp fun prog w A R s h => by
    obtain ⟨hp, gn, dr, tk, os⟩ := s
    obtain ⟨h1, h⟩ := h
    have hsub := sub_enumerate
    have q1 : ∀ {A' : Around} {E : Value → Shared → Prop} {Q : Value → Shared → Prop}, Q (.ref hp.objs.size) ⟨hp.push o, gn, dr, tk, os⟩ → wpAny (model prog w) A' (pyIter v) Q E ⟨hp, gn, dr, tk, os⟩ :=
      fun q => B.iter prog w _ _ ⟨hp, gn, dr, tk, os⟩ _ h1 q
    wp_walk using q1
    refine wpAny_stack_any fun st => wpAny_pure ?_
    split
    · rename_i c _ _ _ _ _
      cases (c == Value.type "enumerate") <;> (wp_walk using q1; exact ⟨_, rfl, h⟩)
    · wp_walk using q1
      exact ⟨_, rfl, h⟩
theorem enum_begins1 {prog : Program} {w : World} {A : Around} {E : Value → Shared → Prop} {s : Shared} {v : Value} {o : Obj} {HH : Heap → Prop} {Q : Value → Shared → Prop} (B : Begins v o HH) (h1 : HH s.heap)
    (h : ∀ h', IsEnum h' (s.heap.objs.size + 1) s.heap.objs.size 0 .none → h'.get? s.heap.objs.size = some o → (∀ b o, s.heap.get? b = some o → h'.get? b = some o) → Q (.ref (s.heap.objs.size + 1)) { s with heap := h' }) :
    wpAny (model prog w) A (call (.type "enumerate") [v]) Q E s := by
  refine callType_new F.called_enumerate (by decide) (F.typeCall_enumerate_1 _) (F.newCall_enumerate_1 _) (fun obj => F.args_object_init_2 obj _) F.entry_enumerate_new (enum_new1 B) ⟨h1, ?_⟩
  have hz : (s.heap.push o).objs.size = s.heap.objs.size + 1 := Heap.size_push ..
  show _ ∧ _
  rw [hz]
  have he : IsEnum ((s.heap.push o).push { cls := .type "enumerate", data := .fields #[.none, .bool false, .ref s.heap.objs.size, rawInt 0, .none, .none] }) (s.heap.objs.size + 1) s.heap.objs.size 0 .none := by
    have q := Heap.get?_push_size (s.heap.push o) (o := { cls := .type "enumerate", data := .fields #[.none, .bool false, .ref s.heap.objs.size, rawInt 0, .none, .none] }) rfl
    rw [hz] at q
    exact q
  exact ⟨⟨_, he, rfl⟩, h _ he (Heap.get?_push_of_some _ (Heap.get?_push_size _ B.free)) fun b o x => Heap.get?_push_of_some _ (Heap.get?_push_of_some _ x)⟩
section
variable {X : Cx} {K : PySem.W.Frag} {ta tb te tc : TE} {tas : TA} {tg : Expr}
def enumTn (k : Sk) (a N : Addr) : Nat → Heap → Prop := fun i h => (∃ old, IsEnum h (N + 1) N (0 + (i : Int)) old) ∧ k.itr h N a i
theorem enum_live {k : Sk} {a N : Addr} {i : Nat} {h : Heap} (st : enumTn k a N i h) : ∀ c ∈ [N + 1, N], ∃ o, h.get? c = some o ∧ ∀ v, o.data ≠ .cell v := fun c hc => by
  obtain ⟨⟨old, h1⟩, h2⟩ := st
  have e : c = N + 1 ∨ c = N := by simpa using hc
  rcases e with e | e
  · rw [e]; exact ⟨_, h1, fun v z => nomatch z⟩
  · rw [e]; exact k.obj_of h2
theorem turn_enumU {P : Program} {w : World} {elts : List Expr} {kk : Nat} {tpos : Pos} (k : Sk) {a N : Addr} (ha : a < N) (xs : List V) :
    Turn P w K (.Tuple elts kk tpos) (ItP (fun H => k.sq K H a xs) xs.length (fun i => some (.int (0 + (i : Int)))) (fun i => xs[i]?)) [N + 1, N] (N + 1) (enumTn k a N) where
  mem := by simp
  obj := fun i h st => enum_live st
  keep := fun i h h' st kp => by
    obtain ⟨⟨old, h1⟩, h2⟩ := st
    exact ⟨⟨old, kp _ (by simp) _ h1⟩, k.keep h2 fun o q => kp _ (by simp) o q⟩
  item := by
    intro X hP hw hK hc i pins s σ H E I hf st hg
    subst hP hw hK
    obtain ⟨q1, hi⟩ := hg
    obtain ⟨i1, r1, s1⟩ := k.there I q1
    have W := GoesN.enumFrom (prog := X.prog) (w := X.w) (A := X.A) (elts := elts) (x1 := kk) (pos := tpos) 0 (k.draws (A := X.A.in1) (I.ok.hd hc) N a (Nat.ne_of_lt ha) i1.toArray) (N + 1) (Nat.succ_ne_self _) (by
      intro z
      rcases List.mem_cons.mp z with z | z
      · exact Nat.succ_ne_self _ z
      · rcases List.mem_cons.mp z with z | z
        · exact Nat.lt_irrefl _ (Nat.lt_of_lt_of_le ha (by rw [← z]; exact Nat.le_succ N))
        · cases z) (by simp)
    have st0 := st
    obtain ⟨h1, h2⟩ := st
    refine W.goes i s _ E (by rw [List.size_toArray, ← r1.length]; exact hi) ⟨h1, h2, s1⟩ fun v h' tk hY st' kp htk => ?_
    obtain ⟨T, t, x, rfl, hT, ex, tup⟩ := hY
    have gx : xs[i]? = some xs[i] := List.getElem?_eq_getElem _
    obtain ⟨u, eu, ru⟩ := r1.get gx
    have e1 : u = x := Option.some.inj (eu.symm.trans (by simpa using ex))
    subst e1
    obtain ⟨I2, hn, fr⟩ := pair_inv (tk := tk) (x := .int (0 + (i : Int))) I hf (by simp) kp hT tup ⟨_, rfl⟩ ru fun b hb => let ⟨o, e, _⟩ := enum_live st0 b hb; ⟨o, e⟩
    obtain ⟨g1, g2, _⟩ := st'
    exact ⟨.ref T, _, I2, rfl, ⟨T, _, _, rfl, hn, rfl, rfl, gx⟩, ⟨g1, g2⟩, fr⟩
  done := by
    intro X hP hw hK hc i pins s σ H E I hf st hg
    subst hP hw hK
    obtain ⟨q1, hi⟩ := hg
    obtain ⟨i1, r1, s1⟩ := k.there I q1
    have W := GoesN.enumFrom (prog := X.prog) (w := X.w) (A := X.A) (elts := elts) (x1 := kk) (pos := tpos) 0 (k.draws (A := X.A.in1) (I.ok.hd hc) N a (Nat.ne_of_lt ha) i1.toArray) (N + 1) (Nat.succ_ne_self _) (by
      intro z
      rcases List.mem_cons.mp z with z | z
      · exact Nat.succ_ne_self _ z
      · rcases List.mem_cons.mp z with z | z
        · exact Nat.lt_irrefl _ (Nat.lt_of_lt_of_le ha (by rw [← z]; exact Nat.le_succ N))
        · cases z) (by simp)
    obtain ⟨h1, h2⟩ := st
    have hn : i1.toArray.size = i := by rw [List.size_toArray, ← r1.length]; exact hi.symm
    rw [hn] at W
    refine W.stops s _ E ⟨h1, h2, s1⟩ fun h' tk kp htk => ?_
    exact I.turnedL (t' := tk) (ch := [N + 1, N]) kp fun b hb => hf b hb
  self := fun A i s Q E st h => let ⟨⟨_, he⟩, _⟩ := st; wpAny_pyIter_enum he h
def iEnumU (K : PySem.W.Frag) (ta : TA) : TI := fun σ H R => ta σ H fun vs H1 => ∃ a k xs, vs = [.ref a] ∧ Sk.sq K H1 a xs k ∧ R (ItP (fun H => k.sq K H a xs) xs.length (fun i => some (.int (0 + (i : Int)))) (fun i => xs[i]?)) H1
theorem pi_enumU {e : Expr} {ta : TA} {p pos tpos : Pos} {elts : List Expr} {kk : Nat} (hg : Gl X "enumerate") (hm : X.mg "enumerate" = none) (ha : PA X [e] ta) (h1 : starEach [e] X.env = [(false, eval e X.env)] := by rfl) :
    PI X (.Tuple elts kk tpos) (.Call (.Name "enumerate" p) [e] [] pos) (iEnumU X.K ta) := by
  refine ⟨fun pins s σ H R I h => PyProof.Rows.Call_ (ld_blt I hg hm PyProof.Rows.boot_enumerate (PyProof.Rows.callWith_type1 (thn (ha.run pos pins s σ H _ I h) fun us s1 ⟨vs, H1, I1, r1, q1⟩ => ?_) h1 rfl))⟩
  obtain ⟨a, k, xs, rfl, q1, q⟩ := q1
  cases r1 with
  | cons r rr =>
  cases rr; cases r
  obtain ⟨i1, r1, s1'⟩ := k.there I1 q1
  refine enum_begins1 (k.begins a i1.toArray) s1' fun h' he g1 hk => wpAny_pyIter_enum he ?_
  refine ⟨s1.heap.objs.size + 1, [s1.heap.objs.size + 1, s1.heap.objs.size], _, _, H1, rfl, I1.kept (t' := s1.toks) hk, turn_enumU k (k.lt s1') xs, ⟨⟨_, he⟩, k.first g1⟩, fun c hc => ?_, q⟩
  have hle : s1.heap.objs.size ≤ c := by
    have : c = s1.heap.objs.size + 1 ∨ c = s1.heap.objs.size := by simpa using hc
    rcases this with z | z <;> rw [z] <;> first | exact Nat.le_add_right _ _ | exact Nat.le_refl _
  exact I1.fpOk hle (I1.hok.fresh hle)
def enumFrom (i : Nat) : List D → List D
  | [] => []
  | d :: ds => .tuple [.int (i : Int), d] :: enumFrom (i + 1) ds
theorem enumFrom_len : ∀ (ds : List D) (i : Nat), (enumFrom i ds).length = ds.length
  | [], _ => rfl
  | d :: ds, i => by
    show (enumFrom (i + 1) ds).length + 1 = ds.length + 1
    rw [enumFrom_len ds (i + 1)]
theorem enumFrom_get : ∀ (ds : List D) (i j : Nat) (d : D), ds[j]? = some d → (enumFrom i ds)[j]? = some (.tuple [.int ((i + j : Nat) : Int), d])
  | d :: ds, i, 0, e, h => by cases h; rfl
  | d :: ds, i, j + 1, e, h => by
    show (enumFrom (i + 1) ds)[j]? = _
    rw [enumFrom_get ds (i + 1) j e h, show i + 1 + j = i + (j + 1) by omega]
def enum1D : List D → Option (List D)
  | [a] => (skOf a).map fun q => enumFrom 0 q.2
  | _ => none
theorem di_enum {ga : GA} (h : DA K tas ga) : DI K (iEnumU K tas) (eCall enum1D ga) := fun b0 B Z0 Z H σ ρ ds ρ' W ok e q => by
  obtain ⟨os, as, e1, e2, e3⟩ := call_ok e
  refine h b0 B Z0 Z H σ ρ os ρ' _ ok e1 fun vs H1 Z1 ok1 s1 r1 => ?_
  have ra := valA_ok r1 e2
  unfold enum1D at e3
  split at e3
  · obtain ⟨⟨k, xs⟩, f1, rfl⟩ := Option.map_eq_some_iff.mp e3
    cases ra with
    | cons r ra =>
    cases ra
    obtain ⟨a, va, rfl, qa, rva⟩ := sk_rp f1 r
    refine ⟨a, k, va, rfl, k.mono ok1.zh qa, q _ H1 Z1 ok1 s1 (wk_pair (fun H s => k.mono s qa) (by rw [enumFrom_len, rva.length]) fun i x y hi ex ey => ?_)⟩
    cases ex
    obtain ⟨d1, g1, rd1⟩ := rva.getV ey
    exact ⟨_, d1, enumFrom_get xs 0 i d1 g1, by rw [show ((0 + i : Nat) : Int) = 0 + (i : Int) by omega]; exact .int _, rd1⟩
  · cases e3
/-! ### isinstance(x, T), T a built-in class or a written tuple of such -/
def tyName : D → String
  | .none => "NoneType"
  | .bool _ => "bool"
  | .int _ => "int"
  | .str _ => "str"
  | .list _ => "list"
  | .tuple _ => "tuple"
  | .dict [(.list _, .none)] => "list"
  | .dict _ => "?"
def plainT (d : D) : Bool := tyName d != "?"
def isiD (T : String) (d : D) : Option D := if plainT d then (kitB (tyName d) T).map .bool else none
def isiAny (a : String) : List String → Option Bool
  | [] => some false
  | T :: r => match kitB a T with
    | some true => some true
    | some false => isiAny a r
    | none => none
def isiTD (Ts : List String) (d : D) : Option D := if plainT d then (isiAny (tyName d) Ts).map .bool else none
theorem tyx_of {Z H : Hp} {v : V} {d : D} (s : Same Z H) (h : Bd K Z H v d) (hp : plainT d = true) : TyX K H v (.type (tyName d)) := by
  cases h with
  | non => exact .base .non
  | bl b => exact .base (.bl b)
  | int i => exact .base (.int i)
  | str x => exact .base (.str x)
  | lst h r => exact .base (.lst h)
  | scr h r =>
    rcases h with (h | ⟨o, h⟩) | ⟨o, its, n, h, c, _⟩
    · exact .base (.lst h)
    · exact .base (.frz h)
    · exact .kList h c
  | tup h r =>
    rcases same_t s h with (h | ⟨o, h⟩) | ⟨o, its, n, h, c, _⟩
    · exact .base (.tup h)
    · exact .fTuple h
    · exact .kTuple h c
  | exc h1 h2 h3 r => exact absurd (show false = true from hp) (by decide)
theorem de_isi {T : String} {g : GO} (h : DO K te g) : DE K (tCB (rIsi K) (tCons te (tCons (tC (.ty T)) tNil))) (eOp1 (isiD T) g) := fun b0 B Z0 Z H σ ρ d ρ' Q ok e q => by
  obtain ⟨x, a, e1, e3, e5⟩ := op1_ok e
  unfold isiD at e5
  split at e5
  case isFalse => cases e5
  rename_i hp
  obtain ⟨b, e6, rfl⟩ := Option.map_eq_some_iff.mp e5
  refine h b0 B Z0 Z H σ ρ x ρ' _ ok e1 fun v H1 Z1 ok1 s1 r1 => ?_
  exact ⟨v, .ty T, _, _, b, rfl, .ty T, tyx_of ok1.zh (ok1.bd r1 e3) hp, kit_ty e6, q _ H1 Z1 ok1 s1 (.bl b)⟩
theorem kitAny_of {a : String} : ∀ {Ts : List String} {b : Bool}, isiAny a Ts = some b → PySem.W.kitAny K (.type a) (Ts.map Value.type) = some b
  | [], b, h => by cases h; rfl
  | T :: r, b, h => by
    unfold isiAny at h
    split at h
    · rename_i hk
      cases h
      exact kitAny_cons (kit_ty hk) (fun z => nomatch z) fun _ => rfl
    · rename_i hk
      exact kitAny_cons (kit_ty hk) (fun _ => kitAny_of h) fun z => nomatch z
    · cases h
def tTys : List String → TA
  | [] => tNil
  | T :: r => tCons (tC (.ty T)) (tTys r)
theorem tTys_run {σ : L2.St} {H : Hp} {Q : List V → Hp → Prop} : ∀ (Ts : List String), Q (Ts.map V.ty) H → tTys Ts σ H Q
  | [], h => h
  | T :: r, h => tTys_run (Q := fun xs H2 => Q (.ty T :: xs) H2) r h
theorem paired_ty : ∀ Ts : List String, Paired ClsV (Ts.map V.ty) (Ts.map Value.type)
  | [] => .nil
  | T :: r => .cons (.ty T) (paired_ty r)
theorem de_isiT {Ts : List String} {g : GO} (hl : Ts.length ≤ sizeLine) (h : DO K te g) : DE K (tCB (rIsiT K) (tCons te (tCons (tTup (tTys Ts)) tNil))) (eOp1 (isiTD Ts) g) := fun b0 B Z0 Z H σ ρ d ρ' Q ok e q => by
  obtain ⟨x, a, e1, e3, e5⟩ := op1_ok e
  unfold isiTD at e5
  split at e5
  case isFalse => cases e5
  rename_i hpl
  obtain ⟨b, e6, rfl⟩ := Option.map_eq_some_iff.mp e5
  refine h b0 B Z0 Z H σ ρ x ρ' _ ok e1 fun v H1 Z1 ok1 s1 r1 => ?_
  refine tTys_run (Q := fun xs H2 => xs.length ≤ sizeLine ∧ ∀ p, H2 p = none → _) Ts ⟨by rw [List.length_map]; exact hl, fun p hp => ?_⟩
  obtain ⟨ok2, zp, bp, ap⟩ := ok1.fresh (o := .tup (Ts.map V.ty)) hp
  exact ⟨v, p, Ts.map V.ty, _, _, b, rfl, upd_same, paired_ty Ts, tyx_of ok2.zh (ok2.bd r1 e3) hpl, kitAny_of e6, q _ _ Z1 ok2 s1 (.bl b)⟩
/-! ### x in xs -/
def flV : D → Option V
  | .none => some .non
  | .bool b => some (.bl b)
  | .int i => some (.int i)
  | .str x => some (.str x)
  | _ => none
def flVs : List D → Option (List V)
  | [] => some []
  | d :: ds => match flV d, flVs ds with
    | some v, some vs => some (v :: vs)
    | _, _ => none
theorem flV_rp {Z : Hp} {v w : V} {d : D} (h : flV d = some w) (r : Rp K Z v d) : v = w ∧ flatV v = true := by
  cases r <;> cases h <;> exact ⟨rfl, rfl⟩
theorem flVs_rp {Z : Hp} : ∀ {vs ws : List V} {ds : List D}, flVs ds = some ws → RpA K Z vs ds → vs = ws ∧ vs.all flatV = true
  | _, _, _, h, .nil => by cases h; exact ⟨rfl, rfl⟩
  | _, _, _, h, .cons r ra => by
    unfold flVs at h
    split at h
    · rename_i v' vs' e1 e2
      cases h
      obtain ⟨rfl, f1⟩ := flV_rp e1 r
      obtain ⟨rfl, f2⟩ := flVs_rp e2 ra
      exact ⟨rfl, by rw [List.all_cons, f1, f2]; rfl⟩
    · cases h
def inDb (x d : D) : Option Bool := match d with
  | .list ds => (match flV x, flVs ds with
    | some v, some vs => some (inV v vs)
    | _, _ => none)
  | .tuple ds => (match flV x, flVs ds with
    | some v, some vs => some (inV v vs)
    | _, _ => none)
  | _ => none
def inD (x d : D) : Option D := (inDb x d).map .bool
def notInD (x d : D) : Option D := (inDb x d).map fun b => .bool (!b)
theorem in_rp {Z H : Hp} {x y : V} {a b : D} {k : Bool} (s : Same Z H) (ha : Bd K Z H x a) (hb : Bd K Z H y b) (h : inDb a b = some k) : ∃ p xs, y = .ref p ∧ (SqL K H p xs ∨ SqT K H p xs) ∧ flatV x = true ∧ xs.all flatV = true ∧ k = inV x xs := by
  have fx : ∀ v, flV a = some v → x = v ∧ flatV x = true := fun v e => flV_rp e (bd_rp s ha)
  unfold inDb at h
  split at h
  · split at h
    · rename_i v vs e1 e2
      cases h
      cases hb with
      | lst h r =>
      obtain ⟨rfl, f1⟩ := fx v e1
      obtain ⟨rfl, f2⟩ := flVs_rp e2 r
      exact ⟨_, _, rfl, .inl (.inl (.inl h)), f1, f2, rfl⟩
    · cases h
  · split at h
    · rename_i v vs e1 e2
      cases h
      cases hb with
      | tup h r =>
      obtain ⟨rfl, f1⟩ := fx v e1
      obtain ⟨rfl, f2⟩ := flVs_rp e2 r
      exact ⟨_, _, rfl, .inr (same_t s h), f1, f2, rfl⟩
    · cases h
  · cases h
theorem sn_in : Sn2 K (rIn K false) inD := fun b0 B Z0 Z H σ ρ x y a b c Q ok ha hb e q => by
  obtain ⟨k, e1, rfl⟩ := Option.map_eq_some_iff.mp e
  obtain ⟨p, xs, rfl, h1, h2, h3, rfl⟩ := in_rp ok.zh ha hb e1
  exact ⟨p, xs, rfl, h1, h2, h3, q _ H Z ok (Same.refl Z) (.bl _)⟩
theorem sn_notIn : Sn2 K (rIn K true) notInD := fun b0 B Z0 Z H σ ρ x y a b c Q ok ha hb e q => by
  obtain ⟨k, e1, rfl⟩ := Option.map_eq_some_iff.mp e
  obtain ⟨p, xs, rfl, h1, h2, h3, rfl⟩ := in_rp ok.zh ha hb e1
  exact ⟨p, xs, rfl, h1, h2, h3, q _ H Z ok (Same.refl Z) (.bl _)⟩
end
end DL

namespace DL
open PySem L2
section
variable {X : Cx} {K : PySem.W.Frag} {ta tb te tc : TE} {tas tks : TA} {tg : Expr}
/-! ### rules that give lists, as data too -/
theorem sn2_of_f {r : R2} {f : D → D → Option (List D)} (h : Sn2F K r f) : Sn2 K r (fun a b => (f a b).map .list) := fun b0 B Z0 Z H σ ρ x y a b c Q ok ha hb e q => by
  obtain ⟨ds, e1, rfl⟩ := Option.map_eq_some_iff.mp e
  refine h b0 B Z0 Z H σ ρ x y a b ds Q ok ha hb e1 fun p vs H' ok' zp bp ap hp r => ?_
  obtain ⟨ok2, s2⟩ := ok'.freeze zp bp ap hp
  exact q (.ref p) H' _ ok2 s2 (.lst upd_same (r.mono s2))
theorem sn2_or {r : R2} {f g : D → D → Option D} (h : Sn2 K r f) (h' : Sn2 K r g) : Sn2 K r (fun a b => (f a b).orElse fun _ => g a b) := fun b0 B Z0 Z H σ ρ x y a b c Q ok ha hb e q => by
  dsimp only at e
  cases hf : f a b with
  | some d =>
    rw [hf] at e
    cases e
    exact h b0 B Z0 Z H σ ρ x y a b _ Q ok ha hb hf q
  | none =>
    rw [hf] at e
    exact h' b0 B Z0 Z H σ ρ x y a b c Q ok ha hb e q
def addU (a b : D) : Option D := (addD a b).orElse fun _ => (addL a b).map .list
def mulU (a b : D) : Option D := (mulD a b).orElse fun _ => (repL a b).map .list
theorem sn_addU : Sn2 K (rAddU K) addU := sn2_or sn_add (sn2_of_f sn_addL)
theorem sn_mulU : Sn2 K rMulU mulU := sn2_or sn_mul (sn2_of_f sn_repL)
def sliceU (d : D) (lo hi : Option Int) : Option D := (sliceT d lo hi).orElse fun _ => (sliceL d lo hi).map .list
theorem sn_sliceU : SnSl K (rSlU K) sliceU := fun b0 B Z0 Z H σ ρ x a lo hi c Q ok ha e q => by
  unfold sliceU at e
  cases hf : sliceT a lo hi with
  | some d =>
    rw [hf] at e
    cases e
    exact sn_sliceT b0 B Z0 Z H σ ρ x a lo hi _ Q ok ha hf q
  | none =>
    rw [hf] at e
    obtain ⟨ds, e1, rfl⟩ := Option.map_eq_some_iff.mp e
    refine sn_sliceL b0 B Z0 Z H σ ρ x a lo hi ds Q ok ha e1 fun p vs H' ok' zp bp ap hp r => ?_
    obtain ⟨ok2, s2⟩ := ok'.freeze zp bp ap hp
    exact q (.ref p) H' _ ok2 s2 (.lst upd_same (r.mono s2))
/-! ### a call that may change the list in slot i and gives a new list -/
def eCallBF (F : List D → List D → Option (List D × List D)) (i : Nat) (ga : GA) (ρ : Rho) : R (List D) := if isOw ρ[i]? then (ga ρ).bind fun os ρ1 => match ρ1[i]?, valA os with
    | some (.ow box), some ds => (match F box ds with
      | some (d, box') => .ok d (ρ1.set i (.ow box'))
      | none => .bad)
    | _, _ => .bad
  else .bad
theorem df_callBF {np : Nat} {F : List D → List D → Option (List D × List D)} {i : Nat} {ga : GA} {E : XK} (hF0 : ∀ b ds d, F b ds = some d → ds.length + 1 = np) (ha : DA K tas ga) : DF K (tCall (spBF K np F) [] E (tCons (tVar i) tas)) (eCallBF F i ga) := fun b0 B Z0 Z H σ ρ d ρ' Q ok e q => by
  unfold eCallBF at e
  split at e
  · rename_i h0
    obtain ⟨b, vb0, e0, hb0⟩ := ok.isOw h0
    obtain ⟨os, ρ1, e1, e⟩ := R.bind_ok e
    split at e
    · rename_i box ds hi hv
      split at e
      · rename_i d' box' hF
        cases e
        refine ⟨.ref b, e0, ?_⟩
        refine ha b0 B Z0 Z H σ ρ os ρ1 _ ok e1 fun vs H1 Z1 ok1 s1 r1 => ?_
        obtain ⟨b1, vb, f1, f2, f3, f4, f5⟩ := ok1.ow i box hi
        rw [e0] at f1
        cases f1
        have rA := valA_ok r1 hv
        refine ⟨by rw [List.append_nil, List.length_cons, rA.length]; exact hF0 _ _ _ hF, Z1, b, vb, box, vs, ds, d, box', by rw [List.append_nil], ok1.zh, f2, f4, f5, rA, hF, fun p ws H' Z' vb' hh g zb hb' rb hp zp hp' r => ?_⟩
        have ok2 := ok1.growB hi e0 hh g zb hb' rb
        refine q p ws H' Z' ok2 (s1.trans g.1) zp (ok1.bh.free hp) (fun j es hj hq => ?_) hp' r
        obtain ⟨q', vs', g1, g2, _, g4, _⟩ := ok2.ow j es hj
        rw [g1] at hq
        cases hq
        -- p was free before the call; an owned list was there before
        have : ∃ es', ρ1[j]? = some (.ow es') := by
          rcases set_get hj with ⟨rfl, _⟩ | ⟨_, z⟩
          · exact ⟨_, hi⟩
          · exact ⟨_, z⟩
        obtain ⟨es', z⟩ := this
        obtain ⟨q2, vs2, k1, _, _, k4, _⟩ := ok1.ow j es' z
        rw [g1] at k1
        cases k1
        rw [hp] at k4
        cases k4
      · cases e
    · cases e
  · cases e
/-! ### a call with keywords alone -/
structure KwB (K : PySem.W.Frag) (fd : FuncData) (ps ks : List Str) (g : {α : Type} → List α → List α) : Prop where
  to : ∀ (s : Shared) (ws : List Value), K.In s.heap → ws.length = ks.length → BindsTo s fd ⟨[], ks.zip ws⟩ (ps.zip (g ws))
  rel : ∀ {A C : Type} {rel : A → C → Prop} {zs : List A} {ws : List C}, Paired rel zs ws → Paired rel (g zs) (g ws)
def tCallW (sp : Sp) (m : Nat) (g : {α : Type} → List α → List α) (E : XK) (tk : TA) : TE := fun σ H Q => tk σ H fun zs H2 => zs.length = m ∧ sp (g zs) H2 Q E
theorem pe_callW {CX : CXT} {k : Nat} {f : Addr} {fd : FuncData} {ps ks : List Str} {sp : Sp} {E : XK} {x : Str} {p pos : Pos} {kws : List Keyword} {g : {α : Type} → List α → List α} (F : FnOk X.prog X.w X.K X.mg X.base CX k f fd ps sp) (hr : Room k X.A) (hg : Gl X x) (hm : X.mg x = some (.ref f)) (hk : PySem.W.keepIn X.K (.ref f) = true) (hb : KwB X.K fd ps ks g) (hx : Passes CX X E) (hkw : PK X kws tks)
    (c1 : (backToKw pos (keywordEach kws X.env)).all (·.1.isSome) = true := by rfl) (c2 : (backToKw pos (keywordEach kws X.env)).filterMap (·.1) = ks := by rfl) (c3 : (x == ("__debug__" : Str)) = false := by decide)
    (c4 : ((backTo pos (starEach [] X.env)).any (·.1) || (backToKw pos (keywordEach kws X.env)).any (·.1.isNone)) = false := by rfl) : PE X (.Call (.Name x p) [] kws pos) (tCallW sp ks.length g E tks) := by
  refine ⟨fun pins s σ H Q I h => wpAny_Call_Name_kw (ld_glob I hg hm (PySem.W.callWith_KW0 (h₀ := X.base) I.ok.mod.kin hk c1 ?_ c4) c3)⟩
  refine thn (hkw.run pos pins s σ H _ I h) fun ws s2 ⟨zs, H2, I2, rz, l2, q2⟩ => ⟨I2.kIn, ?_⟩
  rw [c2]
  have r2 : Vals (g zs) (g ws) := hb.rel rz
  refine wpAny_call (codeAny_mono (F.run X.A X.stack s2 H2 ⟨[], ks.zip ws⟩ (g ws) (g zs) Q E hr I2.env0 (hb.to s2 ws I2.kIn (rz.length.symm.trans l2)) r2 q2) fun r s' hq => ?_)
  cases r with
  | error e => exact hx pins σ H2 s2 e s' I2 hq
  | ok fl => cases fl <;> first | exact I2.after hq | exact hq.elim
def eCallW {α : Type} (F : List D → Option α) (m : Nat) (g : {α : Type} → List α → List α) (ga : GA) (ρ : Rho) : R α := (ga ρ).bind fun os ρ1 => match valA os with
  | some ds => if ds.length = m then R.lift (F (g ds)) ρ1 else .bad
  | none => .bad
theorem RpA.paired {Z : Hp} : ∀ {vs : List V} {ds : List D}, RpA K Z vs ds → Paired (Rp K Z) vs ds
  | _, _, .nil => .nil
  | _, _, .cons h r => .cons h (RpA.paired r)
theorem RpA.of_paired {Z : Hp} : ∀ {vs : List V} {ds : List D}, Paired (Rp K Z) vs ds → RpA K Z vs ds
  | _, _, .nil => .nil
  | _, _, .cons h r => .cons h (RpA.of_paired r)
theorem callW_ok {α : Type} {F : List D → Option α} {m : Nat} {g : {α : Type} → List α → List α} {ga : GA} {ρ ρ' : Rho} {z : α} (e : eCallW F m g ga ρ = .ok z ρ') : ∃ os ds, ga ρ = .ok os ρ' ∧ valA os = some ds ∧ ds.length = m ∧ F (g ds) = some z := by
  obtain ⟨x, ρ1, e1, e2⟩ := R.bind_ok e
  split at e2
  · rename_i d h1
    split at e2
    · obtain ⟨e5, rfl⟩ := R.lift_ok e2
      exact ⟨x, d, e1, h1, by assumption, e5⟩
    · cases e2
  · cases e2
theorem de_callW {m np : Nat} {F : List D → Option D} {g : {α : Type} → List α → List α} {ga : GA} {E : XK} (hg : ∀ {A C : Type} {rel : A → C → Prop} {zs : List A} {ws : List C}, Paired rel zs ws → Paired rel (g zs) (g ws)) (hF : ∀ ds d, F ds = some d → ds.length = np) (ha : DA K tks ga) : DE K (tCallW (spP K np F) m g E tks) (eCallW F m g ga) := fun b0 B Z0 Z H σ ρ d ρ' Q ok e q => by
  obtain ⟨os, ds, e1, e2, hm, e3⟩ := callW_ok e
  refine ha b0 B Z0 Z H σ ρ os ρ' _ ok e1 fun vs H1 Z1 ok1 s1 r1 => ?_
  have ra := valA_ok r1 e2
  have rg : RpA K Z1 (g vs) (g ds) := RpA.of_paired (hg ra.paired)
  refine ⟨by rw [ra.length]; exact hm, by rw [rg.length]; exact hF _ _ e3, Z1, g ds, d, ok1.zh, rg, e3, fun v H' Z' hh g r => ?_⟩
  exact q v H' Z' (ok1.grow hh g) (s1.trans g.1) r
theorem df_callW {m np : Nat} {F : List D → Option (List D)} {g : {α : Type} → List α → List α} {ga : GA} {E : XK} (hg : ∀ {A C : Type} {rel : A → C → Prop} {zs : List A} {ws : List C}, Paired rel zs ws → Paired rel (g zs) (g ws)) (hF : ∀ ds d, F ds = some d → ds.length = np) (ha : DA K tks ga) : DF K (tCallW (spF K np F) m g E tks) (eCallW F m g ga) := fun b0 B Z0 Z H σ ρ d ρ' Q ok e q => by
  obtain ⟨os, ds, e1, e2, hm, e3⟩ := callW_ok e
  refine ha b0 B Z0 Z H σ ρ os ρ' _ ok e1 fun vs H1 Z1 ok1 s1 r1 => ?_
  have ra := valA_ok r1 e2
  have rg : RpA K Z1 (g vs) (g ds) := RpA.of_paired (hg ra.paired)
  refine ⟨by rw [ra.length]; exact hm, by rw [rg.length]; exact hF _ _ e3, Z1, g ds, d, ok1.zh, rg, e3, fun p ws H' Z' hh g hp zp hp' r => ?_⟩
  refine q p ws H' Z' (ok1.grow hh g) (s1.trans g.1) zp (ok1.bh.free hp) (fun i es hi hq => ?_) hp' r
  obtain ⟨q', vs', f1, _, _, f4, _⟩ := ok1.ow i es hi
  rw [f1] at hq
  cases hq
  rw [hp] at f4
  cases f4
/-- one keyword for one parameter: nothing to put in order -/
theorem kw_id {A C : Type} {rel : A → C → Prop} {zs : List A} {ws : List C} (h : Paired rel zs ws) : Paired rel (id zs) (id ws) := h
/-! ### a def whose mirror says nothing -/
theorem fn_noneP {P : Program} {w : World} {mg : Str → Option Value} {base : Heap} {k np : Nat} {f : Addr} {fd : FuncData} {ps : List Str} (h : ps.length = np) : FnOk P w K mg base CX0 k f fd ps (spP K np fun _ => none) :=
  ⟨fun vs H Q E q => q.1.trans h.symm, fun A outer s H args us vs Q E hr he hb hv hs => by
    obtain ⟨_, Z, ds, d, _, _, e, _⟩ := hs
    cases e⟩
theorem fn_noneB {P : Program} {w : World} {mg : Str → Option Value} {base : Heap} {k np : Nat} {f : Addr} {fd : FuncData} {ps : List Str} (h : ps.length = np) : FnOk P w K mg base CX0 k f fd ps (spB K np fun _ _ => none) :=
  ⟨fun vs H Q E q => q.1.trans h.symm, fun A outer s H args us vs Q E hr he hb hv hs => by
    obtain ⟨_, Z, b, vb, box, rest, ds, d, box', _, _, _, _, _, _, e, _⟩ := hs
    cases e⟩
end
end DL

namespace DL
open PySem PySem.Spec PyProof.Rows L2
/-! ### defs that ask that no repr runs around them -/
structure FnG (P : Program) (w : World) (K : PySem.W.Frag) (mg : Str → Option Value) (base : Heap) (k : Nat) (f : Addr) (fd : FuncData) (ps : List Str) (sp : Sp) : Prop where
  len : ∀ vs H Q E, sp vs H Q E → vs.length = ps.length
  run : ∀ (A : Around) (out : List PySem.Env) (t : Shared) (H : Hp) (ar : Args) (us : List Value) (vs : List V) (Q : VK) (E : XK), Room k A → A.guards = some [] → Env0 P w K mg base A out t H → BindsTo t fd ar (ps.zip us) → Vals vs us → sp vs H Q E →
    codeAny (model P w) A (.call (.ref f) ar) (CR CX0 out P w H t Q E) t
section
variable {P : Program} {w : World} {K : PySem.W.Frag} {mg : Str → Option Value} {base : Heap} {X : Cx}
theorem FnG.of {k : Nat} {f : Addr} {fd : FuncData} {ps : List Str} {sp : Sp} (F : FnOk P w K mg base CX0 k f fd ps sp) : FnG P w K mg base k f fd ps sp :=
  ⟨F.len, fun A out t H ar us vs Q E hr _ e b r h => F.run A out t H ar us vs Q E hr e b r h⟩
theorem FnG.mono {j k : Nat} {f : Addr} {fd : FuncData} {ps : List Str} {sp : Sp} (F : FnG P w K mg base j f fd ps sp) (h : j ≤ k) : FnG P w K mg base k f fd ps sp :=
  ⟨F.len, fun A out t H ar us vs Q E hr => F.run A out t H ar us vs Q E (hr.mono h)⟩
theorem fun_okG {x qual : Str} {st : Stmt} {f : Addr} {fd : FuncData} {N ps : List Str} {k : Nat} {sp : Sp} (F : Fun K x qual st f fd) (S : FnScope N ps (defScope st)) (ln : ∀ vs H Q E, sp vs H Q E → vs.length = ps.length)
    (body : ∀ (cv : Value) (A : Around) (out : List PySem.Env) (t : Shared) (H : Hp) (vs : List V) (Q : VK) (E : XK), Room k (A.deeper (envOfC qual (defScope st) t.heap.objs.size f cv)) → A.guards = some [] → sp vs H Q E →
      ∃ rd, PSs (cxOf CX0 P w K mg base N qual (defScope st) f cv A out t H E).nox (defBody st) rd ∧ rd { nx := fun _ H' => Q .non H', rt := Q } (L2.start N vs) H) : FnG P w K mg base (k + 1) f fd ps sp := by
  obtain ⟨oc, od, kV, doc, pm, an, cv, ct, osl, rfl, lk, hcd⟩ := F.ex
  refine ⟨ln, fun A out t H ar us vs Q E hr hg e0 hb r hs => ?_⟩
  have hl := ln _ _ _ _ hs
  have kp : ∀ b o, base.get? b = some o → t.heap.get? b = some o := fun b o e => (e0.bs b o e).1
  have KX : K.In t.heap := e0.mod.kin.keeps kp
  have lim : t.heap.NoLimit := e0.mod.nolimit.keeps kp
  refine codeAny_call_function hr.depth (KX _ _ lk) rfl S.co S.gen rfl (PySem.W.codeRec_of KX hcd) (hb _ _ _ _ ?_)
  refine wpAny_newFunctionEnv_cells S.kind (fun y hy => ?_) fun env he t1 x => ?_
  · obtain ⟨n, v⟩ := y
    exact (S.par n (List.of_mem_zip hy).1).imp id fun q => ⟨q, PySem.W.cellsFrom_some _ _ _ (.inl q)⟩
  · subst he
    refine ⟨lim.keeps x.toInCall.keep, codeAny_func ?_⟩
    obtain ⟨rd, ht, hq⟩ := body cv A out t H vs Q E (hr.deeper _) hg hs
    have I : L2.Inv (cxOf CX0 P w K mg base N qual (defScope st) f cv A out t H E) [] (L2.start N vs) H t1 := inv_start S hr.hd e0 hl r x
    refine wpAny_mono (ht.nox.run [] t1 (L2.start N vs) H _ I hq) (fun fl t' hs => ?_) fun e t' hs => hs
    have fin : ∀ {σ' : L2.St} {H' : Hp} {v : V} {u : Value}, L2.Inv (cxOf CX0 P w K mg base N qual (defScope st) f cv A out t H E) [] σ' H' t' → RelV v u → Q v H' → CE out P w H t Q u t' :=
      fun {σ' H' v u} J rv z => ⟨v, H', J.os, J.bare, J.base, J.hok, rv, z⟩
    cases fl with
    | ret u => obtain ⟨v, σ', H', J, rv, z⟩ := hs; exact fin J rv z
    | next => obtain ⟨σ', H', J, z⟩ := hs; exact fin (v := V.non) (u := Value.none) J rfl z
    | brk => obtain ⟨_, _, _, z⟩ := hs; exact z.elim
    | cont => obtain ⟨_, _, _, z⟩ := hs; exact z.elim
theorem pe_callG {k : Nat} {f : Addr} {fd : FuncData} {ps : List Str} {sp : Sp} {E : XK} {x : Str} {p pos : Pos} {e : Expr} {es : List Expr} {t : TA} (F : FnG X.prog X.w X.K X.mg X.base k f fd ps sp) (hr : Room k X.A) (gd : X.A.guards = some []) (hg : Gl X x) (hm : X.mg x = some (.ref f)) (hk : PySem.W.keepIn X.K (.ref f) = true) (hb : Binds X.K fd ps [])
    (ha : PA X (e :: es) t) (c1 : (x == ("__debug__" : Str)) = false := by decide) (c2 : starEach (e :: es) X.env = (false, eval e X.env) :: starEach es X.env := by rfl) (c3 : (backTo pos (starEach es X.env)).any (·.1) = false := by rfl) :
    PE X (.Call (.Name x p) (e :: es) [] pos) (tCall sp [] E t) := by
  refine ⟨fun pins s σ H Q I h => wpAny_Call_Name_kw (ld_glob I hg hm ?_ c1)⟩
  refine PySem.W.callWith_K (h₀ := X.base) I.ok.mod.kin hk (thn (ha.run pos pins s σ H _ I h) fun us s1 ⟨vs, H1, I1, r, z⟩ => ⟨I1.kIn, ?_⟩) c2 c3
  have z' : sp vs H1 Q E := by
    have y : sp (vs ++ []) H1 Q E := z
    rw [List.append_nil] at y
    exact y
  have hl : (us ++ []).length = ps.length := by rw [List.append_nil, ← r.length]; exact F.len _ _ _ _ z'
  have b1 := hb s1 us I1.kIn hl
  rw [List.append_nil] at b1
  refine wpAny_call (codeAny_mono (F.run X.A X.stack s1 H1 ⟨us, []⟩ us vs Q E hr gd I1.env0 b1 r z') fun rr s' hq => ?_)
  cases rr with
  | error e => exact hq.elim
  | ok fl => cases fl <;> first | exact I1.after hq | exact hq.elim
/-! ### the law's own call -/
theorem law_runG {mb : Str → Option Value} {k : Nat} {fa a : Addr} {fd : FuncData} {x : Str} {sp : Sp} {t : Shared} {vs : List Value} {ns : List Int}
    (KX : K.In t.heap) (g1 : t.heap.Ns mainGlobals mg) (g2 : t.heap.Ns builtinsNs mb) (g3 : ∀ x : Str, x ≠ "__name__" → mb x = bootBuiltins x) (g4 : t.heap.NoLimit) (g5 : t.gens = #[])
    (ha : t.heap.get? a = some { cls := .type "list", data := .seq vs.toArray }) (hi : IntsAre vs ns) (hl : ns.length ≤ sizeLine) (hr : Room k callerA)
    (F : ∀ base : Heap, K.In base → base.Ns mainGlobals mg → FnG P w K mg base k fa fd [x] sp) (bd : ∀ (s : Shared) (u : Value), BindsTo s fd ⟨[u], []⟩ [(x, u)])
    (hsp : ∀ H : Hp, Only H → SqL K H a (ns.map V.int) → sp [.ref a] H (fun v _ => v = .bl true) fun _ _ _ => False) :
    codeAny (model P w) callerA (.call (.ref fa) ⟨[.ref a], []⟩) (fun r s' => r = .ok (.ret (.bool true)) ∧ OldK t.heap s'.heap ∧ s'.os = t.os ∧ AllBare s'.gens) t := by
  have rv := vals_ints hi
  have lv := hi.length
  have main : ∀ H : Hp, Only H → SqL K H a (ns.map V.int) → HOk P w H t.heap → (∀ b u, H b = some u → b = a ∧ K.lookup a = none) →
      codeAny (model P w) callerA (.call (.ref fa) ⟨[.ref a], []⟩) (fun r s' => r = .ok (.ret (.bool true)) ∧ OldK t.heap s'.heap ∧ s'.os = t.os ∧ AllBare s'.gens) t := by
    intro H hO hS hok hA
    have hid : ∀ {b : Addr} {o : Obj}, t.heap.get? b = some o → H b = none → (hidT t.heap H).get? b = some o := fun e n => hidT_get e n
    have noD : ∀ {b : Addr} {o : Obj} {es : Array DictEntry} {ep : Nat}, t.heap.get? b = some o → o.data = .dict es ep → H b = none := fun {b o es ep} e d => by
      cases z : H b with
      | none => rfl
      | some u =>
        have y := (hA b u z).1
        rw [y, ha] at e
        injection e with e
        rw [← e] at d
        cases d
    have ns1 : ∀ {b : Addr} {m : Str → Option Value}, t.heap.Ns b m → (hidT t.heap H).Ns b m := fun {b m} ⟨o, es, ep, e, d, r⟩ => ⟨o, es, ep, hid e (noD e d), d, r⟩
    have kb : K.In (hidT t.heap H) := fun b o e => hid (KX b o e) (by
      cases z : H b with
      | none => rfl
      | some u =>
        obtain ⟨y1, y2⟩ := hA b u z
        rw [y1, y2] at e
        cases e)
    obtain ⟨mc, l1, l2⟩ := g4
    have md : Mod K mg (hidT t.heap H) := ⟨kb, ns1 g1, ⟨mb, ns1 g2, g3⟩, ⟨mc, ns1 l1, l2⟩⟩
    have e0 : Env0 P w K mg (hidT t.heap H) callerA [] t H := ⟨rfl, md, fun b o e => of_hidT e, Nat.le_of_eq (hidT_size _ _), trivial, (fun b hb => nomatch hb), hok, .of_eq g5⟩
    refine codeAny_mono ((F _ kb (ns1 g1)).run callerA [] t H ⟨[.ref a], []⟩ [.ref a] [.ref a] _ _ hr rfl e0 (bd t (.ref a)) (.cons rfl .nil) (hsp H hO hS)) fun r s' h => ?_
    cases r with
    | error e => exact h.elim
    | ok fl =>
      cases fl with
      | next => exact h.elim
      | brk => exact h.elim
      | cont => exact h.elim
      | ret u =>
        obtain ⟨v, H', os, bare, un, hok', rr, z⟩ := h
        cases (show v = .bl true from z)
        cases (show u = Value.bool true from rr)
        refine ⟨rfl, OldK.of_keep fun b o e => ?_, os, bare⟩
        cases y : H b with
        | none => exact un.keep b o e y (fun c => nomatch c) (fun c => nomatch c)
        | some u =>
          rcases hO b with c | ⟨ob, xs, c⟩
          · rw [y] at c; cases c
          · obtain ⟨d1, _⟩ := hok b _ c
            obtain ⟨d2, _⟩ := hok' b _ (un.frzs b ob _ c)
            rw [e] at d1
            cases d1
            exact d2
  cases hk : K.lookup a with
  | some o =>
    have e := KX a o hk
    rw [ha] at e
    cases e
    exact main (fun _ => none) (fun _ => .inl rfl) (.inr ⟨_, vs.toArray, _, hk, rfl, rfl, rfl, by rw [List.size_toArray, lv]; exact hl, by simpa using rv⟩) (fun b u c => nomatch c) (fun b u c => nomatch c)
  | none =>
    have ev : ∀ {b : Addr} {u : HO}, (if b = a then some (HO.frz { cls := .type "list", data := .seq vs.toArray } (.lst (ns.map V.int))) else none) = some u → b = a ∧ u = HO.frz { cls := .type "list", data := .seq vs.toArray } (.lst (ns.map V.int)) := fun {b u} c => by
      split at c
      · cases c; exact ⟨by assumption, rfl⟩
      · cases c
    refine main (fun b => if b = a then some (.frz { cls := .type "list", data := .seq vs.toArray } (.lst (ns.map V.int))) else none) (fun b => ?_) (.inl (.inr ⟨_, if_pos rfl⟩)) (fun b u c => ?_) fun b u c => ⟨(ev c).1, hk⟩
    · by_cases hb : b = a
      · exact .inr ⟨_, _, if_pos hb⟩
      · exact .inl (if_neg hb)
    · obtain ⟨rfl, rfl⟩ := ev c
      exact ⟨ha, by rw [List.length_map]; exact hl, vs, _, rv, ha⟩
end
theorem walk_G {l : PySem.W.OpenLaw} {n k : Nat} {q : Program} {loose : List Str} {XP : (Str → Option Value) → Heap → Prop} {YP : World → Heap → Prop} {d : DefRec} {K : Params → PySem.W.Frag} {sp : World → Sp} {x : Str}
    (hn : l.most = some n) (hn2 : n ≤ sizeLine) (hdf : d.params.defaults = []) (hr : Room k callerA) (hY : ∀ (w : World) (h : Heap), YP w h → (K w.params).In h)
    (F : ∀ (w : World) (mg : Str → Option Value) (fa : Addr) (h : Heap), (K w.params).In h → h.Ns mainGlobals mg → mg d.name = some (.ref fa) →
      ∃ fd : FuncData, (∀ (s : Shared) (u : Value), BindsTo s fd ⟨[u], []⟩ [(x, u)]) ∧ ∀ base : Heap, (K w.params).In base → base.Ns mainGlobals mg → FnG l.prog w (K w.params) mg base k fa fd [x] (sp w))
    (hsp : ∀ (w : World) (H : Hp) (a : Addr) (ns : List Int), ns.length ≤ n → Only H → SqL (K w.params) H a (ns.map V.int) → sp w [.ref a] H (fun v _ => v = .bl true) fun _ _ _ => False) :
    PySem.W.WalkO q loose XP YP l.row.toRowW d [] (fun f vs => PySem.call f vs) := by
  refine Att.attach_call hn hdf fun w t0 t mg mb fa o pm cd doc a vs ns G Y ho hd hcd hmg hobj hints hlen hg => ?_
  have KX := hY w _ Y
  obtain ⟨fd, hb, hF⟩ := F w mg fa _ KX G.T.g hmg
  exact law_runG KX G.T.g G.T.b G.T.builtins G.T.nolimit hg hobj hints (Nat.le_trans hlen hn2) hr hF hb fun H hO hS => hsp w H a ns hlen hO hS
/-! ### repr of lists and tuples -/
section
variable {X : Cx} {K : PySem.W.Frag}
def isSq : D → Bool
  | .list _ => true
  | .tuple _ => true
  | _ => false
def rRepr (K : PySem.W.Frag) : List V → Hp → VK → Prop := fun xs H Q => ∃ x d, xs = [x] ∧ Dp K H x d ∧ isSq d = true ∧ d.showable = true ∧ d.hasDict = false ∧ d.depth ≤ 30 ∧ d.shown.length ≤ sizeLine ∧ Q (.str d.shown) H
theorem cr_repr {k : Nat} (gd : X.A.guards = some []) (hr : Room k X.A) : CallR X (.builtin "repr") (rRepr X.K) := by
  intro pins s σ H xs us Q I rx h
  obtain ⟨x, d, rfl, hd, sq, sh, nod, dp, sz, z⟩ := h
  cases rx with
  | cons r rr =>
  cases rr
  obtain ⟨as, rd⟩ := Dp.reads I d x _ hd r
  have hu := hr.un
  cases hd with
  | non => cases sq
  | bl => cases sq
  | int => cases sq
  | str => cases sq
  | lst h ra =>
    cases r
    exact repr_of_reads' rd sh (PyData.noDict_hsm nod) gd (by omega) (fun b o e => e) (fun h' u tk hk => ⟨.str _, H, I.kept (t' := tk) hk, ⟨_, rfl⟩, z⟩) sz
  | tup h ra =>
    cases r
    exact repr_of_reads' rd sh (PyData.noDict_hsm nod) gd (by omega) (fun b o e => e) (fun h' u tk hk => ⟨.str _, H, I.kept (t' := tk) hk, ⟨_, rfl⟩, z⟩) sz
def reprD : List D → Option D
  | [d] => if isSq d = true ∧ d.showable = true ∧ d.hasDict = false ∧ d.depth ≤ 30 ∧ d.shown.length ≤ sizeLine then some (.str d.shown) else none
  | _ => none
mutual
theorem noD_hd : ∀ d : D, d.hasDict = false → noD d = true
  | .none, _ => by simp [noD]
  | .bool _, _ => by simp [noD]
  | .int _, _ => by simp [noD]
  | .str _, _ => by simp [noD]
  | .list xs, h => by
    simp only [noD]
    exact noDs_hd xs (by simpa [PyData.hasDict] using h)
  | .tuple xs, h => by
    simp only [noD]
    exact noDs_hd xs (by simpa [PyData.hasDict] using h)
  | .dict _, h => by simp [PyData.hasDict] at h
theorem noDs_hd : ∀ xs : List D, PyData.hasDictAll xs = false → noDs xs = true
  | [], _ => by simp [noDs]
  | x :: xs, h => by
    have h' : x.hasDict = false ∧ PyData.hasDictAll xs = false := by simpa [PyData.hasDictAll] using h
    simp only [noDs, noD_hd x h'.1, noDs_hd xs h'.2, Bool.and_self]
end
theorem sn_repr : SnA K (rRepr K) reprD := fun b0 B Z0 Z H σ ρ xs as c Q ok ha e q => by
  unfold reprD at e
  split at e
  · split at e
    · rename_i hc
      obtain ⟨h1, h2, h3, h4, h5⟩ := hc
      cases e
      cases ha with
      | cons h h' =>
      cases h'
      exact ⟨_, _, rfl, (bd_rp ok.zh h).dp (noD_hd _ h3), h1, h2, h3, h4, h5, q _ H Z ok (Same.refl Z) (.str _)⟩
    · cases e
  · cases e
/-! ### list(range(..)), tuple(range(..)) -/
def rg2 (a b : D) : Option (List D) := match a, b with
  | .int i, .int j => if -(2 ^ 62) ≤ i ∧ i < 2 ^ 62 ∧ -(2 ^ 62) ≤ j ∧ j < 2 ^ 62 ∧ (j - i).toNat ≤ 2 ^ 24 then some (rangeD i (j - i).toNat) else none
  | _, _ => none
def eRg2 (a b : GE) (ρ : Rho) : R (List D) := (a ρ).bind fun x ρ1 => (b ρ1).bind fun y ρ2 => R.lift (rg2 x y) ρ2
def eRg1 (a : GE) (ρ : Rho) : R (List D) := (a ρ).bind fun x ρ1 => R.lift (rg2 (.int 0) x) ρ1
theorem rgV_rp {Z : Hp} (i j : Int) : RpA K Z (rgV i j) (rangeD i (j - i).toNat) := by
  unfold rgV rangeD
  generalize List.range (j - i).toNat = l
  induction l with
  | nil => exact .nil
  | cons n r ih => exact .cons (.int _) ih
theorem rg2_ok {x y : D} {ds : List D} (h : rg2 x y = some ds) : ∃ i j, x = .int i ∧ y = .int j ∧ RgOk i j ∧ ds = rangeD i (j - i).toNat := by
  unfold rg2 at h
  split at h
  · split at h
    · cases h; exact ⟨_, _, rfl, rfl, by assumption, rfl⟩
    · cases h
  · cases h
variable {ta tb : TE}
theorem df_listRg2 {a b : GE} (ha : DE K ta a) (hb : DE K tb b) : DF K (tLstRg (tRg2 ta tb)) (eRg2 a b) := fun b0 B Z0 Z H σ ρ d ρ' Q ok e q => by
  obtain ⟨x, ρ1, e1, e⟩ := R.bind_ok e
  obtain ⟨y, ρ2, e2, e⟩ := R.bind_ok e
  obtain ⟨e3, rfl⟩ := R.lift_ok e
  obtain ⟨i, j, rfl, rfl, ro, rfl⟩ := rg2_ok e3
  refine ha b0 B Z0 Z H σ ρ _ ρ1 _ ok e1 fun v H1 Z1 ok1 s1 r1 => ?_
  refine hb b0 B Z0 Z1 H1 σ ρ1 _ ρ2 _ ok1 e2 fun u H2 Z2 ok2 s2 r2 => ?_
  cases r1; cases r2
  refine ⟨i, j, rfl, rfl, ro, fun p hp => ?_⟩
  obtain ⟨ok3, zp, bp, ap⟩ := ok2.fresh (o := .lst (rgV i j)) hp
  exact q p _ _ Z2 ok3 (s1.trans s2) zp bp ap upd_same (rgV_rp i j)
theorem df_listRg1 {a : GE} (ha : DE K ta a) : DF K (tLstRg (tRg1 ta)) (eRg1 a) := fun b0 B Z0 Z H σ ρ d ρ' Q ok e q => by
  obtain ⟨x, ρ1, e1, e⟩ := R.bind_ok e
  obtain ⟨e3, rfl⟩ := R.lift_ok e
  obtain ⟨i, j, e4, rfl, ro, rfl⟩ := rg2_ok e3
  cases e4
  refine ha b0 B Z0 Z H σ ρ _ ρ1 _ ok e1 fun v H1 Z1 ok1 s1 r1 => ?_
  cases r1
  refine ⟨j, rfl, ro, fun p hp => ?_⟩
  obtain ⟨ok3, zp, bp, ap⟩ := ok1.fresh (o := .lst (rgV 0 j)) hp
  exact q p _ _ Z1 ok3 s1 zp bp ap upd_same (rgV_rp 0 j)
theorem de_tupRg2 {a b : GE} (ha : DE K ta a) (hb : DE K tb b) : DE K (tTupRg (tRg2 ta tb)) (eT (eRg2 a b)) := fun b0 B Z0 Z H σ ρ d ρ' Q ok e q => by
  obtain ⟨ds, e0, rfl⟩ := R.map_ok e
  obtain ⟨x, ρ1, e1, e⟩ := R.bind_ok e0
  obtain ⟨y, ρ2, e2, e⟩ := R.bind_ok e
  obtain ⟨e3, rfl⟩ := R.lift_ok e
  obtain ⟨i, j, rfl, rfl, ro, rfl⟩ := rg2_ok e3
  refine ha b0 B Z0 Z H σ ρ _ ρ1 _ ok e1 fun v H1 Z1 ok1 s1 r1 => ?_
  refine hb b0 B Z0 Z1 H1 σ ρ1 _ ρ2 _ ok1 e2 fun u H2 Z2 ok2 s2 r2 => ?_
  cases r1; cases r2
  refine ⟨i, j, rfl, rfl, ro, fun p hp => ?_⟩
  obtain ⟨ok3, s3⟩ := ok2.new (o := .tup (rgV i j)) hp
  exact q _ _ _ ok3 ((s1.trans s2).trans s3) (.tup (.inl (.inl upd_same)) ((rgV_rp i j).mono s3))
end
end DL

namespace DL
open PySem PySem.Spec PyProof.Rows L2
open AutoSeq1 (wpAny_loadPart')
/-! ### a tuple times 0 or 1 -/
theorem tup_mul1 (l : Addr) (its : Array Value) (n : Nat) (dd : Option Addr) (sl : Array (Option Value)) (u : Tok) :
    Meets (Builtin.«tuple.__mul__» ⟨[.ref l, .int 1 u], []⟩) (fun _ R s => s.heap.get? l = some { cls := .type "tuple", dict := dd, data := .seq its n, slots := sl } ∧ R (.ok (.ret (Value.ref l))) s) :=
  .of_wp fun prog w A R s h => by
    obtain ⟨hp, g, d, tk, os⟩ := s
    obtain ⟨hl, h⟩ := h
    have f1 := AutoSeq1.idx_int
    have c : (its.isEmpty || (1 : Int) == 1) = true := by cases its.isEmpty <;> rfl
    wp_walk using wpAny_loadPart' hl
    exact ⟨_, rfl, h⟩
theorem tup_mul0 (l : Addr) (its : Array Value) (n : Nat) (dd : Option Addr) (sl : Array (Option Value)) (u : Tok) (c : its.isEmpty = false) :
    Meets (Builtin.«tuple.__mul__» ⟨[.ref l, .int 0 u], []⟩) (fun _ R s => s.heap.get? l = some { cls := .type "tuple", dict := dd, data := .seq its n, slots := sl } ∧ R (.ok (.ret (Value.ref s.heap.objs.size))) { s with heap := s.heap.push { cls := Value.type "tuple", data := Data.seq #[] } }) :=
  .of_wp fun prog w A R s h => by
    obtain ⟨hp, g, d, tk, os⟩ := s
    obtain ⟨hl, h⟩ := h
    have f1 := AutoSeq1.idx_int
    have c1 : (its.isEmpty || (0 : Int) == 1) = false := by rw [c]; rfl
    have c2 : (decide ((0 : Int) ≤ 0) || its.isEmpty) = true := rfl
    wp_walk using wpAny_loadPart' hl
    exact ⟨_, rfl, h⟩
section
variable {X : Cx} {K : PySem.W.Frag}
def rRepT01 (K : PySem.W.Frag) : R2 := fun x y H Q => ∃ l k xs, x = .ref l ∧ y = .int k ∧ SqT K H l xs ∧ xs ≠ [] ∧ ((k = 0 ∧ ∀ p, H p = none → Q (.ref p) (upd H p (.tup []))) ∨ (k = 1 ∧ Q (.ref l) H))
theorem op_repT01 : OpR X (binaryOp .Mult) (rRepT01 X.K) := by
  intro pins s σ H x y v u Q I rx ry h
  obtain ⟨l, k, xs, rfl, rfl, hT, hne, h⟩ := h
  cases rx
  obtain ⟨t, rfl⟩ := ry
  obtain ⟨its, r, ⟨⟨cls, dd, data, sl⟩, ho, hc, n, hd⟩, hs⟩ := I.tuple hT
  simp only at hc hd
  subst hc hd
  have hi : its.toArray.isEmpty = false := by
    cases its with
    | nil => exact absurd (List.eq_nil_of_length_eq_zero (by rw [r.length]; rfl)) hne
    | cons a b => rfl
  refine wpAny_binaryOp_repeat_ref (T := "tuple") (U := "int") (by decide) ⟨_, ho, rfl⟩ (fun s' => typeIs_int s' k t) noFill_tuple_mul F.fills_int_mul F.slot_int_rmul repeat_tuple F.slot_int_index.lookup ?_
  refine call_meets F.slot_int_rmul (typeIs_int s k t) F.entry_int_rmul (F.args_int_rmul_2 _ _) (int_rmul_tuple k t l its.toArray n dd sl) ⟨ho, rfl, ⟨_, ho, rfl⟩, ?_⟩
  rcases h with ⟨rfl, q⟩ | ⟨rfl, q⟩
  · refine call_meets F.slot_tuple_mul ⟨_, ho, rfl⟩ F.entry_tuple_mul (F.args_tuple_mul_2 _ _) (tup_mul0 l its.toArray n dd sl t hi) ⟨ho, ?_⟩
    exact ⟨.ref s.heap.objs.size, _, I.laid (t' := s.toks) (o := .tup []) (fun b ob q => Heap.get?_push_of_some _ q) (Nat.le_refl _) ⟨Nat.zero_le _, [], .nil, IsTup.new _ _⟩, rfl, q _ (I.hok.fresh (Nat.le_refl _))⟩
  · refine call_meets F.slot_tuple_mul ⟨_, ho, rfl⟩ F.entry_tuple_mul (F.args_tuple_mul_2 _ _) (tup_mul1 l its.toArray n dd sl t) ⟨ho, ?_⟩
    exact ⟨.ref l, H, I, rfl, q⟩
/-- * : ints, a list or a tuple times an int -/
def rMulT (K : PySem.W.Frag) : R2 := fun x y H Q => rMulU x y H Q ∨ rRepT K x y H Q ∨ rRepT01 K x y H Q
theorem op_mulT : OpR X (binaryOp .Mult) (rMulT X.K) := opr_or op_mulU (opr_or op_repT op_repT01)
def repT : D → D → Option D
  | .tuple xs, .int k => if 0 ≤ k ∧ k ≤ 1000 ∧ xs.length ≤ 1000 ∧ xs ≠ [] then some (.tuple (List.replicate k.toNat xs).flatten) else none
  | _, _ => none
theorem sn_repT : Sn2 K (rMulT K) repT := fun b0 B Z0 Z H σ ρ x y a b c Q ok ha hb e q => by
  unfold repT at e
  split at e
  · split at e
    · rename_i hl
      obtain ⟨h0, h1, h2, h3⟩ := hl
      cases e
      cases hb
      cases ha with
      | tup hs ra =>
      have hne : ∀ {vs : List V} {ds : List D}, RpA K Z vs ds → ds ≠ [] → vs ≠ [] := fun r n z => by
        subst z
        cases r
        exact n rfl
      rename_i k _ _
      by_cases k0 : k = 0
      · subst k0
        refine .inr (.inr ⟨_, _, _, rfl, rfl, same_t ok.zh hs, hne ra h3, .inl ⟨rfl, fun p hp => ?_⟩⟩)
        obtain ⟨ok2, s2⟩ := ok.new (o := .tup []) hp
        exact q _ _ _ ok2 s2 (.tup (.inl (.inl upd_same)) .nil)
      · by_cases k1 : k = 1
        · subst k1
          refine .inr (.inr ⟨_, _, _, rfl, rfl, same_t ok.zh hs, hne ra h3, .inr ⟨rfl, q _ H Z ok (Same.refl Z) ?_⟩⟩)
          have := flat_rep ra 1
          rw [show (List.replicate 1 _).flatten = _ from List.append_nil _] at this
          exact .tup hs this
        · refine .inr (.inl ⟨_, _, _, rfl, rfl, same_t ok.zh hs, hne ra h3, by omega, h1, by rw [ra.length]; exact h2, fun p hp => ?_⟩)
          obtain ⟨ok2, s2⟩ := ok.new (o := .tup _) hp
          exact q _ _ _ ok2 s2 (.tup (.inl (.inl upd_same)) ((flat_rep ra _).mono s2))
    · cases e
  · cases e
def mulV (a b : D) : Option D := (mulU a b).orElse fun _ => repT a b
theorem sn_mulV : Sn2 K (rMulT K) mulV := sn2_or (sn2_mono sn_mulU fun _ _ _ _ h => .inl h) sn_repT
theorem sn_repLT : Sn2F K (rMulT K) repL := fun b0 B Z0 Z H σ ρ x y a b c Q ok ha hb e q => .inl (sn_repL b0 B Z0 Z H σ ρ x y a b c Q ok ha hb e q)
variable {te : TE} {tas : TA}
/-! ### a call whose changed list is new and goes away -/
def eCallBX (F : List D → List D → Option (D × List D)) (g0 : GF) (ga : GA) (ρ : Rho) : R D := (g0 ρ).bind fun box ρ1 => (ga ρ1).bind fun os ρ2 => match valA os with
  | some ds => (match F box ds with
    | some (d, _) => .ok d ρ2
    | none => .bad)
  | none => .bad
theorem de_callBX {np : Nat} {F : List D → List D → Option (D × List D)} {g0 : GF} {ga : GA} {E : XK} (hF0 : ∀ b ds d, F b ds = some d → ds.length + 1 = np) (h0 : DF K te g0) (ha : DA K tas ga) : DE K (tCall (spB K np F) [] E (tCons te tas)) (eCallBX F g0 ga) := fun b0 B Z0 Z H σ ρ d ρ' Q ok e q => by
  obtain ⟨box, ρ1, e1, e⟩ := R.bind_ok e
  obtain ⟨os, ρ2, e2, e⟩ := R.bind_ok e
  split at e
  · rename_i ds hv
    split at e
    · rename_i d' box' hF
      cases e
      refine h0 b0 B Z0 Z H σ ρ box ρ1 _ ok e1 fun p vb H1 Z1 ok1 s1 zp bp ap hp rb => ?_
      refine ha b0 (upd B p (.lst vb)) Z0 Z1 H1 σ ρ1 os ρ' _ (ok1.frame zp ap hp) e2 fun vs H2 Z2 ok2 s2 r2 => ?_
      obtain ⟨ok3, zp3, ap3, hp3⟩ := ok2.unframe (ok1.zz.free zp) bp
      have rA := valA_ok r2 hv
      refine ⟨by rw [List.append_nil, List.length_cons, rA.length]; exact hF0 _ _ _ hF, Z2, p, vb, box, vs, ds, d, box', by rw [List.append_nil], ok3.zh, zp3, hp3, rb.mono s2, rA, hF, fun v H' Z' vb' hh g zb hb' rb' r => ?_⟩
      refine q v H' Z' ⟨ok3.len, fun c o e => hh c o (ne_of_none e bp) (ok3.bh c o e), g.2.1, ok3.zz.trans g.1, fun c o e => ?_, fun i d e => ?_, fun i es e => ?_, ok3.fix, ok3.sep⟩ ((s1.trans s2).trans g.1) r
      · rcases g.2.2 c o e with z | z
        · exact ok3.nb c o z
        · exact .inr (ok3.bh.free z)
      · obtain ⟨w, z1, z2⟩ := ok3.sh i d e
        exact ⟨w, z1, z2.mono g.1⟩
      · obtain ⟨c, ws, z1, z2, z3, z4, z5⟩ := ok3.ow i es e
        have nc : c ≠ p := fun z => ap3 i es e (by rw [z1, z])
        refine ⟨c, ws, z1, ?_, z3, hh _ _ nc z4, z5.mono g.1⟩
        cases y : Z' c with
        | none => rfl
        | some o =>
          rcases g.2.2 c o y with z | z
          · rw [z2] at z; cases z
          · rw [z4] at z; cases z
    · cases e
  · cases e
end
end DL

namespace DL
open PySem L2
/-! ### data's operators on ints -/
theorem addU_int (i j : Int) : addU (.int i) (.int j) = some (.int (i + j)) := rfl
theorem subD_int (i j : Int) : subD (.int i) (.int j) = some (.int (i - j)) := rfl
theorem mulD_of {i j : Int} (h : CMulU i j) : mulV (.int i) (.int j) = some (.int (i * j)) := by
  have e : mulD (.int i) (.int j) = some (.int (i * j)) := if_pos h
  unfold mulV mulU
  rw [e]; rfl
theorem cmul_l {i j : Int} (h : -(2 ^ 64) < i ∧ i < 2 ^ 64) : mulV (.int i) (.int j) = some (.int (i * j)) := mulD_of (.inl (.inl h))
theorem cmul_r {i j : Int} (h : -(2 ^ 64) < j ∧ j < 2 ^ 64) : mulV (.int i) (.int j) = some (.int (i * j)) := mulD_of (.inl (.inr h))
theorem cmul_w {i j : Int} (hi : i.natAbs < 2 ^ 400) (hj : j.natAbs < 2 ^ 400) : mulV (.int i) (.int j) = some (.int (i * j)) := mulD_of (.inr (wide_mul hi hj (by decide) (by decide) (by decide)))
theorem modD_int {i j : Int} (h : 0 < j) : modD (.int i) (.int j) = some (.int (i % j)) := if_pos h
theorem fdivD_int {i j : Int} (h : 0 < j) (h2 : j < 2 ^ 300) : fdivD (.int i) (.int j) = some (.int (i / j)) := by
  have q : j.natAbs.log2 < 9000 := by
    have : j.natAbs < 2 ^ 300 := by omega
    have h0 : j.natAbs ≠ 0 := by omega
    exact Nat.lt_of_lt_of_le ((Nat.log2_lt h0).mpr this) (by decide)
  exact if_pos ⟨h, q⟩
theorem powD_int {i j : Int} (h0 : 0 ≤ j) (h1 : j ≤ 1000000) (h : i.natAbs < 2 ^ 64) : powD (.int i) (.int j) = some (.int (i ^ j.toNat)) := if_pos ⟨h0, h1, h⟩
theorem ltD_int (i j : Int) : ltD (.int i) (.int j) = some (.bool (decide (i < j))) := rfl
theorem leD_int (i j : Int) : leD (.int i) (.int j) = some (.bool (decide (i ≤ j))) := rfl
theorem gtD_int (i j : Int) : gtD (.int i) (.int j) = some (.bool (decide (j < i))) := rfl
theorem geD_int (i j : Int) : geD (.int i) (.int j) = some (.bool (decide (j ≤ i))) := rfl
theorem negD_int (i : Int) : negD (.int i) = some (.int (-i)) := rfl
theorem absD_int (i : Int) : absD [.int i] = some (.int (if i < 0 then -i else i)) := rfl
theorem intD_bool (k : Bool) : intD [.bool k] = some (.int (if k then 1 else 0)) := rfl
theorem intD_int (i : Int) : intD [.int i] = some (.int i) := rfl
theorem lenD_list (xs : List D) : lenD [.list xs] = some (.int xs.length) := rfl
theorem lenD_tuple (xs : List D) : lenD [.tuple xs] = some (.int xs.length) := rfl
theorem lenD_scr (xs : List D) : lenD [.dict [(.list xs, .none)]] = some (.int xs.length) := rfl
theorem pow10_7 : powD (.int 10) (.int 7) = some (.int 10000000) := rfl
theorem pow10_18 : powD (.int 10) (.int 18) = some (.int 1000000000000000000) := rfl
theorem pow10_40 : powD (.int 10) (.int 40) = some (.int 10000000000000000000000000000000000000000) := rfl
theorem isD_none (d : D) : isD d .none = some (.bool (isNoneD d)) := by cases d <;> rfl
theorem isNotD_none (d : D) : isNotD d .none = some (.bool (!isNoneD d)) := by cases d <;> rfl
/-! shaped data -/
theorem shaped_int (i : Int) : SeqAt.shaped (.int i) = true := rfl
theorem shaped_bool (b : Bool) : SeqAt.shaped (.bool b) = true := rfl
theorem shaped_none : SeqAt.shaped .none = true := rfl
theorem eqv_int (i j : Int) : PyData.eqv (.int i) (.int j) = decide (i = j) := by
  unfold PyData.eqv
  by_cases h : i = j
  · rw [decide_eq_true h, h]; exact beq_self_eq_true j
  · rw [decide_eq_false h]; exact beq_eq_false_iff_ne.mpr h
theorem eqv_bool (i j : Bool) : PyData.eqv (.bool i) (.bool j) = decide (i = j) := by
  unfold PyData.eqv
  cases i <;> cases j <;> rfl
theorem eqv_none : PyData.eqv .none .none = true := by unfold PyData.eqv; rfl
theorem eqD_ints (i j : Int) : eqD (.int i) (.int j) = some (.bool (decide (i = j))) := by
  rw [← eqv_int]; exact if_pos ⟨shaped_int i, shaped_int j⟩
theorem neD_ints (i j : Int) : neD (.int i) (.int j) = some (.bool (!decide (i = j))) := by
  rw [← eqv_int]; exact if_pos ⟨shaped_int i, shaped_int j⟩
theorem eqD_bools (i j : Bool) : eqD (.bool i) (.bool j) = some (.bool (decide (i = j))) := by
  rw [← eqv_bool]; exact if_pos ⟨shaped_bool i, shaped_bool j⟩
theorem neD_bools (i j : Bool) : neD (.bool i) (.bool j) = some (.bool (!decide (i = j))) := by
  rw [← eqv_bool]; exact if_pos ⟨shaped_bool i, shaped_bool j⟩
theorem eqD_of {a b : D} (ha : SeqAt.shaped a = true) (hb : SeqAt.shaped b = true) : eqD a b = some (.bool (PyData.eqv a b)) := if_pos ⟨ha, hb⟩
theorem neD_of {a b : D} (ha : SeqAt.shaped a = true) (hb : SeqAt.shaped b = true) : neD a b = some (.bool (!PyData.eqv a b)) := if_pos ⟨ha, hb⟩
/-! x[i] -/
theorem atI_nat0 {α : Type} (x : α) (xs : List α) : atI (x :: xs) 0 = some x := atI_nat (j := 0) rfl
theorem ixD_list (xs : List D) (i : Int) : ixD (.list xs) (.int i) = atI xs i := by unfold ixD; rfl
theorem ixD_tuple (xs : List D) (i : Int) : ixD (.tuple xs) (.int i) = atI xs i := by unfold ixD; rfl
theorem ixD_scr (xs : List D) (i : Int) : ixD (.dict [(.list xs, .none)]) (.int i) = atI xs i := by unfold ixD; rfl
theorem atI_3_0 {α : Type} (a b c : α) : atI [a, b, c] 0 = some a := rfl
theorem atI_3_1 {α : Type} (a b c : α) : atI [a, b, c] 1 = some b := rfl
theorem atI_3_2 {α : Type} (a b c : α) : atI [a, b, c] 2 = some c := rfl
theorem ixN_3_0 : ixN 3 0 = some 0 := rfl
theorem ixN_3_1 : ixN 3 1 = some 1 := rfl
theorem ixN_3_2 : ixN 3 2 = some 2 := rfl
theorem atI_of {α : Type} {xs : List α} {i : Int} {n : Nat} {x : α} (hi : i = (n : Int)) (h : xs[n]? = some x) : atI xs i = some x := by
  subst hi
  exact atI_nat h
/-- the box: three ints -/
def GoodBox (n : Int) (box : List D) : Prop := ∃ a b c : Int, box = [.int a, .int b, .int c] ∧ 0 ≤ a ∧ 0 ≤ b ∧ b < 2 ^ 62 ∧ 0 ≤ c ∧ c ≤ n
theorem GoodBox.mono {n m : Int} {box : List D} (h : GoodBox n box) (hm : n ≤ m) : GoodBox m box := by
  obtain ⟨a, b, c, e, h1, h2, h3, h4, h5⟩ := h
  exact ⟨a, b, c, e, h1, h2, h3, h4, by omega⟩
/-! ### loops over data -/
theorem for_inv {k : GG} {b : GS} {ds : List D} (I : Nat → Rho → Prop) (step : ∀ i d ρ, ds[i]? = some d → I i ρ → ∃ ρ1, k d ρ = some ρ1 ∧ ∃ ρ2, (b ρ1 = .nx ρ2 ∨ b ρ1 = .ct ρ2) ∧ I (i + 1) ρ2) :
    ∀ {ρ : Rho}, I 0 ρ → ∃ ρ', forL k b ds ρ = .nx ρ' ∧ I ds.length ρ' := by
  have main : ∀ (es : List D) (j : Nat) (ρ : Rho), ds.drop j = es → I j ρ → ∃ ρ', forL k b es ρ = .nx ρ' ∧ I (j + es.length) ρ' := by
    intro es
    induction es with
    | nil => intro j ρ _ h; exact ⟨ρ, rfl, h⟩
    | cons d es ih =>
      intro j ρ hd h
      have hj : ds[j]? = some d := by
        have := congrArg List.head? hd
        rw [List.head?_drop] at this
        exact this
      have hd2 : ds.drop (j + 1) = es := by
        rw [← List.tail_drop, hd]; rfl
      obtain ⟨ρ1, e1, ρ2, e2, h2⟩ := step j d ρ hj h
      obtain ⟨ρ', e3, h3⟩ := ih (j + 1) ρ2 hd2 h2
      refine ⟨ρ', ?_, by rw [List.length_cons, show j + (es.length + 1) = j + 1 + es.length by omega]; exact h3⟩
      unfold forL
      rw [e1]
      rcases e2 with e2 | e2 <;> (dsimp only; rw [e2]; exact e3)
  intro ρ h
  obtain ⟨ρ', e, h'⟩ := main ds 0 ρ rfl h
  rw [Nat.zero_add] at h'
  exact ⟨ρ', e, h'⟩
theorem lc_inv {vs : List Nat} {k : GG} {t : GT} {e : GE} {ds : List D} (I : Nat → Rho → Prop) (Pd : D → D → Prop) (step : ∀ i d ρ, ds[i]? = some d → I i ρ → ∃ ρ1, k d ρ = some ρ1 ∧ ∃ ρ2, t ρ1 = .ok true ρ2 ∧ ∃ y ρ3, e ρ2 = .ok y ρ3 ∧ Pd d y ∧ I (i + 1) (wipeR ρ3 vs)) :
    ∀ {ρ : Rho}, I 0 ρ → ∃ ys ρ', lcL vs k t e ds ρ = .ok ys ρ' ∧ I ds.length ρ' ∧ Paired Pd ds ys := by
  have main : ∀ (es : List D) (j : Nat) (ρ : Rho), ds.drop j = es → I j ρ → ∃ ys ρ', lcL vs k t e es ρ = .ok ys ρ' ∧ I (j + es.length) ρ' ∧ Paired Pd es ys := by
    intro es
    induction es with
    | nil => intro j ρ _ h; exact ⟨[], ρ, rfl, h, .nil⟩
    | cons d es ih =>
      intro j ρ hd h
      have hj : ds[j]? = some d := by
        have := congrArg List.head? hd
        rw [List.head?_drop] at this
        exact this
      have hd2 : ds.drop (j + 1) = es := by
        rw [← List.tail_drop, hd]; rfl
      obtain ⟨ρ1, e1, ρ2, e2, y, ρ3, e3, py, h3⟩ := step j d ρ hj h
      obtain ⟨ys, ρ', e4, h4, pp⟩ := ih (j + 1) _ hd2 h3
      refine ⟨y :: ys, ρ', ?_, by rw [List.length_cons, show j + (es.length + 1) = j + 1 + es.length by omega]; exact h4, .cons py pp⟩
      unfold lcL
      rw [e1]
      dsimp only
      rw [e2, R.ok_bind, if_pos rfl, e3, R.ok_bind, e4]
      rfl
  intro ρ h
  obtain ⟨ys, ρ', e, h', pp⟩ := main ds 0 ρ rfl h
  rw [Nat.zero_add] at h'
  exact ⟨ys, ρ', e, h', pp⟩
/-- a comprehension whose turns leave the environment as it is -/
theorem lc_fm {vs : List Nat} {k : GG} {t : GT} {e : GE} {ρ : Rho} (f : D → Option D) : ∀ {ds : List D}, (∀ d ∈ ds, ∃ ρ1, k d ρ = some ρ1 ∧ wipeR ρ1 vs = ρ ∧ ((∃ y, f d = some y ∧ t ρ1 = .ok true ρ1 ∧ e ρ1 = .ok y ρ1) ∨ (f d = none ∧ t ρ1 = .ok false ρ1))) → lcL vs k t e ds ρ = .ok (ds.filterMap f) ρ
  | [], _ => rfl
  | d :: ds, h => by
    obtain ⟨ρ1, e1, ew, h1⟩ := h d List.mem_cons_self
    have ih := lc_fm (ds := ds) f fun x hx => h x (List.mem_cons_of_mem _ hx)
    unfold lcL
    rw [e1]
    dsimp only
    rcases h1 with ⟨y, fy, et, ee⟩ | ⟨fn, et⟩
    · rw [et, R.ok_bind, if_pos rfl, ee, R.ok_bind, ew, ih, List.filterMap_cons, fy]
      rfl
    · rw [et, R.ok_bind, if_neg Bool.false_ne_true, ew, ih, List.filterMap_cons, fn]
theorem lc_map {vs : List Nat} {k : GG} {t : GT} {e : GE} {ρ : Rho} (f : D → D) {ds : List D} (h : ∀ d ∈ ds, ∃ ρ1, k d ρ = some ρ1 ∧ wipeR ρ1 vs = ρ ∧ t ρ1 = .ok true ρ1 ∧ e ρ1 = .ok (f d) ρ1) : lcL vs k t e ds ρ = .ok (ds.map f) ρ := by
  rw [lc_fm (fun d => some (f d)) fun d hd => ?_]
  · show R.ok (ds.filterMap (some ∘ f)) ρ = _
    rw [List.filterMap_eq_map]
  · obtain ⟨ρ1, e1, e2, e3, e4⟩ := h d hd
    exact ⟨ρ1, e1, e2, .inl ⟨f d, rfl, e3, e4⟩⟩
/-! ### isinstance, by the table -/
theorem kt_ll : kitB "list" "list" = some true := by decide +kernel
theorem kt_lt : kitB "list" "tuple" = some false := by decide +kernel
theorem kt_ls : kitB "list" "str" = some false := by decide +kernel
theorem kt_li : kitB "list" "int" = some false := by decide +kernel
theorem kt_lb : kitB "list" "bool" = some false := by decide +kernel
theorem kt_tl : kitB "tuple" "list" = some false := by decide +kernel
theorem kt_tt : kitB "tuple" "tuple" = some true := by decide +kernel
theorem kt_ts : kitB "tuple" "str" = some false := by decide +kernel
theorem kt_ti : kitB "tuple" "int" = some false := by decide +kernel
theorem kt_tb : kitB "tuple" "bool" = some false := by decide +kernel
theorem kt_sl : kitB "str" "list" = some false := by decide +kernel
theorem kt_st : kitB "str" "tuple" = some false := by decide +kernel
theorem kt_ss : kitB "str" "str" = some true := by decide +kernel
theorem kt_si : kitB "str" "int" = some false := by decide +kernel
theorem kt_sb : kitB "str" "bool" = some false := by decide +kernel
theorem kt_il : kitB "int" "list" = some false := by decide +kernel
theorem kt_it : kitB "int" "tuple" = some false := by decide +kernel
theorem kt_is : kitB "int" "str" = some false := by decide +kernel
theorem kt_ii : kitB "int" "int" = some true := by decide +kernel
theorem kt_ib : kitB "int" "bool" = some false := by decide +kernel
theorem kt_bl : kitB "bool" "list" = some false := by decide +kernel
theorem kt_bt : kitB "bool" "tuple" = some false := by decide +kernel
theorem kt_bs : kitB "bool" "str" = some false := by decide +kernel
theorem kt_bi : kitB "bool" "int" = some true := by decide +kernel
theorem kt_bb : kitB "bool" "bool" = some true := by decide +kernel
theorem kt_nl : kitB "NoneType" "list" = some false := by decide +kernel
theorem kt_nt : kitB "NoneType" "tuple" = some false := by decide +kernel
theorem kt_ns : kitB "NoneType" "str" = some false := by decide +kernel
theorem kt_ni : kitB "NoneType" "int" = some false := by decide +kernel
theorem kt_nb : kitB "NoneType" "bool" = some false := by decide +kernel
theorem zipD_self : ∀ xs : List D, zipD xs xs = xs.map fun x => .tuple [x, x]
  | [] => rfl
  | x :: xs => by
    show _ :: zipD xs xs = _
    rw [zipD_self xs]; rfl
end DL

namespace DL
open PySem L2
/-! ### == and != : texts too -/
section
variable {X : Cx} {K : PySem.W.Frag}
def rEqU (K : PySem.W.Frag) : R2 := fun x y H Q => rEqD K x y H Q ∨ rEq x y H Q
def rNeU (K : PySem.W.Frag) : R2 := fun x y H Q => rNeD K x y H Q ∨ rNe x y H Q
theorem op_eqU {k : Nat} (hr : Room k X.A) : OpR X (compareOp .Eq) (rEqU X.K) := opr_or (op_eqD hr.units) op_eq
theorem op_neU {k : Nat} (hr : Room k X.A) : OpR X (compareOp .NotEq) (rNeU X.K) := opr_or (op_neD hr.units) op_ne
def eqS : D → D → Option D
  | .str x, .str y => some (.bool (decide (x = y)))
  | _, _ => none
def neS : D → D → Option D
  | .str x, .str y => some (.bool (!decide (x = y)))
  | _, _ => none
def eqW (a b : D) : Option D := (eqS a b).orElse fun _ => eqD a b
def neW (a b : D) : Option D := (neS a b).orElse fun _ => neD a b
theorem str_inj (x y : Str) : decide (V.str x = V.str y) = decide (x = y) := by
  by_cases h : x = y
  · rw [decide_eq_true h, h]; exact decide_eq_true rfl
  · rw [decide_eq_false h]; exact decide_eq_false fun z => h (V.str.inj z)
theorem sn_eqS : Sn2 K (rEqU K) eqS := fun b0 B Z0 Z H σ ρ x y a b c Q ok ha hb e q => by
  unfold eqS at e
  split at e
  · cases e; cases ha; cases hb
    exact .inr ⟨rfl, by rw [str_inj]; exact q _ H Z ok (Same.refl Z) (.bl _)⟩
  · cases e
theorem sn_neS : Sn2 K (rNeU K) neS := fun b0 B Z0 Z H σ ρ x y a b c Q ok ha hb e q => by
  unfold neS at e
  split at e
  · cases e; cases ha; cases hb
    exact .inr ⟨rfl, by rw [str_inj]; exact q _ H Z ok (Same.refl Z) (.bl _)⟩
  · cases e
theorem sn_eqW : Sn2 K (rEqU K) eqW := sn2_or sn_eqS (sn2_mono sn_eq fun _ _ _ _ h => .inl h)
theorem sn_neW : Sn2 K (rNeU K) neW := sn2_or sn_neS (sn2_mono sn_ne fun _ _ _ _ h => .inl h)
theorem eqW_ints (i j : Int) : eqW (.int i) (.int j) = some (.bool (decide (i = j))) := eqD_ints i j
theorem neW_ints (i j : Int) : neW (.int i) (.int j) = some (.bool (!decide (i = j))) := neD_ints i j
theorem eqW_bools (i j : Bool) : eqW (.bool i) (.bool j) = some (.bool (decide (i = j))) := eqD_bools i j
theorem neW_bools (i j : Bool) : neW (.bool i) (.bool j) = some (.bool (!decide (i = j))) := neD_bools i j
theorem eqW_strs (x y : Str) : eqW (.str x) (.str y) = some (.bool (decide (x = y))) := rfl
theorem neW_strs (x y : Str) : neW (.str x) (.str y) = some (.bool (!decide (x = y))) := rfl
theorem eqW_none : eqW .none .none = some (.bool true) := by
  show eqD .none .none = _
  rw [eqD_of rfl rfl, eqv_none]
theorem eqW_in (i : Int) : eqW .none (.int i) = some (.bool false) := by
  show eqD .none (.int i) = _
  rw [eqD_of rfl rfl]; unfold PyData.eqv; rfl
theorem eqW_ni (i : Int) : eqW (.int i) .none = some (.bool false) := by
  show eqD (.int i) .none = _
  rw [eqD_of rfl rfl]; unfold PyData.eqv; rfl
theorem eqW_tt {xs ys : List D} (h1 : SeqAt.shaped (.tuple xs) = true) (h2 : SeqAt.shaped (.tuple ys) = true) : eqW (.tuple xs) (.tuple ys) = some (.bool (PyData.eqv (.tuple xs) (.tuple ys))) := eqD_of h1 h2
theorem neW_tt {xs ys : List D} (h1 : SeqAt.shaped (.tuple xs) = true) (h2 : SeqAt.shaped (.tuple ys) = true) : neW (.tuple xs) (.tuple ys) = some (.bool (!PyData.eqv (.tuple xs) (.tuple ys))) := neD_of h1 h2
theorem eqW_ll {xs ys : List D} (h1 : SeqAt.shaped (.list xs) = true) (h2 : SeqAt.shaped (.list ys) = true) : eqW (.list xs) (.list ys) = some (.bool (PyData.eqv (.list xs) (.list ys))) := eqD_of h1 h2
theorem neW_ll {xs ys : List D} (h1 : SeqAt.shaped (.list xs) = true) (h2 : SeqAt.shaped (.list ys) = true) : neW (.list xs) (.list ys) = some (.bool (!PyData.eqv (.list xs) (.list ys))) := neD_of h1 h2
end
/-! ### rows of ints are shaped; when they are equal -/
theorem canLay_ints : ∀ ns : List Int, PyData.canLayAll0 (ns.map PyData.int) = true
  | [] => by simp [PyData.canLayAll0]
  | n :: r => by simp [PyData.canLayAll0, PyData.canLay0, canLay_ints r]
theorem depth_ints : ∀ ns : List Int, PyData.depthAll (ns.map PyData.int) = 0
  | [] => by simp [PyData.depthAll]
  | n :: r => by simp [PyData.depthAll, PyData.depth, depth_ints r]
theorem shaped_li (ns : List Int) : SeqAt.shaped (.list (ns.map PyData.int)) = true := by
  unfold SeqAt.shaped
  simp [PyData.canLay0, canLay_ints, PyData.depth, depth_ints]
theorem shaped_ti (ns : List Int) : SeqAt.shaped (.tuple (ns.map PyData.int)) = true := by
  unfold SeqAt.shaped
  simp [PyData.canLay0, canLay_ints, PyData.depth, depth_ints]
theorem eqvAll_ints : ∀ ns ms : List Int, PyData.eqvAll (ns.map PyData.int) (ms.map PyData.int) = decide (ns = ms)
  | [], [] => by simp [PyData.eqvAll]
  | [], m :: ms => by simp [PyData.eqvAll]
  | n :: ns, [] => by simp [PyData.eqvAll]
  | n :: ns, m :: ms => by
    simp only [List.map_cons, PyData.eqvAll, eqv_int, eqvAll_ints ns ms, List.cons.injEq, Bool.decide_and]
theorem eqv_li (ns ms : List Int) : PyData.eqv (.list (ns.map PyData.int)) (.list (ms.map PyData.int)) = decide (ns = ms) := by
  rw [← eqvAll_ints]; simp [PyData.eqv]
theorem eqv_ti (ns ms : List Int) : PyData.eqv (.tuple (ns.map PyData.int)) (.tuple (ms.map PyData.int)) = decide (ns = ms) := by
  rw [← eqvAll_ints]; simp [PyData.eqv]
theorem eqW_ti (ns ms : List Int) : eqW (.tuple (ns.map PyData.int)) (.tuple (ms.map PyData.int)) = some (.bool (decide (ns = ms))) := by rw [eqW_tt (shaped_ti _) (shaped_ti _), eqv_ti]
theorem neW_ti (ns ms : List Int) : neW (.tuple (ns.map PyData.int)) (.tuple (ms.map PyData.int)) = some (.bool (!decide (ns = ms))) := by rw [neW_tt (shaped_ti _) (shaped_ti _), eqv_ti]
theorem eqW_li (ns ms : List Int) : eqW (.list (ns.map PyData.int)) (.list (ms.map PyData.int)) = some (.bool (decide (ns = ms))) := by rw [eqW_ll (shaped_li _) (shaped_li _), eqv_li]
theorem neW_li (ns ms : List Int) : neW (.list (ns.map PyData.int)) (.list (ms.map PyData.int)) = some (.bool (!decide (ns = ms))) := by rw [neW_ll (shaped_li _) (shaped_li _), eqv_li]
/-! ### repr fits -/
structure Shw (h L : Nat) (d : D) : Prop where
  sh : d.showable = true
  nd : d.hasDict = false
  dp : d.depth ≤ h
  ln : d.shown.length ≤ L
theorem Shw.mono {h h' L L' : Nat} {d : D} (s : Shw h L d) (a : h ≤ h') (b : L ≤ L') : Shw h' L' d := ⟨s.sh, s.nd, Nat.le_trans s.dp a, Nat.le_trans s.ln b⟩
theorem shw_int {i : Int} (h : i.natAbs < 10 ^ 60) : Shw 0 61 (.int i) := by
  refine ⟨?_, by simp [PyData.hasDict], by simp [PyData.depth], ?_⟩
  · simp only [PyData.showable, decide_eq_true_eq]
    by_cases h0 : i.natAbs = 0
    · rw [h0]; decide
    · exact Nat.lt_of_lt_of_le ((Nat.log2_lt h0).mpr (Nat.lt_of_lt_of_le h (by decide : 10 ^ 60 ≤ 2 ^ 200))) (by decide)
  · have := int_text_length_le10 (k := 60) (by decide) h
    have e : PyData.shown (.int i) = Str.ofString (toString i) := by simp only [PyData.shown]
    rw [e, ofString_length]
    exact this
theorem shw_none : Shw 0 61 .none := ⟨by simp [PyData.showable], by simp [PyData.hasDict], by simp [PyData.depth], by simp only [PyData.shown]; decide⟩
theorem textFrom_le : ∀ (ts : List Str) (L k : Nat) (acc : Str), (∀ t ∈ ts, t.length ≤ L) → (textFrom k acc ts).length ≤ acc.length + ts.length * (L + 2)
  | [], L, k, acc, _ => by show acc.length ≤ _; simp
  | t :: r, L, k, acc, h => by
    have ih := textFrom_le r L (k + 1) (acc ++ (if k > 0 then ", " else "" : String) ++ t) fun x hx => h x (List.mem_cons_of_mem _ hx)
    have ht := h t List.mem_cons_self
    have e : (acc ++ (if k > 0 then ", " else "" : String) ++ t : Str).length ≤ acc.length + 2 + L := by
      rw [Str.length_append, Str.length_append]
      have : (Str.ofString (if k > 0 then ", " else "")).length ≤ 2 := by split <;> decide
      omega
    show (textFrom (k + 1) _ r).length ≤ _
    rw [List.length_cons, Nat.succ_mul]
    omega
theorem shownAll_le : ∀ {xs : List D} {h L : Nat}, (∀ x ∈ xs, Shw h L x) → (∀ t ∈ PyData.shownAll xs, t.length ≤ L) ∧ (PyData.shownAll xs).length = xs.length ∧ PyData.showableAll xs = true ∧ PyData.hasDictAll xs = false ∧ PyData.depthAll xs ≤ h
  | [], h, L, _ => by simp [PyData.shownAll, PyData.showableAll, PyData.hasDictAll, PyData.depthAll]
  | x :: xs, h, L, hx => by
    obtain ⟨a, b, c, d, e⟩ := shownAll_le (xs := xs) fun y hy => hx y (List.mem_cons_of_mem _ hy)
    have q := hx x List.mem_cons_self
    have q1 := q.ln
    have q2 := q.dp
    refine ⟨?_, ?_, ?_, ?_, ?_⟩
    · intro t ht
      simp only [PyData.shownAll, List.mem_cons] at ht
      rcases ht with rfl | ht
      · exact q1
      · exact a t ht
    · simp [PyData.shownAll, b]
    · simp [PyData.showableAll, q.sh, c]
    · simp [PyData.hasDictAll, q.nd, d]
    · simp only [PyData.depthAll]; omega
theorem shw_list {xs : List D} {h L : Nat} (hx : ∀ x ∈ xs, Shw h L x) : Shw (h + 1) (2 + xs.length * (L + 2)) (.list xs) := by
  obtain ⟨a, b, c, d, e⟩ := shownAll_le hx
  refine ⟨by simpa [PyData.showable] using c, by simpa [PyData.hasDict] using d, by simp only [PyData.depth]; omega, ?_⟩
  simp only [PyData.shown, listText]
  have := textFrom_le (PyData.shownAll xs) L 0 "[" a
  rw [Str.length_append]
  rw [b] at this
  have h1 : (Str.ofString "[").length = 1 := by decide
  have h2 : (Str.ofString "]").length = 1 := by decide
  omega
theorem repr_of {d : D} {h L : Nat} (s : Shw h L d) (sq : isSq d = true) (hh : h ≤ 30) (hL : L ≤ sizeLine) : reprD [d] = some (.str d.shown) := if_pos ⟨sq, s.sh, s.nd, Nat.le_trans s.dp hh, Nat.le_trans s.ln hL⟩
theorem nc0 : ((0 : Nat) : Int) = 0 := rfl
theorem nc1 : ((1 : Nat) : Int) = 1 := rfl
theorem nc2 : ((2 : Nat) : Int) = 2 := rfl
theorem nc3 : ((3 : Nat) : Int) = 3 := rfl
theorem nc4 : ((4 : Nat) : Int) = 4 := rfl
theorem nc5 : ((5 : Nat) : Int) = 5 := rfl
theorem nc6 : ((6 : Nat) : Int) = 6 := rfl
theorem nc7 : ((7 : Nat) : Int) = 7 := rfl
theorem nc8 : ((8 : Nat) : Int) = 8 := rfl
theorem nc9 : ((9 : Nat) : Int) = 9 := rfl
theorem nc10 : ((10 : Nat) : Int) = 10 := rfl
theorem nc11 : ((11 : Nat) : Int) = 11 := rfl
theorem nc12 : ((12 : Nat) : Int) = 12 := rfl
theorem nc13 : ((13 : Nat) : Int) = 13 := rfl
theorem nc14 : ((14 : Nat) : Int) = 14 := rfl
theorem nc15 : ((15 : Nat) : Int) = 15 := rfl
theorem nc16 : ((16 : Nat) : Int) = 16 := rfl
theorem nc17 : ((17 : Nat) : Int) = 17 := rfl
theorem nc18 : ((18 : Nat) : Int) = 18 := rfl
theorem nc19 : ((19 : Nat) : Int) = 19 := rfl
theorem nc20 : ((20 : Nat) : Int) = 20 := rfl
end DL

namespace DL
open PySem L2
section
variable {K : PySem.W.Frag} {Wx : WX} {ta tb te td : TE} {tt tu : TT} {tas : TA} {t u rest : TS} {b0 : Option Addr} {B Bf Z0 Z H : Hp} {σ : L2.St} {ρ : Rho} {p : Addr} {o o' : HO}
/-! ### a list of new things, compared, then its own lists are changed -/
theorem Ok.shrink (ok : Ok K b0 Bf Z0 Z H σ ρ) (s : Same B Bf) : Ok K b0 B Z0 Z H σ ρ := by
  refine ⟨ok.len, s.trans ok.bh, ok.zh, ok.zz, fun q x e => ?_, ok.sh, fun i ds e => ?_, ok.fix, ok.sep⟩
  · rcases ok.nb q x e with z | z
    · exact .inl z
    · exact .inr (s.free z)
  · obtain ⟨q, vs, e1, e2, e3, e4, e5⟩ := ok.ow i ds e
    exact ⟨q, vs, e1, e2, s.free e3, e4, e5⟩
theorem Ok.reB (ok : Ok K b0 Bf Z0 Z H σ ρ) (hp : Bf p = some o) (zp : Z0 p = none) : Ok K b0 (upd Bf p o') Z0 Z (upd H p o') σ ρ := by
  have hz : Z p = none := by
    cases q : Z p with
    | none => rfl
    | some x =>
      rcases ok.nb p x q with z | z
      · rw [zp] at z; cases z
      · rw [hp] at z; cases z
  have ap : ∀ (i : Nat) (ds : List D) (q : Addr) (vs : List V), ρ[i]? = some (.ow ds) → Bf q = none → q ≠ p := fun i ds q vs _ e z => by rw [z, hp] at e; cases e
  refine ⟨ok.len, fun q x e => ?_, fun q x e => ?_, ok.zz, fun q x e => ?_, ok.sh, fun i ds e => ?_, ok.fix, ok.sep⟩
  · by_cases hq : q = p
    · subst hq; rw [upd_same] at e ⊢; exact e
    · rw [upd_ne hq] at e ⊢; exact ok.bh q x e
  · rw [upd_ne (ne_of_none e hz)]; exact ok.zh q x e
  · rcases ok.nb q x e with z | z
    · exact .inl z
    · exact .inr (by rw [upd_ne (ne_of_none e hz)]; exact z)
  · obtain ⟨q, vs, e1, e2, e3, e4, e5⟩ := ok.ow i ds e
    have nq := ap i ds q vs e e3
    exact ⟨q, vs, e1, e2, by rw [upd_ne nq]; exact e3, by rw [upd_ne nq]; exact e4, e5⟩
theorem Ok.putAny {i : Nat} {x : Option V} (ok : Ok K b0 B Z0 Z H σ ρ) : Ok K b0 B Z0 Z H (σ.set i x) (ρ.set i .no) :=
  ok.weak (by rw [List.length_set, List.length_set]; exact ok.len) fun j s h => (no_get h).imp id fun z => ⟨z.2, by rw [List.getElem?_set_ne z.1]⟩
/-- the frames: new lists and what they hold -/
inductive NwA (K : PySem.W.Frag) (B Z0 Bf Z : Hp) : List V → List Nw → Prop
  | nil : NwA K B Z0 Bf Z [] []
  | s {v : V} {vs : List V} {d : D} {ns : List Nw} : Rp K Z v d → NwA K B Z0 Bf Z vs ns → NwA K B Z0 Bf Z (v :: vs) (.s d :: ns)
  | f {q : Addr} {ws vs : List V} {ds : List D} {ns : List Nw} : Bf q = some (.lst ws) → B q = none → Z0 q = none → RpA K Z ws ds → NwA K B Z0 Bf Z vs ns → NwA K B Z0 Bf Z (.ref q :: vs) (.f ds :: ns)
def Nw.dat : Nw → D
  | .s d => d
  | .f ds => .list ds
def DNL (K : PySem.W.Frag) (t : TA) (g : Rho → R (List Nw)) : Prop := ∀ b0 B Bf Z0 Z H σ ρ ns ρ' (Q : List V → Hp → Prop), Same B Bf → Ok K b0 Bf Z0 Z H σ ρ → g ρ = .ok ns ρ' →
  (∀ vs H' Z' Bf', Same Bf Bf' → Ok K b0 Bf' Z0 Z' H' σ ρ' → Same Z Z' → NwA K B Z0 Bf' Z' vs ns → Q vs H') → t σ H Q
def nlNil (ρ : Rho) : R (List Nw) := .ok [] ρ
def nlCons (g : Rho → R Nw) (r : Rho → R (List Nw)) (ρ : Rho) : R (List Nw) := (g ρ).bind fun n ρ1 => (r ρ1).map (n :: ·)
theorem dnl_nil : DNL K tNil nlNil := fun b0 B Bf Z0 Z H σ ρ ns ρ' Q sb ok e q => by
  cases e
  exact q [] H Z Bf (Same.refl Bf) ok (Same.refl Z) .nil
theorem dnl_s {g : GE} {r : Rho → R (List Nw)} (h : DE K te g) (hr : DNL K tas r) : DNL K (tCons te tas) (nlCons (nS g) r) := fun b0 B Bf Z0 Z H σ ρ ns ρ' Q sb ok e q => by
  obtain ⟨n, ρ1, e1, e2⟩ := R.bind_ok e
  obtain ⟨d, e3, rfl⟩ := R.map_ok e1
  obtain ⟨ms, e4, rfl⟩ := R.map_ok e2
  refine h b0 Bf Z0 Z H σ ρ d ρ1 _ ok e3 fun v H1 Z1 ok1 s1 r1 => ?_
  exact hr b0 B Bf Z0 Z1 H1 σ ρ1 ms ρ' _ sb ok1 e4 fun vs H2 Z2 Bf2 sb2 ok2 s2 r2 => q (v :: vs) H2 Z2 Bf2 sb2 ok2 (s1.trans s2) (.s (r1.mono s2) r2)
theorem dnl_f {g : GF} {r : Rho → R (List Nw)} (h : DF K te g) (hr : DNL K tas r) : DNL K (tCons te tas) (nlCons (nF g) r) := fun b0 B Bf Z0 Z H σ ρ ns ρ' Q sb ok e q => by
  obtain ⟨n, ρ1, e1, e2⟩ := R.bind_ok e
  obtain ⟨ds, e3, rfl⟩ := R.map_ok e1
  obtain ⟨ms, e4, rfl⟩ := R.map_ok e2
  refine h b0 Bf Z0 Z H σ ρ ds ρ1 _ ok e3 fun q1 ws H1 Z1 ok1 s1 zq bq aq hq r1 => ?_
  have sn : Same Bf (upd Bf q1 (.lst ws)) := fun c x ec => by rw [upd_ne (ne_of_none ec bq)]; exact ec
  refine hr b0 B (upd Bf q1 (.lst ws)) Z0 Z1 H1 σ ρ1 ms ρ' _ (sb.trans sn) (ok1.frame zq aq hq) e4 fun vs H2 Z2 Bf2 sb2 ok2 s2 r2 => ?_
  exact q (.ref q1 :: vs) H2 Z2 Bf2 (sn.trans sb2) ok2 (s1.trans s2) (.f (sb2 _ _ upd_same) (sb.free bq) (ok1.zz.free zq) (r1.mono s2) r2)
theorem NwA.mono {Z' Bf' : Hp} (s : Same Z Z') (b : Same Bf Bf') : ∀ {vs : List V} {ns : List Nw}, NwA K B Z0 Bf Z vs ns → NwA K B Z0 Bf' Z' vs ns
  | _, _, .nil => .nil
  | _, _, .s h r => .s (h.mono s) (NwA.mono s b r)
  | _, _, .f h1 h2 h3 h4 r => .f (b _ _ h1) h2 h3 (h4.mono s) (NwA.mono s b r)
theorem NwA.rp (sz : Same Z H) (sb : Same Bf H) : ∀ {vs : List V} {ns : List Nw}, NwA K B Z0 Bf Z vs ns → RpA K H vs (ns.map Nw.dat)
  | _, _, .nil => .nil
  | _, _, .s h r => .cons (h.mono sz) (NwA.rp sz sb r)
  | _, _, .f h1 _ _ h4 r => .cons (.lst (sb _ _ h1) (h4.mono sz)) (NwA.rp sz sb r)
theorem NwA.len : ∀ {vs : List V} {ns : List Nw}, NwA K B Z0 Bf Z vs ns → vs.length = ns.length
  | _, _, .nil => rfl
  | _, _, .s _ r => by rw [List.length_cons, List.length_cons, NwA.len r]
  | _, _, .f _ _ _ _ r => by rw [List.length_cons, List.length_cons, NwA.len r]
theorem NwA.get : ∀ {vs : List V} {ns : List Nw} {j : Nat} {ds : List D}, NwA K B Z0 Bf Z vs ns → ns[j]? = some (.f ds) → ∃ q ws, vs[j]? = some (.ref q) ∧ Bf q = some (.lst ws) ∧ B q = none ∧ Z0 q = none ∧ ws.length = ds.length
  | _, _, j, _, .nil, h => by simp at h
  | _, _, 0, _, .s _ _, h => by simp at h
  | _, _, 0, _, .f (q := q) (ws := ws) h1 h2 h3 h4 _, h => by
    simp at h
    subst h
    exact ⟨q, ws, rfl, h1, h2, h3, h4.length⟩
  | _, _, j + 1, ds, .s _ r, h => by
    obtain ⟨q, ws, e, z⟩ := NwA.get (j := j) (ds := ds) r (by simpa using h)
    exact ⟨q, ws, by simpa using e, z⟩
  | _, _, j + 1, ds, .f _ _ _ _ r, h => by
    obtain ⟨q, ws, e, z⟩ := NwA.get (j := j) (ds := ds) r (by simpa using h)
    exact ⟨q, ws, by simpa using e, z⟩
/-- heard[j].append(x) -/
abbrev tApp1 (K : PySem.W.Frag) (h : Nat) (j : Int) (x : Str) : TS := tDrop (tBM K "list" rAppend (tOp (rIx K) (tVar h) (tC (.int j))) (tCons (tC (.str x)) tNil))
def tApps (K : PySem.W.Frag) (h : Nat) (x : Str) (rest : TS) : List Nat → TS
  | [] => rest
  | j :: js => tSeq (tApp1 K h (j : Int) x) (tApps K h x rest js)
/-- each place holds a list that is framed, smaller than half the line -/
theorem apps_run {h : Nat} {x : Str} {E : Ends} {a : Addr} {vs : List V} (hσ : σ[h]? = some (some (.ref a))) (hrest : ∀ Bf H, Same B Bf → Ok K b0 Bf Z0 Z H σ ρ → rest E σ H) :
    ∀ (js : List Nat) {Bf H : Hp}, Same B Bf → Ok K b0 Bf Z0 Z H σ ρ → Bf a = some (.lst vs) → (∀ j ∈ js, ∃ q ws, vs[j]? = some (.ref q) ∧ q ≠ a ∧ Bf q = some (.lst ws) ∧ B q = none ∧ Z0 q = none ∧ ws.length + js.length ≤ sizeLine) → tApps K h x rest js E σ H
  | [], Bf, H, sb, ok, _, _ => hrest Bf H sb ok
  | j :: js, Bf, H, sb, ok, ha, hj => by
    obtain ⟨q, ws, e1, nq, e2, e3, e4, e5⟩ := hj j List.mem_cons_self
    have hH : H a = some (.lst vs) := ok.bh _ _ ha
    have hq : H q = some (.lst ws) := ok.bh _ _ e2
    rw [List.length_cons] at e5
    refine ⟨.ref a, hσ, .inl ⟨a, vs, (j : Int), .ref q, rfl, rfl, .inl (.inl hH), atI_nat e1, .inl ⟨rfl, ws, .inl (.inl hq)⟩, q, ws, .str x, rfl, rfl, hq, by omega, ?_⟩⟩
    have sn : Same B (upd Bf q (.lst (ws ++ [.str x]))) := fun c y ec => by rw [upd_ne (ne_of_none ec e3)]; exact sb c y ec
    refine apps_run hσ hrest js sn (ok.reB e2 e4) (by rw [upd_ne (Ne.symm nq)]; exact ha) fun j' hj' => ?_
    obtain ⟨q', ws', f1, nq', f2, f3, f4, f5⟩ := hj j' (List.mem_cons_of_mem _ hj')
    rw [List.length_cons] at f5
    by_cases hqq : q' = q
    · subst hqq
      refine ⟨q', ws ++ [.str x], f1, nq, upd_same, e3, e4, ?_⟩
      rw [List.length_append, List.length_singleton]
      omega
    · exact ⟨q', ws', f1, nq', by rw [upd_ne hqq]; exact f2, f3, f4, by omega⟩
def isF (k : Nat) : Option Nw → Bool
  | some (.f ds) => decide (ds.length + k ≤ sizeLine)
  | _ => false
/-- h = [..]; if not same(h, due): return False; h[j].append(x) ..; the rest -/
def sHeard (h : Nat) (gn : Rho → R (List Nw)) (Fs : List D → Option D) (gd : GE) (js : List Nat) (rest : GS) (ρ : Rho) : O := (gn ρ).to fun ns ρ1 => if ns.length ≤ sizeLine ∧ h < ρ1.length then (gd (ρ1.set h .no)).to fun due ρ2 => match Fs [.list (ns.map Nw.dat), due] with
    | some (.bool true) => if js.all (fun j => isF js.length ns[j]?) then rest (ρ2.set h .no) else .bad
    | some (.bool false) => .rt (.bool false) (ρ2.set h .no)
    | _ => .bad
  else .bad
theorem ds_heard {h : Nat} {x : Str} {gn : Rho → R (List Nw)} {Fs : List D → Option D} {gd : GE} {js : List Nat} {k : GS} {E0 : XK} (hn : DNL K tas gn) (hd : DE K td gd) (hr : DS K Wx rest k) :
    DS K Wx (tSeq (tAsg (tLst tas) (gName h)) (tSeq (tIfS (tNot (tB (tCall (spP K 2 Fs) [] E0 (tCons (tVar h) (tCons td tNil))))) (tRet (tC (.bl false))) tNext) (tApps K h x rest js))) (sHeard h gn Fs gd js k) := fun b0 B Z0 Z H σ ρ E ok s => by
  unfold sHeard at s
  obtain ⟨ns, ρ1, e1, s⟩ := Sat.to s
  refine hn b0 B B Z0 Z H σ ρ ns ρ1 _ (Same.refl B) ok e1 fun vs H1 Z1 Bf1 sb1 ok1 s1 nw => ?_
  split at s
  · rename_i hsz
    obtain ⟨hsz, hh⟩ := hsz
    refine ⟨by rw [nw.len]; exact hsz, fun a hp => ?_⟩
    obtain ⟨okf, zf, bf, af⟩ := ok1.fresh (o := .lst vs) hp
    have sn : Same Bf1 (upd Bf1 a (.lst vs)) := fun c y ec => by rw [upd_ne (ne_of_none ec bf)]; exact ec
    have ok2 := (okf.frame zf af upd_same).putAny (i := h) (x := some (.ref a))
    have hσ : (σ.set h (some (.ref a)))[h]? = some (some (.ref a)) := List.getElem?_set_self (by rw [ok1.len]; exact hh)
    obtain ⟨due, ρ2, e2, s⟩ := Sat.to s
    refine ⟨.ref a, hσ, ?_⟩
    refine hd b0 _ Z0 Z1 _ _ _ due ρ2 _ ok2 e2 fun vd H3 Z3 ok3 s3 r3 => ?_
    have nw3 := nw.mono s3 sn
    have ha3 : H3 a = some (.lst vs) := ok3.bh _ _ upd_same
    have rpA : RpA K H3 [.ref a, vd] [.list (ns.map Nw.dat), due] := .cons (.lst ha3 (nw3.rp ok3.zh ok3.bh)) (.cons (r3.mono ok3.zh) .nil)
    have fin : ∀ (b : Bool), Fs [.list (ns.map Nw.dat), due] = some (.bool b) → (∀ H4, Same H3 H4 → (tIfS (fun _ H Q => Q (!b) H) (tRet (tC (.bl false))) tNext) { E with nx := tApps K h x rest js E } (σ.set h (some (.ref a))) H4) →
        spP K 2 Fs [.ref a, vd] H3 (fun y H1 => ∃ c, y = V.bl c ∧ (if (!c) = true then tRet (tC (.bl false)) { E with nx := tApps K h x rest js E } (σ.set h (some (.ref a))) H1 else tNext { E with nx := tApps K h x rest js E } (σ.set h (some (.ref a))) H1)) E0 := by
      intro b eb hc
      refine ⟨rfl, H3, _, _, Same.refl H3, rpA, eb, fun v H' Z' hs g r => ?_⟩
      cases r
      exact ⟨b, rfl, hc H' hs⟩
    split at s
    · rename_i eF
      split at s
      · rename_i hjs
        refine fin true eF fun H4 hs => ?_
        have ok4 := ok3.later hs
        have ok5 := ok4.forget (i := h)
        refine apps_run (B := B) (vs := vs) hσ (fun Bf' H' sb' ok' => hr b0 B Z0 Z3 H' _ _ E (ok'.shrink sb') s) js (sb1.trans sn) ok5 upd_same fun j hj => ?_
        have hf := List.all_eq_true.mp hjs j hj
        unfold isF at hf
        split at hf
        · rename_i ds ej
          obtain ⟨q, ws, f1, f2, f3, f4, f5⟩ := nw.get ej
          have nq : q ≠ a := ne_of_none f2 bf
          exact ⟨q, ws, f1, nq, by rw [upd_ne nq]; exact f2, f3, f4, by rw [f5]; exact of_decide_eq_true hf⟩
        · cases hf
      · exact s.elim
    · rename_i eF
      refine fin false eF fun H4 hs => ?_
      exact s (.bl false) _ H4 Z3 ((ok3.later hs).forget.shrink (sb1.trans sn)) (.bl false)
    · exact s.elim
  · exact s.elim
end
end DL

namespace DL
open PySem L2
section
variable {K : PySem.W.Frag} {Wx : WX} {ta tb te td : TE} {tt tu : TT} {tas : TA} {t u rest tail : TS} {b0 : Option Addr} {B Bf Z0 Z H : Hp} {σ : L2.St} {ρ : Rho} {p : Addr} {o o' : HO}
/-- what follows the comparison: it changes the framed lists at js, then the rest runs -/
def HTail (K : PySem.W.Frag) (h : Nat) (js : List Nat) (m : Rho → Option Rho) (tail rest : TS) : Prop := ∀ (b0 : Option Addr) (B Bf Z0 Z H : Hp) (σ : L2.St) (ρ ρ' : Rho) (E : Ends) (a : Addr) (vs : List V), σ[h]? = some (some (.ref a)) → m ρ = some ρ' →
  (∀ Bf H σ', Same B Bf → Ok K b0 Bf Z0 Z H σ' ρ' → rest E σ' H) → Same B Bf → Ok K b0 Bf Z0 Z H σ ρ → Bf a = some (.lst vs) → js.length ≤ sizeLine →
  (∀ j ∈ js, ∃ q ws, vs[j]? = some (.ref q) ∧ q ≠ a ∧ Bf q = some (.lst ws) ∧ B q = none ∧ Z0 q = none ∧ ws.length + js.length ≤ sizeLine) → tail E σ H
theorem ht_apps {h : Nat} {x : Str} {js : List Nat} : HTail K h js some (tApps K h x rest js) rest := fun b0 B Bf Z0 Z H σ ρ ρ' E a vs hσ em hr sb ok ha hl hj => by
  cases em
  exact apps_run hσ (fun Bf H s o => hr Bf H σ s o) js sb ok ha hj
def tIxs (K : PySem.W.Frag) (h : Nat) : List Nat → TA
  | [] => tNil
  | j :: js => tCons (tOp (rIx K) (tVar h) (tC (.int (j : Int)))) (tIxs K h js)
theorem ixs_run {h : Nat} {a : Addr} {vs : List V} (hσ : σ[h]? = some (some (.ref a))) (ha : H a = some (.lst vs)) : ∀ (js : List Nat) (Q : List V → Hp → Prop), (∀ j ∈ js, ∃ v, vs[j]? = some v) → (∀ xs, xs.length = js.length → (∀ (k j : Nat), js[k]? = some j → xs[k]? = vs[j]?) → Q xs H) → tIxs K h js σ H Q
  | [], Q, _, q => q [] rfl fun k j e => by simp at e
  | j :: js, Q, hj, q => by
    obtain ⟨v, hv⟩ := hj j List.mem_cons_self
    refine ⟨.ref a, hσ, .inl ⟨a, vs, (j : Int), v, rfl, rfl, .inl (.inl ha), atI_nat hv, ?_⟩⟩
    refine ixs_run hσ ha js _ (fun j' h' => hj j' (List.mem_cons_of_mem _ h')) fun xs hl hk => q (v :: xs) (by rw [List.length_cons, List.length_cons, hl]) fun k j' e => ?_
    cases k with
    | zero => simp at e; subst e; simpa using hv.symm
    | succ k => simp at e; simpa using hk k j' e
/-- for x in (h[j], ..): x.append(s) -/
abbrev tAppLoop (K : PySem.W.Frag) (h i : Nat) (x : Str) (js : List Nat) (rest : TS) : TS := tSeq (tFor (iSeqU K (tTup (tIxs K h js))) (gName i) (tDrop (tBM K "list" rAppend (tVar i) (tCons (tC (.str x)) tNil)))) rest
def mSet (i : Nat) (ρ : Rho) : Option Rho := if i < ρ.length then some (ρ.set i .no) else none
theorem ht_loop {h i : Nat} {x : Str} {js : List Nat} : HTail K h js (mSet i) (tAppLoop K h i x js rest) rest := fun b0 B Bf Z0 Z H σ ρ ρ' E a vs hσ em hr sb ok ha hl hj => by
  unfold mSet at em
  split at em
  case isFalse => cases em
  rename_i hi
  cases em
  have hH : H a = some (.lst vs) := ok.bh _ _ ha
  refine .inr (ixs_run hσ hH js _ (fun j h' => ?_) fun xs hxl hxs => ⟨by rw [hxl]; exact hl, fun p hp => ⟨p, rfl, ⟨xs, .inl (.inl upd_same)⟩, ?_⟩⟩)
  · obtain ⟨q, ws, e, _⟩ := hj j h'
    exact ⟨_, e⟩
  obtain ⟨okf, zf, bf, af⟩ := ok.fresh (o := .tup xs) hp
  have sn : Same Bf (upd Bf p (.tup xs)) := fun c y ec => by rw [upd_ne (ne_of_none ec bf)]; exact ec
  have ok2 := (okf.frame zf af upd_same).forget (i := i)
  have W : Walk (Itt K p) js.length (fun H => H p = some (.tup xs)) (YAt xs) := by
    refine ⟨fun k H hk e => ⟨xs, xs[k]'(by rw [hxl]; exact hk), .inl (.inl e), List.getElem?_eq_getElem _⟩, fun H e => ⟨xs, .inl (.inl e), by rw [hxl]; exact Nat.le_refl _⟩, fun k H v H' hk e y => ?_⟩
    obtain ⟨rfl, y⟩ := y
    exact ⟨rfl, y xs (.inl (.inl e))⟩
  refine for_it W (fun k σ' H' => ∃ Bf', Same B Bf' ∧ Bf' p = some (.tup xs) ∧ Ok K b0 Bf' Z0 Z H' σ' (ρ.set i .no) ∧ ∀ m j, k ≤ m → js[m]? = some j → ∃ q ws, xs[m]? = some (.ref q) ∧ q ≠ p ∧ Bf' q = some (.lst ws) ∧ B q = none ∧ Z0 q = none ∧ ws.length + (js.length - k) ≤ sizeLine)
    ⟨_, sb.trans sn, upd_same, ok2, fun m j _ ej => ?_⟩ (fun k σ' H' _ ⟨Bf', _, e, o, _⟩ => o.bh _ _ e) (fun k v σ' H' H'' hk ⟨Bf', sb', ep, o, hq⟩ y => ?_) (fun σ' H' ⟨Bf', sb', ep, o, _⟩ => hr Bf' H' σ' sb' o)
  · obtain ⟨q, ws, e1, e2, e3, e4, e5, e6⟩ := hj j (List.mem_of_getElem? ej)
    have nq : q ≠ p := ne_of_none e3 bf
    exact ⟨q, ws, by rw [hxs m j ej]; exact e1, nq, by rw [upd_ne nq]; exact e3, e4, e5, by omega⟩
  · obtain ⟨rfl, y⟩ := y
    obtain ⟨q, ws, f1, f2, f3, f4, f5, f6⟩ := hq k (js[k]'hk) (Nat.le_refl _) (List.getElem?_eq_getElem hk)
    rw [y] at f1
    cases f1
    have hq2 : H'' q = some (.lst ws) := o.bh _ _ f3
    have hs : (σ'.set i (some (.ref q)))[i]? = some (some (.ref q)) := List.getElem?_set_self (by rw [o.len, List.length_set]; exact hi)
    refine ⟨.ref q, hs, .inl ⟨rfl, ws, .inl (.inl hq2)⟩, q, ws, .str x, rfl, rfl, hq2, by omega, ?_⟩
    have sn' : Same B (upd Bf' q (.lst (ws ++ [.str x]))) := fun c y ec => by rw [upd_ne (ne_of_none ec f4)]; exact sb' c y ec
    have o3 := (o.reB (o' := .lst (ws ++ [.str x])) f3 f5).putAny (i := i) (x := some (.ref q))
    rw [List.set_set] at o3
    refine ⟨_, sn', by rw [upd_ne (Ne.symm f2)]; exact ep, o3, fun m j hm ej => ?_⟩
    obtain ⟨q', ws', g1, g2, g3, g4, g5, g6⟩ := hq m j (by omega) ej
    by_cases hqq : q' = q
    · subst hqq
      refine ⟨q', ws ++ [.str x], g1, g2, upd_same, f4, f5, ?_⟩
      rw [List.length_append, List.length_singleton]
      omega
    · exact ⟨q', ws', g1, g2, by rw [upd_ne hqq]; exact g3, g4, g5, by omega⟩
/-- h = [..]; if not same(h, due): return False; the tail -/
def sHeardT (h : Nat) (gn : Rho → R (List Nw)) (Fs : List D → Option D) (gd : GE) (js : List Nat) (m : Rho → Option Rho) (rest : GS) (ρ : Rho) : O := (gn ρ).to fun ns ρ1 => if ns.length ≤ sizeLine ∧ h < ρ1.length ∧ js.length ≤ sizeLine then (gd (ρ1.set h .no)).to fun due ρ2 => match Fs [.list (ns.map Nw.dat), due] with
    | some (.bool true) => if js.all (fun j => isF js.length ns[j]?) then (match m (ρ2.set h .no) with | some ρ3 => rest ρ3 | none => .bad) else .bad
    | some (.bool false) => .rt (.bool false) (ρ2.set h .no)
    | _ => .bad
  else .bad
theorem ds_heardT {h : Nat} {gn : Rho → R (List Nw)} {Fs : List D → Option D} {gd : GE} {js : List Nat} {m : Rho → Option Rho} {k : GS} {E0 : XK} (hn : DNL K tas gn) (hd : DE K td gd) (ht : HTail K h js m tail rest) (hr : DS K Wx rest k) :
    DS K Wx (tSeq (tAsg (tLst tas) (gName h)) (tSeq (tIfS (tNot (tB (tCall (spP K 2 Fs) [] E0 (tCons (tVar h) (tCons td tNil))))) (tRet (tC (.bl false))) tNext) tail)) (sHeardT h gn Fs gd js m k) := fun b0 B Z0 Z H σ ρ E ok s => by
  unfold sHeardT at s
  obtain ⟨ns, ρ1, e1, s⟩ := Sat.to s
  refine hn b0 B B Z0 Z H σ ρ ns ρ1 _ (Same.refl B) ok e1 fun vs H1 Z1 Bf1 sb1 ok1 s1 nw => ?_
  split at s
  · rename_i hsz
    obtain ⟨hsz, hh, hlj⟩ := hsz
    refine ⟨by rw [nw.len]; exact hsz, fun a hp => ?_⟩
    obtain ⟨okf, zf, bf, af⟩ := ok1.fresh (o := .lst vs) hp
    have sn : Same Bf1 (upd Bf1 a (.lst vs)) := fun c y ec => by rw [upd_ne (ne_of_none ec bf)]; exact ec
    have ok2 := (okf.frame zf af upd_same).putAny (i := h) (x := some (.ref a))
    have hσ : (σ.set h (some (.ref a)))[h]? = some (some (.ref a)) := List.getElem?_set_self (by rw [ok1.len]; exact hh)
    obtain ⟨due, ρ2, e2, s⟩ := Sat.to s
    refine ⟨.ref a, hσ, ?_⟩
    refine hd b0 _ Z0 Z1 _ _ _ due ρ2 _ ok2 e2 fun vd H3 Z3 ok3 s3 r3 => ?_
    have nw3 := nw.mono s3 sn
    have ha3 : H3 a = some (.lst vs) := ok3.bh _ _ upd_same
    have rpA : RpA K H3 [.ref a, vd] [.list (ns.map Nw.dat), due] := .cons (.lst ha3 (nw3.rp ok3.zh ok3.bh)) (.cons (r3.mono ok3.zh) .nil)
    have fin : ∀ (b : Bool), Fs [.list (ns.map Nw.dat), due] = some (.bool b) → (∀ H4, Same H3 H4 → (tIfS (fun _ H Q => Q (!b) H) (tRet (tC (.bl false))) tNext) { E with nx := tail E } (σ.set h (some (.ref a))) H4) →
        spP K 2 Fs [.ref a, vd] H3 (fun y H1 => ∃ c, y = V.bl c ∧ (if (!c) = true then tRet (tC (.bl false)) { E with nx := tail E } (σ.set h (some (.ref a))) H1 else tNext { E with nx := tail E } (σ.set h (some (.ref a))) H1)) E0 := by
      intro b eb hc
      refine ⟨rfl, H3, _, _, Same.refl H3, rpA, eb, fun v H' Z' hs g r => ?_⟩
      cases r
      exact ⟨b, rfl, hc H' hs⟩
    split at s
    · rename_i eF
      split at s
      · rename_i hjs
        split at s
        · rename_i ρ3 em
          refine fin true eF fun H4 hs => ?_
          have ok5 := (ok3.later hs).forget (i := h)
          refine ht b0 B _ Z0 Z3 H4 _ _ ρ3 E a vs hσ em (fun Bf' H' σ' sb' ok' => hr b0 B Z0 Z3 H' _ _ E (ok'.shrink sb') s) (sb1.trans sn) ok5 upd_same hlj fun j hj => ?_
          have hf := List.all_eq_true.mp hjs j hj
          unfold isF at hf
          split at hf
          · rename_i ds ej
            obtain ⟨q, ws, f1, f2, f3, f4, f5⟩ := nw.get ej
            have nq : q ≠ a := ne_of_none f2 bf
            exact ⟨q, ws, f1, nq, by rw [upd_ne nq]; exact f2, f3, f4, by rw [f5]; exact of_decide_eq_true hf⟩
          · cases hf
        · exact s.elim
      · exact s.elim
    · rename_i eF
      refine fin false eF fun H4 hs => ?_
      exact s (.bl false) _ H4 Z3 ((ok3.later hs).forget.shrink (sb1.trans sn)) (.bl false)
    · exact s.elim
  · exact s.elim
end
end DL

namespace DL
open PySem L2
section
variable {K : PySem.W.Frag} {Wx : WX} {ta tb tc te td : TE} {tas : TA}
def idL {α : Type} (x : List α) : List α := x
theorem kw_idL {A C : Type} {rel : A → C → Prop} {zs : List A} {ws : List C} (h : Paired rel zs ws) : Paired rel (idL zs) (idL ws) := h
def sPar3 (i j l : Nat) (a b c : Rho → R Nw) (ρ : Rho) : O := (a ρ).to fun x ρ1 => (b ρ1).to fun y ρ2 => (c ρ2).to fun z ρ3 => .nx (((ρ3.set i x.sl).set j y.sl).set l z.sl)
theorem ds_par3s {i j l : Nat} {a b c : GE} (ha : DE K ta a) (hb : DE K tb b) (hc : DE K tc c) : DS K Wx (tPar3 i j l (tCons ta (tCons tb (tCons tc tNil)))) (sPar3 i j l (nS a) (nS b) (nS c)) := fun b0 B Z0 Z H σ ρ E ok s => by
  obtain ⟨x, ρ1, e1, s⟩ := Sat.to s
  obtain ⟨y, ρ2, e2, s⟩ := Sat.to s
  obtain ⟨z, ρ3, e3, s⟩ := Sat.to s
  obtain ⟨dx, f1, rfl⟩ := R.map_ok e1
  obtain ⟨dy, f2, rfl⟩ := R.map_ok e2
  obtain ⟨dz, f3, rfl⟩ := R.map_ok e3
  refine ha b0 B Z0 Z H σ ρ dx ρ1 _ ok f1 fun v H1 Z1 ok1 s1 r1 => ?_
  refine hb b0 B Z0 Z1 H1 σ ρ1 dy ρ2 _ ok1 f2 fun w H2 Z2 ok2 s2 r2 => ?_
  refine hc b0 B Z0 Z2 H2 σ ρ2 dz ρ3 _ ok2 f3 fun u H3 Z3 ok3 s3 r3 => ?_
  exact ⟨v, w, u, rfl, s _ H3 Z3 (((ok3.put (r1.mono (s2.trans s3))).put (r2.mono s3)).put r3)⟩
end
theorem join_le : ∀ (ts : List Str) (L : Nat), (∀ t ∈ ts, t.length ≤ L) → (Str.join ", " ts).length ≤ ts.length * (L + 2)
  | [], L, _ => by show (Str.ofString "").length ≤ _; exact Nat.le_trans (by decide : _ ≤ 0) (Nat.zero_le _)
  | [x], L, h => by
    have := h x List.mem_cons_self
    show x.length ≤ 1 * (L + 2)
    omega
  | x :: y :: r, L, h => by
    have ih := join_le (y :: r) L fun t ht => h t (List.mem_cons_of_mem _ ht)
    have := h x List.mem_cons_self
    show (x ++ ", " ++ Str.join ", " (y :: r)).length ≤ _
    have e2 : ((", " : String) : Str).length = 2 := rfl
    rw [Str.length_append, Str.length_append, e2, List.length_cons, Nat.succ_mul]
    omega
theorem shw_tuple {xs : List D} {h L : Nat} (hx : ∀ x ∈ xs, Shw h L x) : Shw (h + 1) (3 + xs.length * (L + 2)) (.tuple xs) := by
  obtain ⟨a, b, c, d, e⟩ := shownAll_le hx
  refine ⟨by simpa [PyData.showable] using c, by simpa [PyData.hasDict] using d, by simp only [PyData.depth]; omega, ?_⟩
  simp only [PyData.shown, tupleText]
  have := join_le (PyData.shownAll xs) L a
  rw [Str.length_append, Str.length_append]
  rw [b] at this
  have h1 : (Str.ofString "(").length = 1 := by decide
  have h2 : (Str.ofString (if (PyData.shownAll xs).length == 1 then ",)" else ")")).length ≤ 2 := by split <;> decide
  omega
end DL

namespace DL
open PySem L2
section
variable {K : PySem.W.Frag} {Wx : WX} {te : TE}
theorem RpA.snoc {Z : Hp} {v : V} {d : D} (r : Rp K Z v d) : ∀ {vs : List V} {ds : List D}, RpA K Z vs ds → RpA K Z (vs ++ [v]) (ds ++ [d])
  | _, _, .nil => .cons r .nil
  | _, _, .cons h t => .cons h (RpA.snoc r t)
theorem RpA.rev {Z : Hp} : ∀ {vs : List V} {ds : List D}, RpA K Z vs ds → RpA K Z vs.reverse ds.reverse
  | _, _, .nil => .nil
  | _, _, .cons h t => by rw [List.reverse_cons, List.reverse_cons]; exact RpA.snoc h (RpA.rev t)
/-- xs[::-1] of a list (or of the script) -/
def revL : D → Option (List D)
  | .list xs => some xs.reverse
  | .dict [(.list xs, .none)] => some xs.reverse
  | _ => none
def eRevL (g : GE) (ρ : Rho) : R (List D) := (g ρ).bind fun d ρ1 => R.lift (revL d) ρ1
theorem df_revL {g : GE} (h : DE K te g) : DF K (tRevL K te) (eRevL g) := fun b0 B Z0 Z H σ ρ ds ρ' Q ok e q => by
  obtain ⟨d, ρ1, e1, e⟩ := R.bind_ok e
  obtain ⟨e2, rfl⟩ := R.lift_ok e
  refine h b0 B Z0 Z H σ ρ d _ _ ok e1 fun v H1 Z1 ok1 s1 r1 => ?_
  unfold revL at e2
  split at e2
  · cases e2
    cases r1 with
    | lst hs ra =>
      refine ⟨_, _, rfl, .inl (.inl (ok1.zh _ _ hs)), fun p hp => ?_⟩
      obtain ⟨okf, zf, bf, af⟩ := ok1.fresh (o := .lst _) hp
      exact q p _ _ Z1 okf s1 zf bf af upd_same ra.rev
  · cases e2
    cases r1 with
    | scr hs ra =>
      refine ⟨_, _, rfl, same_l ok1.zh hs, fun p hp => ?_⟩
      obtain ⟨okf, zf, bf, af⟩ := ok1.fresh (o := .lst _) hp
      exact q p _ _ Z1 okf s1 zf bf af upd_same ra.rev
  · cases e2
end
end DL

/-! DLt: own exception classes straight over a built-in one, whose __init__ calls the base's and stores one field. -/
namespace DLX
open PySem PySem.W PySem.Calls PyProof.Rows PySem.HandSPX
open Builtin Builtin.ObjectAttr
/-- the built-in class B: what is asked of it -/
structure Bs (B nw ini : String) (tl : List Value) : Prop where
  f : ExcBaseFacts B nw ini tl
  s : StoreFacts B tl "object.__setattr__" "object"
  ty : typeOf (.type B) = pure (.type "type")
  ob : tl.contains (.type "object") = true
  st : Manifest.isStub B = false
  hi : PySem.W.handedIn (.builtin ini) = true
theorem bs_V : Bs "ValueError" "ValueError.__new__" "ValueError.__init__" [.type "ValueError", .type "Exception", .type "BaseException", .type "object"] := ⟨F.excBase_ValueError, F.store_ValueError, by kernel_rfl, by decide +kernel, by decide +kernel, by decide +kernel⟩
theorem bs_L : Bs "LookupError" "LookupError.__new__" "LookupError.__init__" [.type "LookupError", .type "Exception", .type "BaseException", .type "object"] := ⟨F.excBase_LookupError, F.store_LookupError, by kernel_rfl, by decide +kernel, by decide +kernel, by decide +kernel⟩
theorem bs_R : Bs "RuntimeError" "RuntimeError.__new__" "RuntimeError.__init__" [.type "RuntimeError", .type "Exception", .type "BaseException", .type "object"] := ⟨F.excBase_RuntimeError, F.store_RuntimeError, by kernel_rfl, by decide +kernel, by decide +kernel, by decide +kernel⟩
theorem bs_O : Bs "OverflowError" "OverflowError.__new__" "OverflowError.__init__" [.type "OverflowError", .type "ArithmeticError", .type "Exception", .type "BaseException", .type "object"] := ⟨F.excBase_OverflowError, F.store_OverflowError, by kernel_rfl, by decide +kernel, by decide +kernel, by decide +kernel⟩
section
variable {prog : Program} {w : World} {A : Around} {R : Result → Shared → Prop} {hp : Heap} {g : Array GenState} {d : Drawn} {t : Nat} {os : OsState} {B nw ini : String} {tl : List Value}
/-- the first field of an exception of an own class -/
theorem osa1 {K : W.Frag} {f : Str} {tk : Tok} {v : Value} {x C : Addr} {fv : Array Value} {cd : ClassData} (bs : Bs B nw ini tl) (KX : K.In hp) (hx : hp.get? x = some { cls := .ref C, data := .fields fv }) (hcd : W.clsIn K C = some cd) (hm : cd.mro = .ref C :: tl) (hh : cd.hasDict = true) (ha : W.findIn K (.ref C) f = some none)
    (hq : ∀ h' tk' dx, (∀ b o, b ≠ x → hp.get? b = some o → h'.get? b = some o) → hp.objs.size ≤ dx → dx ≠ x → h'.get? x = some { cls := .ref C, dict := some dx, data := .fields fv } → h'.Ns1 dx (fun y => if y = f then some v else none) → R (.ok (.ret .none)) ⟨h', g, d, tk', os⟩) :
    codeAny (model prog w) A (.call (.builtin "object.__setattr__") ⟨[.ref x, .str f tk, v], []⟩) R ⟨hp, g, d, t, os⟩ := by
  have J : W.InstAt hp x { cls := .ref C, data := .fields fv } C none := ⟨hx, rfl, rfl, trivial⟩
  have ne : cd.mro.isEmpty = false := by rw [hm]; rfl
  have hob : cd.mro.contains (.type "object") = true := by rw [hm, List.contains_cons, bs.ob, Bool.or_true]
  have hps : refuseLoop (.ref x) "__setattr__" cd.mro = pure () := by rw [hm, refuseLoop_ref]; exact bs.s.passes _
  have xlt : x ≠ hp.objs.size := Nat.ne_of_lt (Heap.lt_size hx)
  have sub : W.Looks (model prog w) hp (isInstance (.ref x) (.type "object")) true := J.type.andThen (W.looks_mroIn KX (by unfold W.mroIn; rw [hcd, Option.bind_some, if_neg (by rw [ne]; decide), hob]))
  have S0 := F.store_object
  refine codeAny_call_builtin S0.slot.plain S0.entry (@W.check_slot (model prog w) _ _ ⟨hp, g, d, t, os⟩ "object.__setattr__" "object" "__setattr__" (.ref x) [.str f tk, v] [] _ S0.kind S0.split sub (S0.args (.ref x) (.str f tk) v) ?_)
  have mr : W.Looks (model prog w) hp (mroOf (.ref C)) cd.mro := (W.looks_clsIn KX hcd).andThen .now
  have nt : W.Looks (model prog w) hp (storeTaker? none) none := .now
  have cl : W.Looks (model prog w) hp (classData C) cd := W.looks_clsIn KX hcd
  rw [W.osa_eq, refuse_eq]
  refine wpAny_bind (wpAny_bind (J.type.at (wpAny_bind (mr.at ?_))))
  rw [hps]
  refine wpAny_pure (wpAny_bind (J.type.at (wpAny_bind ((W.looks_findIn KX ha).at (wpAny_bind (nt.at ?_))))))
  show wpAny _ _ (storeInOwnDict (.ref x) (.ref C) (.str f tk) f v false) _ _ _
  obtain ⟨nm, bs', mro, ns, qn, hd, sn, sb, ab, col, del⟩ := cd
  dsimp only at hh
  subst hh
  unfold storeInOwnDict ownDictForStores
  repeat (first | with_reducible refine store_in_new ?_ ?_ | with_reducible refine wpAny_loadPart_at hx ?_ | with_reducible refine cl.at ?_ | wp_step)
  · exact ⟨_, #[], _, (Heap.get?_update_ne _ _ _ _ xlt.symm).trans (Heap.get?_push_at rfl rfl), rfl, fun e he => absurd he (by simp), fun _ => rfl⟩
  · intro h' tk' hn' hs
    have hx1 : (hp.push { cls := .type "dict", data := .dict #[] }).get? x = some { cls := .ref C, data := .fields fv } := Heap.get?_push_of_some _ hx
    exact hq h' tk' hp.objs.size (fun b o hb ho => (hs.2 b (Nat.ne_of_lt (Heap.lt_size ho))).trans ((Heap.get?_update_ne _ _ _ _ hb).trans (Heap.get?_push_of_some _ ho))) (Nat.le_refl _) xlt.symm ((hs.2 x xlt).trans (Heap.get?_update_self _ hx1 rfl)) hn'
end
end DLX
namespace DL
open PySem PySem.Spec PyProof.Rows L2 DLX
/-- what the written part says of an own class C straight over a built-in one -/
structure OxC (K : PySem.W.Frag) (nw : String) (tl : List Value) (C : Addr) : Prop where
  cls : ∃ nm q N bs sn sub ab col dd k0 k1 k2 k3 k5, K.lookup C = some (excClassObj nm q C N bs tl true sn sub ab col dd k0 k1 k2 k3 k5 nw)
  sa : PySem.W.findIn K (.ref C) "__setattr__" = some (some (.builtin "object.__setattr__"))
  ex : PySem.W.subIn K (.ref C) (.type "BaseException") = some true
  ty : PySem.W.typeIn K (.ref C) = some (.type "type")
  kp : PySem.W.keepIn K (.ref C) = true
section
variable {X : Cx} {pins : List (Addr × Obj)} {σ : L2.St} {H : Hp} {s : Shared} {a C dx : Addr} {f : Str} {y : V} {u : Value} {E : Value → Shared → Prop} {A : Around} {B nw ini : String} {tl : List Value}
theorem ox_store {Q : Unit → Shared → Prop} (bs : Bs B nw ini tl) (T : OxC X.K nw tl C) (I : Inv X pins σ H s) (e : H a = some (exo a C none)) (hno : PySem.W.findIn X.K (.ref C) f = some none) (ry : RelV y u)
    (h : ∀ dx s', H dx = none → dx ≠ a → Inv X pins σ (upd (upd H dx (exd dx [(f, y)])) a (exo a C (some dx))) s' → Q () s') : wpAny (model X.prog X.w) A (setAttr (.ref a) f u) Q E s := by
  obtain ⟨nm, q, N, bss, sn, sub, ab, col, dd, k0, k1, k2, k3, k5, hC⟩ := T.cls
  have hcl : PySem.W.clsIn X.K C = some { name := nm, bases := bss, mro := .ref C :: tl, ns := N, qualname := q, hasDict := true, slotNames := sn, subclasses := sub, abstract := ab, collection := col, hasDel := false } := by
    unfold PySem.W.clsIn
    rw [hC] <;> rfl
  obtain ⟨t1, ho⟩ := exo_at I.hok e
  obtain ⟨hp, g, d, t, os⟩ := s
  refine PySem.W.set_plain I.kIn (ox := { cls := .ref C, dict := none, data := .fields #[.ref t1, .none, .none, .none, .bool false, .none] }) (od := none) ⟨ho, rfl, rfl, trivial⟩ T.sa (osa1 bs I.kIn ho hcl rfl rfl hno fun h' tk' dx k dn dne hx hn => ?_)
  have fd : H dx = none := I.hok.fresh dn
  have nd : ∀ {b : Addr} {o : Obj}, hp.get? b = some o → b ≠ dx := fun q => Nat.ne_of_lt (Nat.lt_of_lt_of_le (Heap.lt_size q) dn)
  have na : ∀ {b : Addr}, H b = none → b ≠ a := fun n z => by rw [z, e] at n; cases n
  have U : Un X.fs [] H (upd (upd H dx (exd dx [(f, y)])) a (exo a C (some dx))) hp h' := by
    constructor
    · exact fun b o q n _ _ => k b o (na n) q
    · exact fun b o q n _ _ => ⟨o.slots, k b o (na n) q⟩
    · intro b o q n _
      rw [upd_ne (na n), upd_ne (nd q)]; exact n
    · intro b o q _
      by_cases hb : b = a
      · exact ⟨_, hb ▸ hx⟩
      · exact ⟨o, k b o hb q⟩
    · intro b xs q
      rw [upd_ne (at_ne e q exo_tup), upd_ne (ne_of_none q fd)]; exact q
    · intro b o v q
      rw [upd_ne (at_ne e q exo_frz), upd_ne (ne_of_none q fd)]; exact q
    · intro b ps q
      exact ⟨#[], by rw [upd_ne (at_ne e q exo_tbl), upd_ne (ne_of_none q fd), q]; simp⟩
  refine h dx _ fd dne (I.un (t' := tk') U fun b o q => ?_)
  by_cases hb : b = a
  · subst hb
    rw [upd_same] at q; cases q; exact exo_ok hx
  · rw [upd_ne hb] at q
    by_cases hd : b = dx
    · subst hd
      rw [upd_same] at q; cases q
      exact exd_ok hn (relO_put (fs := []) ry fun g => True.intro)
    · rw [upd_ne hd] at q
      refine (I.hok b o q).stay (fun c v hc z => k c v (hc.elim (fun hc => hc ▸ hb) fun hc => at_ne e hc exo_own) z) (fun c hc => ?_) fun c xs hc => ?_
      · rw [upd_ne (at_ne e hc exo_own), upd_ne (ne_of_none hc fd)]; exact hc
      · rw [upd_ne (at_ne e hc exo_tup), upd_ne (ne_of_none hc fd)]; exact hc
theorem ox_init {us : List Value} {Q : Value → Shared → Prop} (bs : Bs B nw ini tl) (T : OxC X.K nw tl C) (I : Inv X pins σ H s) (e : H a = some (exo a C none)) (hl : us.length ≤ sizeLine) (h : ∀ s', Inv X pins σ H s' → Q .none s') :
    wpAny (model X.prog X.w) A (call (.builtin ini) (.ref a :: us)) Q E s := by
  obtain ⟨nm, q, N, bss, sn, sub, ab, col, dd, k0, k1, k2, k3, k5, hC⟩ := T.cls
  obtain ⟨t1, ho⟩ := exo_at I.hok e
  obtain ⟨hp, g, d, t, os⟩ := s
  refine wpAny_call (PySem.HandSPX.init_base bs.f (fun Y => rfl) (I.kIn _ _ hC) ho hl fun h' t2 k hx => ?_)
  have J := I.write (t' := t) (x := a) (e := a) (o := exo a C none) (by rw [e]; exact True.intro) (.inl rfl) k ⟨_, hx⟩ (exo_ok hx)
  have eu : upd H a (exo a C none) = H := funext fun b => by
    by_cases hb : b = a
    · rw [hb, upd_same, e]
    · rw [upd_ne hb]
  exact h _ (eu ▸ J)
end
/-! ### readings -/
/-- B.__init__(self, x) -/
def tBIni (K : PySem.W.Frag) (nw : String) (tl : List Value) (ta : TA) : TE := fun σ H Q => ta σ H fun vs H1 => ∃ (a C : Addr) (ws : List V), vs = .ref a :: ws ∧ ws.length ≤ 1000 ∧ OxC K nw tl C ∧ H1 a = some (exo a C none) ∧ Q .non H1
/-- self.f = x -/
def tFld (K : PySem.W.Frag) (nw : String) (tl : List Value) (f : Str) (to te : TE) : TS := fun D σ H => te σ H fun y H1 => to σ H1 fun x H2 => ∃ a C : Addr, x = .ref a ∧ OxC K nw tl C ∧ PySem.W.findIn K (.ref C) f = some none ∧
  H2 a = some (exo a C none) ∧ ∀ dx, H2 dx = none → dx ≠ a → D.nx σ (upd (upd H2 dx (exd dx [(f, y)])) a (exo a C (some dx)))
section
variable {X : Cx} {o e : Expr} {es : List Expr} {to te : TE} {ta : TA} {f : Str} {p p' p1 p2 pos : Pos} {B nw ini : String} {tl : List Value}
theorem pe_bini {pl : Sem Bool} {BS : Str} (bs : Bs B nw ini tl) (hg : Gl X BS) (hm : X.mg BS = none) (hbt : bootBuiltins BS = some (.type B)) (hnn : BS ≠ "__name__") (hdb : (BS == ("__debug__" : Str)) = false) (vV : PySem.W.findCls X.K (.type B) (.type "type") "__init__" = some (.val (.builtin ini)))
    (ha : PA X (e :: es) ta)
    (hc : eval (.Call (.Attribute (.Name BS p1) "__init__" p2) (e :: es) [] pos) X.env = (do
      let ov ← eval (.Name BS p1) X.env
      standAt p2.atName
      let (fv, first) ← holding [ov] (getMethod ov "__init__" pl)
      callWith pos fv first (backTo pos (starEach (e :: es) X.env)) (backToKw pos (keywordEach [] X.env))) := by rfl)
    (he : starEach (e :: es) X.env = (false, eval e X.env) :: starEach es X.env := by rfl) (hpl : (backTo pos (starEach es X.env)).any (·.1) = false := by rfl) :
    PE X (.Call (.Attribute (.Name BS p1) "__init__" p2) (e :: es) [] pos) (tBIni X.K nw tl ta) := by
  refine ⟨fun pins s σ H Q I h => ?_⟩
  refine PySem.W.methodCall_KW (ld_blt I hg hm hbt ?_ hnn hdb) hc
  obtain ⟨m, fr⟩ := I.fr
  refine PySem.W.method_type fr I.ok.mod.kin bs.ty bs.st vV bs.hi ?_
  show wpAny _ _ (callWith pos (Value.builtin ini) [] (backTo pos (starEach (e :: es) X.env)) []) _ _ _
  refine PyProof.Rows.callWith_method1 (thn (ha.run pos pins _ σ H _ (I.tok _) h) fun us s1 hh => ?_) he hpl
  obtain ⟨vs, H1, I1, r1, a, C, ws, rfl, hl, T, ea, q⟩ := hh
  cases r1 with
  | @cons _ u0 _ ur ra rw' =>
    obtain rfl : u0 = Value.ref a := ra
    exact ox_init bs T I1 ea (by rw [← Paired.length rw', sizeLine_eq]; omega) fun s' J => ⟨.non, H1, J, rfl, q⟩
theorem ps_fld (bs : Bs B nw ini tl) (ho : PE X o to) (he : PE X e te) (hs : swapsWith e (some (.Attribute o f p')) pos.line X.env = pure false := by rfl) : PS X (.Assign [.Attribute o f p'] e pos) (tFld X.K nw tl f to te) := by
  refine ⟨fun pins s σ H D I h => plainObj_wpAny_Assign_Attribute (thn (he.run pins s σ H _ I h) fun v s1 hh => ?_) hs⟩
  obtain ⟨y, H1, I1, r1, q1⟩ := hh
  refine thn (ho.run pins s1 σ H1 _ I1 q1) fun u s2 hh => ?_
  obtain ⟨x, H2, I2, r2, a, C, rfl, T, hno, ea, q⟩ := hh
  obtain rfl : u = Value.ref a := r2
  exact ox_store bs T I2 ea hno r1 fun dx s' n ne J => ⟨σ, _, J, q dx n ne⟩
end
/-- the promise of such an __init__ -/
def spIni (K : PySem.W.Frag) (nw : String) (tl : List Value) (f : Str) : Sp := fun vs H Q _ => ∃ (a C : Addr) (v : V), vs = [.ref a, v] ∧ OxC K nw tl C ∧ PySem.W.findIn K (.ref C) f = some none ∧ H a = some (exo a C none) ∧ ∀ dx, H dx = none → dx ≠ a → Q .non (upd (upd H dx (exd dx [(f, v)])) a (exo a C (some dx)))
theorem ini_run {K : PySem.W.Frag} {nw : String} {tl : List Value} {f : Str} {N : List Str} {vs : List V} {H : Hp} {Q : VK} {E : XK} (h : spIni K nw tl f vs H Q E) (hN : N.length = 2) :
    tSeq (tDrop (tBIni K nw tl (tCons (tVar 0) (tCons (tVar 1) tNil)))) (tFld K nw tl f (tVar 0) (tVar 1)) { nx := fun _ H' => Q .non H', rt := Q } (L2.start N vs) H := by
  obtain ⟨a, C, v, rfl, T, hno, ea, q⟩ := h
  have e0 : (L2.start N [.ref a, v])[0]? = some (some (.ref a)) := rfl
  have e1 : (L2.start N [.ref a, v])[1]? = some (some v) := rfl
  exact ⟨_, e0, _, e1, a, C, [v], rfl, (by decide : 1 ≤ 1000), T, ea, _, e1, _, e0, a, C, rfl, T, hno, ea, q⟩
end DL

/-! DLu: C(e) of such a class, raised or kept as a value. -/
namespace DL
open PySem PySem.Spec PyProof.Rows L2 DLX
theorem exk_ok {P : Program} {w : World} {H : Hp} {h : Heap} {a C d : Addr} {oe : Obj} {vs : Array Value} (e : h.get? a = some oe) (z : Zc (.ref C) (some d) oe) (hd : oe.data = .fields vs) : ObjOk P w H h a (exk a C d) :=
  ⟨⟨oe, vs, e, z, hd⟩, ⟨_, e⟩, fun h1 h2 ⟨o, vs, e1, z1, d1⟩ k => ⟨o, vs, k _ e1, z1, d1⟩⟩
theorem exk_at {P : Program} {w : World} {H : Hp} {h : Heap} {a C d : Addr} (hok : HOk P w H h) (he : H a = some (exk a C d)) : ∃ (oe : Obj) (vs : Array Value), h.get? a = some oe ∧ Zc (.ref C) (some d) oe ∧ oe.data = .fields vs := by
  have x : ObjOk P w H h a (.ext fun h => ∃ (oe : Obj) (vs : Array Value), h.get? a = some oe ∧ Zc (.ref C) (some d) oe ∧ oe.data = .fields vs) := hok a _ he
  exact x.1
/-- raise C(e): what is wished -/
def tMk1 (C : Addr) (f : Str) (ta : TA) : L2.St → Hp → XK → Prop := fun σ H Q => ta σ H fun vs H1 => ∃ v, vs = [v] ∧ ∀ d, H1 d = none → Q (.ref C) (some d) (upd H1 d (.xd [(f, v)]))
/-- C(e) as a value -/
def tMkV (C : Addr) (f : Str) (ta : TA) : TE := fun σ H Q => ta σ H fun vs H1 => ∃ v, vs = [v] ∧ ∀ a d, H1 a = none → H1 d = none → d ≠ a → Q (.ref a) (upd (upd H1 d (.xd [(f, v)])) a (exk a C d))
/-- all that is asked of a class with its __init__ -/
structure OxI (P : Program) (w : World) (K : PySem.W.Frag) (mg : Str → Option Value) (base : Heap) (nw : String) (tl : List Value) (C : Addr) (f : Str) : Prop where
  c : OxC K nw tl C
  no : PySem.W.findIn K (.ref C) f = some none
  i : ∃ (fI : Addr) (fd : FuncData), PySem.W.findIn K (.ref C) "__init__" = some (some (.ref fI)) ∧ PySem.W.typeIn K (.ref fI) = some (.type "function") ∧ FnOk P w K mg base CX0 1 fI fd ["self", f] (spIni K nw tl f) ∧ Binds K fd ["self", f] []
section
variable {X : Cx} {e : Expr} {ta : TA} {f x : Str} {p pos : Pos} {C : Addr} {B nw ini : String} {tl : List Value}
/-- the making of C(u): the walk that both rules share -/
theorem ox_call {pins : List (Addr × Obj)} {σ : L2.St} {H1 : Hp} {s1 : Shared} {v : V} {u : Value} {Q : Value → Shared → Prop} {EE : Value → Shared → Prop} (bs : Bs B nw ini tl) (T : OxI X.prog X.w X.K X.mg X.base nw tl C f) (hr : Room 2 X.A) (I1 : Inv X pins σ H1 s1) (r : RelV v u)
    (h : ∀ (a d : Addr) (k2 : Heap) (H2 : Hp) (s2 : Shared), s1.heap.objs.size ≤ a → (∀ b o, s1.heap.get? b = some o → k2.get? b = some o) → H1 a = none → H1 d = none → d ≠ a → H2 = upd (upd (upd H1 a (exo a C none)) d (exd d [(f, v)])) a (exo a C (some d)) →
      Un (frs X.stack) [] (upd H1 a (exo a C none)) H2 k2 s2.heap → HOk X.prog X.w H2 s2.heap → s2.os = s1.os → AllBare s2.gens → Inv X pins σ H2 s2 → Q (.ref a) s2) :
    wpAny (model X.prog X.w) X.A (call (.ref C) [u]) Q EE s1 := by
  obtain ⟨nm, q, N, bss, sn, sub, ab, col, dd, k0, k1, k2, k3, k5, hC⟩ := T.c.cls
  obtain ⟨fI, fd, iC, tI, F1, hb⟩ := T.i
  obtain ⟨hp, g, dr, tk, os⟩ := s1
  have up1 : hp.objs.size ≤ hp.objs.size + 1 := Nat.le_succ _
  have fr1 : H1 (hp.objs.size + 1) = none := I1.hok.fresh up1
  have kk : ∀ b o, hp.get? b = some o → ((hp.push (PySem.W.kdv_tup [u])).push (PySem.HandSPX.excO C hp.objs.size)).get? b = some o := fun b o e => Heap.get?_push_of_some _ (Heap.get?_push_of_some _ e)
  have hget : ((hp.push (PySem.W.kdv_tup [u])).push (PySem.HandSPX.excO C hp.objs.size)).get? (hp.objs.size + 1) = some (PySem.HandSPX.excO C hp.objs.size) := by heap_get
  have I2 : Inv X pins σ (upd H1 (hp.objs.size + 1) (exo (hp.objs.size + 1) C none)) ⟨(hp.push (PySem.W.kdv_tup [u])).push (PySem.HandSPX.excO C hp.objs.size), g, dr, tk, os⟩ := I1.laid (t' := tk) kk up1 (exo_ok hget)
  have r2 : Vals [V.ref (hp.objs.size + 1), v] [Value.ref (hp.objs.size + 1), u] := .cons rfl (.cons r .nil)
  refine wpAny_call (PySem.HandSPX.call_own bs.f (fun Y => rfl) (I1.kIn _ _ hC) (PySem.W.looks_findIn I1.kIn iC) (fun self => PySem.W.bind_fn I1.kIn self tI) (by rw [sizeLine_eq]; show 1 ≤ 16777216; decide)
    (codeAny_mono (F1.run _ X.stack _ (upd H1 (hp.objs.size + 1) (exo (hp.objs.size + 1) C none)) ⟨[.ref (hp.objs.size + 1), u], []⟩ [.ref (hp.objs.size + 1), u] [.ref (hp.objs.size + 1), v]
      (fun v' H2 => v' = .non ∧ ∃ d, H1 d = none ∧ d ≠ hp.objs.size + 1 ∧ H2 = upd (upd (upd H1 (hp.objs.size + 1) (exo (hp.objs.size + 1) C none)) d (exd d [(f, v)])) (hp.objs.size + 1) (exo (hp.objs.size + 1) C (some d))) (fun _ _ _ => False)
      (hr.make C [u] []) (I2.env0.make C [u] []) (by have := hb _ [.ref (hp.objs.size + 1), u] I2.kIn rfl; rw [List.append_nil] at this; exact this) r2 ?_) fun r s' hq' => ?_))
  · refine ⟨_, C, v, rfl, T.c, T.no, upd_same, fun dx hdx hne => ⟨rfl, dx, ?_, hne, rfl⟩⟩
    rw [upd_ne hne] at hdx; exact hdx
  · cases r with
    | error er => exact hq'.elim
    | ok fl =>
      cases fl with
      | ret u' =>
        have J := I2.after hq'
        obtain ⟨v', H2, J2, _, _⟩ := J
        obtain ⟨v2, H3, os2, bare2, un2, hok2, rv, ev, d, hd, dne, eH⟩ := hq'
        subst ev
        refine ⟨rv, h _ d _ H3 s' up1 kk fr1 hd dne eH un2 hok2 os2 bare2 ?_⟩
        have K2 := I2.after (Q := fun v' H2 => v' = .non ∧ H2 = H3) ⟨.non, H3, os2, bare2, un2, hok2, rv, rfl, rfl⟩
        obtain ⟨_, _, J3, _, _, e3⟩ := K2
        rw [← e3]; exact J3
      | next => exact hq'.elim
      | brk => exact hq'.elim
      | cont => exact hq'.elim
theorem pmk_ox (bs : Bs B nw ini tl) (T : OxI X.prog X.w X.K X.mg X.base nw tl C f) (hr : Room 2 X.A) (hg : Gl X x) (hm : X.mg x = some (.ref C)) (ha : PA X [e] ta) (hdb : (x == ("__debug__" : Str)) = false := by decide)
    (he : starEach [e] X.env = (false, eval e X.env) :: starEach [] X.env := by rfl) (hpl : (backTo pos (starEach [] X.env)).any (·.1) = false := by rfl) : PMk X (.Call (.Name x p) [e] [] pos) (tMk1 C f ta) := by
  intro pins s σ H Q I h
  refine wpAny_Call_Name_kw (ld_glob I hg hm ?_ hdb)
  refine PySem.W.callWith_K (h₀ := X.base) I.ok.mod.kin T.c.kp (thn (ha.run pos pins s σ H _ I h) fun us s1 hh => ?_) he hpl
  obtain ⟨vs, H1, I1, r1, v, rfl, q1⟩ := hh
  refine ⟨I1.kIn, ?_⟩
  cases r1 with
  | cons rv rn =>
    cases rn
    refine ox_call bs T hr I1 rv fun a d k2 H2 s2 ha1 kk na nd ne eH un2 hok2 os2 bare2 _ => ?_
    have ea : H2 a = some (exo a C (some d)) := by rw [eH]; exact upd_same
    have ed : H2 d = some (exd d [(f, v)]) := by rw [eH, upd_ne ne]; exact upd_same
    have eq : upd (del H2 a) d (.xd [(f, v)]) = upd H1 d (.xd [(f, v)]) := funext fun b => by
      by_cases hb : b = d
      · rw [hb, upd_same, upd_same]
      · rw [upd_ne hb, upd_ne hb]
        by_cases hba : b = a
        · rw [hba, del_same, na]
        · rw [del_ne hba, eH, upd_ne hba, upd_ne hb, upd_ne hba]
    obtain ⟨hp, g1, d1, t1, os1⟩ := s1
    obtain ⟨h2, g2, d2, t2, os2'⟩ := s2
    exact mk_end (raises_own T.c.ex T.c.ty) I1 ha1 kk un2 hok2 os2 bare2 ea ed nd (by rw [eq]; exact q1 d nd)
theorem pe_ox (bs : Bs B nw ini tl) (T : OxI X.prog X.w X.K X.mg X.base nw tl C f) (hr : Room 2 X.A) (hg : Gl X x) (hm : X.mg x = some (.ref C)) (ha : PA X [e] ta) (hdb : (x == ("__debug__" : Str)) = false := by decide)
    (he : starEach [e] X.env = (false, eval e X.env) :: starEach [] X.env := by rfl) (hpl : (backTo pos (starEach [] X.env)).any (·.1) = false := by rfl) : PE X (.Call (.Name x p) [e] [] pos) (tMkV C f ta) := by
  refine ⟨fun pins s σ H Q I h => ?_⟩
  refine wpAny_Call_Name_kw (ld_glob I hg hm ?_ hdb)
  refine PySem.W.callWith_K (h₀ := X.base) I.ok.mod.kin T.c.kp (thn (ha.run pos pins s σ H _ I h) fun us s1 hh => ?_) he hpl
  obtain ⟨vs, H1, I1, r1, v, rfl, q1⟩ := hh
  refine ⟨I1.kIn, ?_⟩
  cases r1 with
  | cons rv rn =>
    cases rn
    refine ox_call bs T hr I1 rv fun a d k2 H2 s2 ha1 kk na nd ne eH un2 hok2 os2 bare2 J => ?_
    have ea : H2 a = some (exo a C (some d)) := by rw [eH]; exact upd_same
    have ed : H2 d = some (exd d [(f, v)]) := by rw [eH, upd_ne ne]; exact upd_same
    obtain ⟨t1, ho⟩ := exo_at hok2 ea
    obtain ⟨mA, hn, rel⟩ := exd_at hok2 ed
    obtain ⟨h2, g2, d2, t2, os2'⟩ := s2
    have J1 := J.write (t' := t2) (h' := h2) (x := a) (e := a) (o := exk a C d) (by rw [ea]; exact True.intro) (.inl rfl) (fun b u _ q => q) ⟨_, ho⟩ (exk_ok ho ⟨rfl, rfl⟩ rfl)
    have ed1 : upd H2 a (exk a C d) d = some (exd d [(f, v)]) := by rw [upd_ne ne]; exact ed
    obtain ⟨od, _, _, hod, _⟩ := id hn
    have J2 := J1.write (t' := t2) (h' := h2) (x := d) (e := d) (o := .xd [(f, v)]) (by rw [ed1]; exact True.intro) (.inl rfl) (fun b u _ q => q) ⟨_, hod⟩ ⟨mA, hn, rel⟩
    have eq : upd (upd H2 a (exk a C d)) d (.xd [(f, v)]) = upd (upd H1 d (.xd [(f, v)])) a (exk a C d) := funext fun b => by
      by_cases hba : b = a
      · rw [hba, upd_ne (Ne.symm ne), upd_same, upd_same]
      · rw [upd_ne hba]
        by_cases hb : b = d
        · rw [hb, upd_same, upd_same]
        · rw [upd_ne hb, upd_ne hb, upd_ne hba, eH, upd_ne hba, upd_ne hb, upd_ne hba]
    rw [eq] at J2
    exact ⟨.ref a, _, J2, rfl, q1 a d na nd ne⟩
end
end DL

/-! DLv: try: body, except (A, B, ..) as e: x = e. The exception is tracked behind it. -/
namespace DLX
open PySem PySem.W PySem.Spec PySem.Calls PyProof.Rows
section
variable {M : Model} {K : Frag}
theorem any_all {cls : Value} : ∀ (cs : List Value) (b : Bool), exmAny K cls cs = some b → (∀ c ∈ cs, exmOne K cls c = some ((exmOne K cls c).getD false)) ∧ b = cs.any fun c => (exmOne K cls c).getD false
  | [], b, e => by cases e; exact ⟨fun c h => (nomatch h), rfl⟩
  | c :: r, b, e => by
    obtain ⟨b1, d1, x1, y1, z1⟩ := exmAny_cons e
    obtain ⟨ih, e2⟩ := any_all r d1 y1
    refine ⟨fun x hx => ?_, by rw [List.any_cons, x1, z1, e2]; rfl⟩
    rcases List.mem_cons.mp hx with rfl | hx
    · rw [x1]; rfl
    · exact ih x hx
theorem for_all {A : Around} {E : Value → Shared → Prop} {s : Shared} {f : Value → PUnit → Sem (ForInStep PUnit)} {Q : PUnit → Shared → Prop} (q : Q ⟨⟩ s) : ∀ (cs : List Value), (∀ c ∈ cs, ∀ Q' : ForInStep PUnit → Shared → Prop, Q' (.yield ⟨⟩) s → wpAny M A (f c ⟨⟩) Q' E s) → wpAny M A (forIn cs ⟨⟩ f) Q E s
  | [], _ => by simp only [List.forIn_nil]; exact wpAny_pure q
  | c :: r, h => by
    simp only [List.forIn_cons]
    exact wpAny_bind (h c List.mem_cons_self _ (for_all q r fun x hx => h x (List.mem_cons_of_mem _ hx)))
theorem for_find {A : Around} {E : Value → Shared → Prop} {s : Shared} {f : Value → Option Bool × Unit → Sem (ForInStep (Option Bool × Unit))} {Q : Option Bool × Unit → Shared → Prop} (tab : Value → Bool) : ∀ (cs : List Value),
    (∀ c ∈ cs, ∀ Q' : ForInStep (Option Bool × Unit) → Shared → Prop, Q' (if tab c then .done (some true, ()) else .yield (none, ())) s → wpAny M A (f c (none, ())) Q' E s) → Q (if cs.any tab then some true else none, ()) s → wpAny M A (forIn cs (none, ()) f) Q E s
  | [], _, q => by simp only [List.forIn_nil]; exact wpAny_pure q
  | c :: r, h, q => by
    simp only [List.forIn_cons]
    refine wpAny_bind (h c List.mem_cons_self _ ?_)
    cases ht : tab c with
    | true => simp only [List.any_cons, ht, Bool.true_or, if_true] at q ⊢; exact wpAny_pure q
    | false =>
      simp only [List.any_cons, ht, Bool.false_or, Bool.false_eq_true, if_false] at q ⊢
      exact for_find tab r (fun x hx => h x (List.mem_cons_of_mem _ hx)) q
/-- except (c1, c2, ..): of any number of classes -/
theorem exm_tupN {cs : List Value} {cls : Value} {tp e : Addr} {b : Bool} {h : Heap} (KX : K.In h) (LT : Looks M h (typeOf (.ref e)) cls) (hp : h.get? tp = some { cls := .type "tuple", data := .seq cs.toArray }) (hx : exmAny K cls cs = some b) :
    Looks M h (excMatches (.ref e) (.ref tp)) b := by
  intro A Q E s k0 q
  obtain ⟨hh, g, d, tk, os⟩ := s
  have k : ∀ b o, h.get? b = some o → hh.get? b = some o := k0
  have T0 : Looks M h (isInstance (.ref tp) (.type "tuple")) true := ((Looks.ld hp).andThen .now).andThen (Looks.of_pure isSubtype_tuple_tuple)
  obtain ⟨al, eb⟩ := any_all cs b hx
  have hp' := k _ _ hp
  unfold excMatches
  refine wpAny_bind ((T0.keeps k).at ?_)
  dsimp only
  rw [if_pos rfl]
  first
    | refine wpAny_bind (wpAny_seqItems hp' rfl ?_)
    | refine wpAny_bind (wpAny_bind (wpAny_seqItems hp' rfl (wpAny_pure ?_)))
  dsimp only [Option.getD_some, Option.getD]
  refine wpAny_bind (wpAny_pure (wpAny_bind (for_all ?_ _ fun c hc Q' q' => ?_)))
  · refine wpAny_bind ((LT.keeps k).here ?_)
    refine wpAny_bind (for_find (fun c => (exmOne K cls c).getD false) _ (fun c hc Q' q' => ?_) ?_)
    · obtain ⟨_, e1⟩ := exm_cls (M := M) KX (al c hc)
      refine wpAny_bind ((e1.keeps k).here ?_)
      cases hq : (exmOne K cls c).getD false with
      | true => rw [hq] at q'; simp only [if_true] at q' ⊢; exact wpAny_pure q'
      | false => rw [hq] at q'; simp only [Bool.false_eq_true, if_false] at q' ⊢; exact wpAny_pure q'
    · dsimp only
      rw [← eb]
      cases b with
      | true => simp only [if_true]; exact wpAny_pure q
      | false => simp only [Bool.false_eq_true, if_false]; exact wpAny_pure q
  · obtain ⟨e1, _⟩ := exm_cls (M := M) KX (al c hc)
    refine wpAny_bind ((e1.keeps k).here ?_)
    simp only [Bool.not_true, Bool.false_eq_true, if_false]
    exact wpAny_pure q'
end
end DLX

/-! DLw: the rule of the try. -/
namespace DL
open PySem PySem.Spec PyProof.Rows L2 DLX
/-- names of classes, and what they hold -/
inductive NmL (X : Cx) : List Expr → List Value → Prop
  | nil : NmL X [] []
  | cons {x : Str} {c : Value} {p : Pos} {es : List Expr} {cs : List Value} (h : Names X x c) (r : NmL X es cs) : NmL X (.Name x p :: es) (c :: cs)
section
variable {X : Cx} {pins : List (Addr × Obj)} {σ : L2.St} {H : Hp} {s : Shared} {a : Addr} {o : HO}
theorem NmL.len {es : List Expr} {cs : List Value} (h : NmL X es cs) : es.length = cs.length := by
  induction h with
  | nil => rfl
  | cons _ _ ih => rw [List.length_cons, List.length_cons, ih]
/-- the names of the clause, read while an exception is handled -/
theorem NmL.run {b : Addr} {pn : List (Addr × Obj)} {E : Value → Shared → Prop} {M : Model} {pos : Pos} (I : Inv (X.suite b pn) pins σ H s) : ∀ {es : List Expr} {cs : List Value}, NmL X es cs → ∀ {Q : List Value → Shared → Prop}, Q cs s → wpAny (model X.prog X.w) (X.A.mark (some (.ref b))) (spliced (backTo pos (starEach es X.env))) Q E s
  | _, _, .nil, Q, q => wpAny_items_nil q
  | _, _, .cons (x := x) (c := c) h r, Q, q => by
    refine wpAny_items_cons ?_
    obtain ⟨hg, hdbg, hm | ⟨hm, hv, hnn⟩⟩ := h
    · exact ld_glob (X := X.suite b pn) I hg hm (NmL.run (M := M) I r q) hdbg
    · exact ld_blt (X := X.suite b pn) I hg hm hv (NmL.run (M := M) I r q) hnn hdbg
/-- an object that stood untracked, of this body's own time, is tracked -/
theorem Inv.track (I : Inv X pins σ H s) (n0 : X.s_0.heap.get? a = none) (hn : H a = none) (nP : ∀ p ∈ X.pn ++ pins, p.1 ≠ a) (nL : a ≠ X.env.locals) (nC : ∀ x c, X.env.cells.lookup x = some c → c ≠ a) (new : ObjOk X.prog X.w (upd H a o) s.heap a o) : Inv X pins σ (upd H a o) s := by
  have bn := I.base
  refine ⟨I.ok, I.os, I.bare, ⟨bn.keep, bn.slot, fun b u q n hx => ?_, bn.there, fun b xs q => ?_, fun b u v q => ?_, fun b ps q => ?_⟩, I.loc, I.cell, ?_, fun x c e => ?_, fun p hp => ?_, I.hok.laidN (fun _ _ q => q) hn new, I.len⟩
  · rw [upd_ne (fun z => by rw [z, n0] at q; cases q)]; exact bn.free b u q n hx
  · have := bn.tups b xs q
    rw [upd_ne (ne_of_none this hn)]; exact this
  · have := bn.frzs b u v q
    rw [upd_ne (ne_of_none this hn)]; exact this
  · obtain ⟨m, e⟩ := bn.tbls b ps q
    exact ⟨m, by rw [upd_ne (ne_of_none e hn)]; exact e⟩
  · rw [upd_ne nL.symm]; exact I.free
  · rw [upd_ne (nC x c e)]; exact I.freeC x c e
  · obtain ⟨h1, h2, h3⟩ := I.pin p hp
    exact ⟨h1, by rw [upd_ne (nP p hp)]; exact h2, h3⟩
end
/-- what the clause wishes: slot i is the clause's name, slot j keeps the exception -/
def wKeep (K : PySem.W.Frag) (cs : List Value) (i j : Nat) (Wout : WX) (D : Ends) : WX := fun cls d σ H =>
  ∃ b, PySem.W.exmAny K cls cs = some b ∧ (b = true → ∃ C dx, cls = .ref C ∧ d = some dx ∧ ∀ a, H a = none → D.nx (((σ.set i (some (.ref a))).set j (some (.ref a))).set i none) (upd H a (exk a C dx))) ∧ (b = false → Wout cls d σ H)
theorem flyZ_keeps {B h h' : Heap} {l : List Env} {e : Addr} {Z : Obj → Prop} (R : PySem.HandSPX.FlyingZ B l e Z h) (k : ∀ b o, h.get? b = some o → h'.get? b = some o) : PySem.HandSPX.FlyingZ B l e Z h' := by
  obtain ⟨f1, f2, f3, oe, ws, T, oT, ts, he, hz, hd, h1, hn, hne, hT, hdT, h3⟩ := R
  exact ⟨fun b o q => k b o (f1 b o q), f2, f3.of_keeps fun b o q _ => ⟨o, k b o q, rfl⟩, oe, ws, T, oT, ts, k _ _ he, hz, hd, h1, hn, hne, k _ _ hT, hdT, h3⟩
section
variable {X : Cx} {n x : Str} {i j : Nat} {body : List Stmt} {es : List Expr} {cs : List Value} {kk : Nat} {p1 p2 p3 tpos pos pos' : Pos} {tb : WX → TS} {Wout : WX}
theorem ps_keep (hs : X.stack = X.env :: X.outer) (hf : X.env.frame = some X.env.locals) (hex : X.ex = []) (hN : X.N.Nodup) (hi : X.N[i]? = some n) (hln : X.env.kindOf n = some .local) (hj : X.N[j]? = some x) (hlx : X.env.kindOf x = some .local) (hvis : Vis X.env.scope n) (hnd : (n == ("__debug__" : Str)) = false) (hncd : (n == ("__classdict__" : Str)) = false) (hc : NmL X es cs) (hcl : cs.length ≤ 1000) (tk : Takes X Wout)
    (hb : ∀ (W : WX) (pn : List (Addr × Obj)) (xe : Value → Shared → Prop), Takes (X.tr pn xe) W → PassesOwn (model X.prog X.w) X.A X.env xe → PSs (X.tr pn xe) body (tb W)) :
    PS X (.Try body [.ExceptHandler (some (.Tuple es kk tpos)) (some n) [.Assign [.Name x p1] (.Name n p2) p3] pos'] [] [] pos) (fun D σ H => tb (wKeep X.K cs i j Wout D) D σ H) := by
  refine ⟨fun pins s σ H D I h => ?_⟩
  have ok := I.ok
  have hfr : X.A.frames = some (X.env :: X.outer) := by rw [ok.frames, hs]
  refine wpAny_Try_except ?_
  refine wpAny_mono ((hb (wKeep X.K cs i j Wout D) (X.pn ++ pins) (fun e s₁ => wpAny (model X.prog X.w) X.A (noteFrame e X.env) (fun _ s₂ => wpAny (model X.prog X.w) X.A (setFlight e none) (fun _ s₃ =>
    wpAny (model X.prog X.w) X.A (handleBy e X.env [.ExceptHandler (some (.Tuple es kk tpos)) (some n) [.Assign [.Name x p1] (.Name n p2) p3] pos']) (SP X pins D) X.xe s₃) X.xe s₂) X.xe s₁) (fun u s' xx => ?_) PassesOwn.looking).run [] s σ H D (I.toTry _) h) (fun f s1 hsp => ?_) (fun e s1 he => he)
  · obtain ⟨a, B, sI, pins', σ', H', cls, d, rfl, J', nb, up, sky, na, os, ag, b, hb1, hyes, hno⟩ := xx
    have J : Inv X pins σ' H' sI := J'.ofTry ok
    rw [hs] at sky
    show wpAny (model X.prog X.w) X.A (noteFrame (.ref a) X.env) _ _ _
    refine Sky.land Zc.steady hfr hf sky fun h3 fl3 up3 => ?_
    have J3 : Inv X pins σ' H' { s' with heap := h3 } := J.landed nb fl3.1 (up.trans up3) os ag
    obtain ⟨oe3, vs3, he3, hz3, hd3⟩ := fl3.there
    have nfr : a ∉ frs (X.env :: X.outer) := fun hm => by
      obtain ⟨_, o', e', hnf⟩ := fl3.2.2.1.mem hm
      rw [he3] at e'; cases e'
      exact hnf _ hd3
    have nL : a ≠ X.env.locals := fun z => nfr (List.mem_filterMap.mpr ⟨X.env, List.mem_cons_self, by rw [hf, z]⟩)
    have nF : a ∉ X.fs := fun hm => by
      obtain ⟨e, he, q⟩ := List.mem_filterMap.mp hm
      exact nfr (List.mem_filterMap.mpr ⟨e, List.mem_cons_of_mem _ he, q⟩)
    have nI : sI.heap.get? a = none := by
      cases q : sI.heap.get? a with
      | none => rfl
      | some ob =>
        have z := nb a ob q (by rw [hs]; exact nfr)
        rw [fl3.2.1] at z; cases z
    have n0 : X.s_0.heap.get? a = none := by
      cases q : X.s_0.heap.get? a with
      | none => rfl
      | some ob =>
        obtain ⟨o', e'⟩ := J.base.there a ob q (by rw [hex]; exact fun z => nomatch z)
        rw [nI] at e'; cases e'
    have nC : ∀ y c, X.env.cells.lookup y = some c → c ≠ a := fun y c e z => by
      obtain ⟨v, o', ho, _⟩ := J.cell y c e
      rw [z, nI] at ho; cases ho
    have nP : ∀ p ∈ X.pn ++ pins, p.1 ≠ a := fun p hp z => by
      have := (J.pin p hp).1
      rw [z, nI] at this; cases this
    have S3 := J3.suite he3 hd3 na nL nF
    refine wpAny_handleBy_cons (codeAny_handlers_test ?_) (by intro q; cases q)
    refine wpAny_Tuple (NmL.run (M := model X.prog X.w) S3 hc ⟨Nat.le_trans hcl (by decide), ?_⟩)
    have kp : ∀ q ob, h3.get? q = some ob → (h3.push { cls := .type "tuple", data := .seq cs.toArray }).get? q = some ob := fun _ _ z => Heap.get?_push_of_some _ z
    have LT : PySem.W.Looks (model X.prog X.w) h3 (typeOf (.ref a)) cls := fun A Q E s k q => wpAny_typeOf_ref (k _ _ he3) (by rw [hz3.1]; exact q)
    refine (exm_tupN (J3.kIn.keeps kp) (LT.keeps kp) (Heap.get?_push_size h3 rfl) hb1).here ?_
    have fl3' := flyZ_keeps fl3 kp
    have up3' : s'.heap.UpToSlots (h3.push { cls := .type "tuple", data := .seq cs.toArray }) := up3.trans (Heap.UpToSlots.of_keeps kp)
    cases b with
    | true =>
      obtain ⟨C, dx, rfl, rfl, q6⟩ := hyes rfl
      refine codeAny_handlers_suite_as ?_
      refine HandSPX.lands_againZ fl3' fun h4 fl4 up4 => ?_
      have J4 : Inv X pins σ' H' { s' with heap := h4 } := J.landed nb fl4.1 ((up.trans up3').trans up4) os ag
      obtain ⟨oe4, vs4, he4, hz4, hd4⟩ := fl4.there
      have S4 := J4.suite he4 hd4 na nL nF
      refine store_ok (X := X.suite a ((a, oe4) :: (X.pn ++ pins))) (v := .ref a) S4 hN hi (.inl hln) rfl (fun s5 S5 => ?_) (.inr hln)
      have hlt : i < σ'.length := by
        rw [J4.len]
        exact (List.getElem?_eq_some_iff.mp hi).1
      have su : PSs (X.suite a ((a, oe4) :: (X.pn ++ pins))) [.Assign [.Name x p1] (.Name n p2) p3] (tAsg (tVar i) (gName j)) := pss_one (ps_set (i := j) (hf := Or.inr hlx) hN hj (Or.inl hlx) (pe_var hi hvis hnd hncd))
      refine wpAny_mono (su.run [] s5 _ H' { nx := fun σ6 H6 => σ6 = (σ'.set i (some (.ref a))).set j (some (.ref a)) ∧ H6 = H', rt := fun _ _ => False, bk := fun _ _ => False, ct := fun _ _ => False } S5 ⟨.ref a, List.getElem?_set_self hlt, rfl, rfl⟩) (fun f s6 hsp => ?_) (fun _ _ z => False.elim z)
      cases f with
      | next =>
        obtain ⟨σ6, H6, S6, rfl, rfl⟩ := hsp
        have p6 := (S6.pin (a, oe4) (List.mem_append_left _ List.mem_cons_self)).1
        have J6 := S6.unsuite ok
        have T6 := Inv.track (o := exk a C dx) J6 n0 na nP nL nC (exk_ok p6 hz4 hd4)
        exact gone_ok T6 hN hi hln fun s7 J7 => ⟨_, _, J7, q6 a na⟩
      | brk => obtain ⟨_, _, _, z⟩ := hsp; exact z.elim
      | cont => obtain ⟨_, _, _, z⟩ := hsp; exact z.elim
      | ret u => obtain ⟨_, _, _, _, _, z⟩ := hsp; exact z.elim
    | false =>
      show wpAny _ X.A (handleBy (.ref a) X.env []) _ _ _
      refine wpAny_handleBy_nil ?_
      obtain ⟨k1, k2, k3, oe, vs, T, oT, ts', he, hz, hd, h1, hr⟩ := id fl3'
      unfold PySem.passOn
      refine wpAny_bind (wpAny_field he hd h1 ?_)
      rw [if_neg (show ¬ ((Value.ref T == Value.none) = true) from by simp)]
      have fin : wpAny (model X.prog X.w) X.A (setFlight (.ref a) X.env.frame) (fun _ s4 => wpAny (model X.prog X.w) X.A (throw (.ref a) : Sem Flow) (SP X pins D) X.xe s4) X.xe { s' with heap := h3.push { cls := .type "tuple", data := .seq cs.toArray } } := by
        rw [hf]
        refine HandSPX.setFlight_upZ fl3' fun h4 hh4 up4 => wpAny_throw (tk _ _ ?_)
        exact ⟨a, B, sI, pins, σ', H', cls, d, rfl, J, nb, (up.trans up3').trans up4, .inr (.inr (by rw [hs]; exact hh4)), na, os, ag, hno rfl⟩
      first
        | exact wpAny_bind (wpAny_pure (wpAny_bind fin))
        | exact wpAny_bind fin
  · cases f with
    | next =>
      obtain ⟨σ', H', J', q⟩ := hsp
      exact wpAny_execs_nil ⟨σ', H', J'.ofTry ok, q⟩
    | brk => obtain ⟨σ', H', J', q⟩ := hsp; exact ⟨σ', H', J'.ofTry ok, q⟩
    | cont => obtain ⟨σ', H', J', q⟩ := hsp; exact ⟨σ', H', J'.ofTry ok, q⟩
    | ret u => obtain ⟨v, σ', H', J', r, q⟩ := hsp; exact ⟨v, σ', H', J'.ofTry ok, r, q⟩
end
end DL

/-! DLx: defs that may raise, over data. -/
namespace DL
open PySem L2
/-- what a def that may raise computes -/
inductive RX (α : Type) where
  | ok (a : α)
  | ex (c : Str) (d : D)
  | bad
section
variable {X : Cx} {K : PySem.W.Frag} {Wx : WX} {ta tb te : TE} {tt : TT} {tas tks : TA} {t u : TS} {b0 : Option Addr} {B Z0 Z H : Hp} {σ : L2.St} {ρ : Rho}
/-! ### promises -/
def ExO (K : PySem.W.Frag) (H Z : Hp) (E : XK) (c : Str) (d : D) : Prop := ∀ C dx v H' Z', Same H H' → Grow H Z Z' H' → Cls K c C → Z' dx = some (.xd [(fld c, v)]) → Rp K Z' v d → E (.ref C) (some dx) H'
def spX (K : PySem.W.Frag) (np : Nat) (F : List D → RX D) : Sp := fun vs H Q E => vs.length = np ∧ ∃ Z ds, Same Z H ∧ RpA K Z vs ds ∧ match F ds with
  | .ok d => ∀ v H' Z', Same H H' → Grow H Z Z' H' → Rp K Z' v d → Q v H'
  | .ex c d => ExO K H Z E c d
  | .bad => False
def spXF (K : PySem.W.Frag) (np : Nat) (F : List D → RX (List D)) : Sp := fun vs H Q E => vs.length = np ∧ ∃ Z ds, Same Z H ∧ RpA K Z vs ds ∧ match F ds with
  | .ok es => ∀ p ws H' Z', Same H H' → Grow H Z Z' H' → H p = none → Z' p = none → H' p = some (.lst ws) → RpA K Z' ws es → Q (.ref p) H'
  | .ex c d => ExO K H Z E c d
  | .bad => False
def callX (np n : Nat) (g : GS) : List D → RX D := fun args => if args.length ≠ np then .bad else match g (env0 n args) with
  | .rt d _ => .ok d
  | .nx _ => .ok .none
  | .rf ds _ => .ok (.list ds)
  | .ex c d _ => .ex c d
  | _ => .bad
def callXF (np n : Nat) (g : GS) : List D → RX (List D) := fun args => if args.length ≠ np then .bad else match g (env0 n args) with
  | .rf ds _ => .ok ds
  | .ex c d _ => .ex c d
  | _ => .bad
theorem callX_len {np n : Nat} {g : GS} : ∀ ds, callX np n g ds ≠ .bad → ds.length = np := fun ds h => by
  unfold callX at h
  split at h
  · exact absurd rfl h
  · omega
theorem callXF_len {np n : Nat} {g : GS} : ∀ ds, callXF np n g ds ≠ .bad → ds.length = np := fun ds h => by
  unfold callXF at h
  split at h
  · exact absurd rfl h
  · omega
theorem run_X {N : List Str} {np : Nat} {g : GS} {vs : List V} {Q : VK} {E : XK} (h : DS K (fun cls d _ H => E cls d H) t g) (hk : np ≤ N.length) (hs : spX K np (callX np N.length g) vs H Q E) : t { nx := fun _ H' => Q .non H', rt := Q } (L2.start N vs) H := by
  obtain ⟨hl, Z, ds, sZ, ra, q⟩ := hs
  have ok := ok_start (N := N) sZ ra (by omega)
  refine h _ _ _ _ _ _ _ _ ok ?_
  unfold callX at q
  rw [if_neg (by rw [← ra.length]; omega)] at q
  cases e' : g (env0 N.length ds) with
  | rt d ρ' => rw [e'] at q; exact fun v σ' H' Z' ok' r => q v H' Z' ok'.bh ⟨ok'.zz, ok'.zh, ok'.nb⟩ r
  | nx ρ' => rw [e'] at q; exact fun σ' H' Z' ok' => q .non H' Z' ok'.bh ⟨ok'.zz, ok'.zh, ok'.nb⟩ .non
  | rf ds' ρ' =>
    rw [e'] at q
    intro p ws σ' H' Z' ok' zp bp ap hp r
    obtain ⟨ok2, s2⟩ := ok'.freeze zp bp ap hp
    exact q (.ref p) H' _ ok2.bh ⟨ok2.zz, ok2.zh, ok2.nb⟩ (.lst upd_same (r.mono s2))
  | ex c d ρ' => rw [e'] at q; exact fun σ' H' Z' C dx v ok' hc hx r => q C dx v H' Z' ok'.bh ⟨ok'.zz, ok'.zh, ok'.nb⟩ hc hx r
  | bk ρ' => rw [e'] at q; exact q.elim
  | ct ρ' => rw [e'] at q; exact q.elim
  | bad => rw [e'] at q; exact q.elim
theorem run_XF {N : List Str} {np : Nat} {g : GS} {vs : List V} {Q : VK} {E : XK} (h : DS K (fun cls d _ H => E cls d H) t g) (hk : np ≤ N.length) (hs : spXF K np (callXF np N.length g) vs H Q E) : t { nx := fun _ H' => Q .non H', rt := Q } (L2.start N vs) H := by
  obtain ⟨hl, Z, ds, sZ, ra, q⟩ := hs
  have ok := ok_start (N := N) sZ ra (by omega)
  refine h _ _ _ _ _ _ _ _ ok ?_
  unfold callXF at q
  rw [if_neg (by rw [← ra.length]; omega)] at q
  cases e' : g (env0 N.length ds) with
  | rf ds' ρ' =>
    rw [e'] at q
    intro p ws σ' H' Z' ok' zp bp ap hp r
    exact q p ws H' Z' ok'.bh ⟨ok'.zz, ok'.zh, ok'.nb⟩ bp zp hp r
  | ex c d ρ' => rw [e'] at q; exact fun σ' H' Z' C dx v ok' hc hx r => q C dx v H' Z' ok'.bh ⟨ok'.zz, ok'.zh, ok'.nb⟩ hc hx r
  | rt d ρ' => rw [e'] at q; exact q.elim
  | nx ρ' => rw [e'] at q; exact q.elim
  | bk ρ' => rw [e'] at q; exact q.elim
  | ct ρ' => rw [e'] at q; exact q.elim
  | bad => rw [e'] at q; exact q.elim
/-! ### calls of such a def -/
def RX.at {α : Type} (r : RX α) (ρ : Rho) : R α := match r with
  | .ok a => .ok a ρ
  | .ex c d => .ex c d ρ
  | .bad => .bad
def eCallX {α : Type} (F : List D → RX α) (ga : GA) (ρ : Rho) : R α := match ga ρ with
  | .ok os ρ1 => (match valA os with
    | some ds => (F ds).at ρ1
    | none => .bad)
  | _ => .bad
def eCallWX {α : Type} (F : List D → RX α) (m : Nat) (g : {α : Type} → List α → List α) (ga : GA) (ρ : Rho) : R α := match ga ρ with
  | .ok os ρ1 => (match valA os with
    | some ds => if ds.length = m then (F (g ds)).at ρ1 else .bad
    | none => .bad)
  | _ => .bad
theorem RX.at_ok {α : Type} {r : RX α} {ρ ρ' : Rho} {a : α} (h : r.at ρ = .ok a ρ') : r = .ok a ∧ ρ = ρ' := by
  cases r with
  | ok b => cases h; exact ⟨rfl, rfl⟩
  | ex c d => cases h
  | bad => cases h
theorem callX_ok {α : Type} {F : List D → RX α} {ga : GA} {ρ ρ' : Rho} {z : α} (e : eCallX F ga ρ = .ok z ρ') : ∃ os ds, ga ρ = .ok os ρ' ∧ valA os = some ds ∧ F ds = .ok z := by
  unfold eCallX at e
  split at e
  · rename_i os ρ1 h1
    split at e
    · rename_i ds hv
      obtain ⟨e3, rfl⟩ := RX.at_ok e
      exact ⟨os, ds, h1, hv, e3⟩
    · cases e
  · cases e
theorem callWX_ok {α : Type} {F : List D → RX α} {m : Nat} {g : {α : Type} → List α → List α} {ga : GA} {ρ ρ' : Rho} {z : α} (e : eCallWX F m g ga ρ = .ok z ρ') : ∃ os ds, ga ρ = .ok os ρ' ∧ valA os = some ds ∧ ds.length = m ∧ F (g ds) = .ok z := by
  unfold eCallWX at e
  split at e
  · rename_i os ρ1 h1
    split at e
    · rename_i ds hv
      split at e
      · rename_i hm
        obtain ⟨e3, rfl⟩ := RX.at_ok e
        exact ⟨os, ds, h1, hv, hm, e3⟩
      · cases e
    · cases e
  · cases e
theorem apart_new {p : Addr} (ok : Ok K b0 B Z0 Z H σ ρ) (hp : H p = none) : Apart σ ρ p := fun i es hi hq => by
  obtain ⟨q', vs', f1, _, _, f4, _⟩ := ok.ow i es hi
  rw [f1] at hq; cases hq
  rw [hp] at f4; cases f4
theorem de_callX {np : Nat} {F : List D → RX D} {ga : GA} {E : XK} (hF : ∀ ds, F ds ≠ .bad → ds.length = np) (ha : DA K tas ga) : DE K (tCall (spX K np F) [] E tas) (eCallX F ga) := fun b0 B Z0 Z H σ ρ d ρ' Q ok e q => by
  obtain ⟨os, ds, e1, hv, e3⟩ := callX_ok e
  refine ha b0 B Z0 Z H σ ρ os ρ' _ ok e1 fun vs H1 Z1 ok1 s1 r1 => ?_
  have rA := valA_ok r1 hv
  refine ⟨by rw [List.append_nil, rA.length]; exact hF _ (by rw [e3]; exact fun z => nomatch z), Z1, ds, ok1.zh, by rw [List.append_nil]; exact rA, ?_⟩
  rw [e3]
  exact fun v H' Z' hh g r => q v H' Z' (ok1.grow hh g) (s1.trans g.1) r
theorem df_callXF {np : Nat} {F : List D → RX (List D)} {ga : GA} {E : XK} (hF : ∀ ds, F ds ≠ .bad → ds.length = np) (ha : DA K tas ga) : DF K (tCall (spXF K np F) [] E tas) (eCallX F ga) := fun b0 B Z0 Z H σ ρ d ρ' Q ok e q => by
  obtain ⟨os, ds, e1, hv, e3⟩ := callX_ok e
  refine ha b0 B Z0 Z H σ ρ os ρ' _ ok e1 fun vs H1 Z1 ok1 s1 r1 => ?_
  have rA := valA_ok r1 hv
  refine ⟨by rw [List.append_nil, rA.length]; exact hF _ (by rw [e3]; exact fun z => nomatch z), Z1, ds, ok1.zh, by rw [List.append_nil]; exact rA, ?_⟩
  rw [e3]
  exact fun p ws H' Z' hh g hp zp hp' r => q p ws H' Z' (ok1.grow hh g) (s1.trans g.1) zp (ok1.bh.free hp) (apart_new ok1 hp) hp' r
theorem de_callWX {m np : Nat} {F : List D → RX D} {g : {α : Type} → List α → List α} {ga : GA} {E : XK} (hg : ∀ {A C : Type} {rel : A → C → Prop} {zs : List A} {ws : List C}, Paired rel zs ws → Paired rel (g zs) (g ws)) (hF : ∀ ds, F ds ≠ .bad → ds.length = np) (ha : DA K tks ga) : DE K (tCallW (spX K np F) m g E tks) (eCallWX F m g ga) := fun b0 B Z0 Z H σ ρ d ρ' Q ok e q => by
  obtain ⟨os, ds, e1, hv, hm, e3⟩ := callWX_ok e
  refine ha b0 B Z0 Z H σ ρ os ρ' _ ok e1 fun vs H1 Z1 ok1 s1 r1 => ?_
  have rA := valA_ok r1 hv
  have rG : RpA K Z1 (g vs) (g ds) := RpA.of_paired (hg rA.paired)
  refine ⟨by rw [rA.length]; exact hm, by rw [rG.length]; exact hF _ (by rw [e3]; exact fun z => nomatch z), Z1, g ds, ok1.zh, rG, ?_⟩
  rw [e3]
  exact fun v H' Z' hh g r => q v H' Z' (ok1.grow hh g) (s1.trans g.1) r
theorem df_callWXF {m np : Nat} {F : List D → RX (List D)} {g : {α : Type} → List α → List α} {ga : GA} {E : XK} (hg : ∀ {A C : Type} {rel : A → C → Prop} {zs : List A} {ws : List C}, Paired rel zs ws → Paired rel (g zs) (g ws)) (hF : ∀ ds, F ds ≠ .bad → ds.length = np) (ha : DA K tks ga) : DF K (tCallW (spXF K np F) m g E tks) (eCallWX F m g ga) := fun b0 B Z0 Z H σ ρ d ρ' Q ok e q => by
  obtain ⟨os, ds, e1, hv, hm, e3⟩ := callWX_ok e
  refine ha b0 B Z0 Z H σ ρ os ρ' _ ok e1 fun vs H1 Z1 ok1 s1 r1 => ?_
  have rA := valA_ok r1 hv
  have rG : RpA K Z1 (g vs) (g ds) := RpA.of_paired (hg rA.paired)
  refine ⟨by rw [rA.length]; exact hm, by rw [rG.length]; exact hF _ (by rw [e3]; exact fun z => nomatch z), Z1, g ds, ok1.zh, rG, ?_⟩
  rw [e3]
  exact fun p ws H' Z' hh g hp zp hp' r => q p ws H' Z' (ok1.grow hh g) (s1.trans g.1) zp (ok1.bh.free hp) (apart_new ok1 hp) hp' r
/-! ### expressions that may raise -/
def SatE (K : PySem.W.Frag) (Wx : WX) (b0 : Option Addr) (B Z0 Z : Hp) (σ : L2.St) (Q : VK) : R D → Prop
  | .ok d ρ => ∀ v H' Z', Ok K b0 B Z0 Z' H' σ ρ → Same Z Z' → Rp K Z' v d → Q v H'
  | .ex c d ρ => ∀ H' Z' C dx v, Ok K b0 B Z0 Z' H' σ ρ → Same Z Z' → Cls K c C → Z' dx = some (.xd [(fld c, v)]) → Rp K Z' v d → Wx (.ref C) (some dx) σ H'
  | .bad => False
def XD (K : PySem.W.Frag) (Wx : WX) (t : TE) (g : GE) : Prop := ∀ b0 B Z0 Z H σ ρ (Q : VK), Ok K b0 B Z0 Z H σ ρ → SatE K Wx b0 B Z0 Z σ Q (g ρ) → t σ H Q
/-- an expression that raises nothing -/
def xE (g : GE) (ρ : Rho) : R D := match g ρ with
  | .ok d ρ' => .ok d ρ'
  | _ => .bad
theorem xd_e {g : GE} (h : DE K te g) : XD K Wx te (xE g) := fun b0 B Z0 Z H σ ρ Q ok s => by
  unfold xE at s
  cases e : g ρ with
  | ok d ρ' => rw [e] at s; exact h b0 B Z0 Z H σ ρ d ρ' Q ok e s
  | ex c d ρ' => rw [e] at s; exact s.elim
  | bad => rw [e] at s; exact s.elim
theorem callX_run {np : Nat} {F : List D → RX D} {b0 : Option Addr} {B Z0 Z Z1 H H1 : Hp} {σ : L2.St} {ρ1 : Rho} {Q : VK} {vs : List V} {ds : List D} (hF : ∀ ds, F ds ≠ .bad → ds.length = np) (ok1 : Ok K b0 B Z0 Z1 H1 σ ρ1) (s1 : Same Z Z1) (rA : RpA K Z1 vs ds) (s : SatE K Wx b0 B Z0 Z σ Q ((F ds).at ρ1)) : spX K np F vs H1 Q (WE Wx σ) := by
  cases e : F ds with
  | ok d =>
    rw [e] at s
    refine ⟨by rw [rA.length]; exact hF _ (by rw [e]; exact fun z => nomatch z), Z1, ds, ok1.zh, rA, ?_⟩
    rw [e]
    exact fun v H' Z' hh g r => s v H' Z' (ok1.grow hh g) (s1.trans g.1) r
  | ex c d =>
    rw [e] at s
    refine ⟨by rw [rA.length]; exact hF _ (by rw [e]; exact fun z => nomatch z), Z1, ds, ok1.zh, rA, ?_⟩
    rw [e]
    exact fun C dx v H' Z' hh g hc hx r => s H' Z' C dx v (ok1.grow hh g) (s1.trans g.1) hc hx r
  | bad => rw [e] at s; exact s.elim
theorem callXF_run {np : Nat} {F : List D → RX (List D)} {b0 : Option Addr} {B Z0 Z Z1 H H1 : Hp} {σ : L2.St} {ρ1 : Rho} {Q : VK} {vs : List V} {ds : List D} (hF : ∀ ds, F ds ≠ .bad → ds.length = np) (ok1 : Ok K b0 B Z0 Z1 H1 σ ρ1) (s1 : Same Z Z1) (rA : RpA K Z1 vs ds) (s : SatE K Wx b0 B Z0 Z σ Q (((F ds).at ρ1).map .list)) : spXF K np F vs H1 Q (WE Wx σ) := by
  cases e : F ds with
  | ok d =>
    rw [e] at s
    refine ⟨by rw [rA.length]; exact hF _ (by rw [e]; exact fun z => nomatch z), Z1, ds, ok1.zh, rA, ?_⟩
    rw [e]
    intro p ws H' Z' hh g hp zp hp' r
    have ok2 := ok1.grow hh g
    obtain ⟨ok3, s3⟩ := ok2.freeze zp (ok1.bh.free hp) (apart_new ok1 hp) hp'
    exact s (.ref p) H' _ ok3 ((s1.trans g.1).trans s3) (.lst upd_same (r.mono s3))
  | ex c d =>
    rw [e] at s
    refine ⟨by rw [rA.length]; exact hF _ (by rw [e]; exact fun z => nomatch z), Z1, ds, ok1.zh, rA, ?_⟩
    rw [e]
    exact fun C dx v H' Z' hh g hc hx r => s H' Z' C dx v (ok1.grow hh g) (s1.trans g.1) hc hx r
  | bad => rw [e] at s; exact s.elim
def xL (g : GF) (ρ : Rho) : R D := (g ρ).map .list
theorem satE_call {α : Type} {F : List D → RX α} {ga : GA} {m : α → D} {b0 : Option Addr} {B Z0 Z : Hp} {Q : VK} (s : SatE K Wx b0 B Z0 Z σ Q ((eCallX F ga ρ).map m)) : ∃ os ds ρ1, ga ρ = .ok os ρ1 ∧ valA os = some ds ∧ SatE K Wx b0 B Z0 Z σ Q (((F ds).at ρ1).map m) := by
  unfold eCallX at s
  split at s
  · rename_i os ρ1 h1
    split at s
    · rename_i ds hv
      exact ⟨os, ds, ρ1, h1, hv, s⟩
    · exact s.elim
  · exact s.elim
theorem satE_callW {α : Type} {F : List D → RX α} {n : Nat} {g : {α : Type} → List α → List α} {ga : GA} {m : α → D} {b0 : Option Addr} {B Z0 Z : Hp} {Q : VK} (s : SatE K Wx b0 B Z0 Z σ Q ((eCallWX F n g ga ρ).map m)) : ∃ os ds ρ1, ga ρ = .ok os ρ1 ∧ valA os = some ds ∧ ds.length = n ∧ SatE K Wx b0 B Z0 Z σ Q (((F (g ds)).at ρ1).map m) := by
  unfold eCallWX at s
  split at s
  · rename_i os ρ1 h1
    split at s
    · rename_i ds hv
      split at s
      · rename_i hm; exact ⟨os, ds, ρ1, h1, hv, hm, s⟩
      · exact s.elim
    · exact s.elim
  · exact s.elim
theorem R.map_id {α : Type} (r : R α) : r.map (fun x => x) = r := by cases r <;> rfl
theorem xd_callX {np : Nat} {F : List D → RX D} {ga : GA} (hF : ∀ ds, F ds ≠ .bad → ds.length = np) (ha : DA K tas ga) : XD K Wx (tCallS (spX K np F) (WE Wx) tas) (eCallX F ga) := fun b0 B Z0 Z H σ ρ Q ok s => by
  rw [← R.map_id (eCallX F ga ρ)] at s
  obtain ⟨os, ds, ρ1, e1, hv, s⟩ := satE_call s
  rw [R.map_id] at s
  exact ha b0 B Z0 Z H σ ρ os ρ1 _ ok e1 fun vs H1 Z1 ok1 s1 r1 => callX_run (H := H) hF ok1 s1 (valA_ok r1 hv) s
theorem xd_callXF {np : Nat} {F : List D → RX (List D)} {ga : GA} (hF : ∀ ds, F ds ≠ .bad → ds.length = np) (ha : DA K tas ga) : XD K Wx (tCallS (spXF K np F) (WE Wx) tas) (xL (eCallX F ga)) := fun b0 B Z0 Z H σ ρ Q ok s => by
  obtain ⟨os, ds, ρ1, e1, hv, s⟩ := satE_call s
  exact ha b0 B Z0 Z H σ ρ os ρ1 _ ok e1 fun vs H1 Z1 ok1 s1 r1 => callXF_run (H := H) hF ok1 s1 (valA_ok r1 hv) s
/-! keywords -/
def tCallWS (sp : Sp) (m : Nat) (g : {α : Type} → List α → List α) (E : L2.St → XK) (tk : TA) : TE := fun σ H Q => tk σ H fun zs H2 => zs.length = m ∧ sp (g zs) H2 Q (E σ)
theorem pe_callWS {CX : CXT} {k : Nat} {f : Addr} {fd : FuncData} {ps ks : List Str} {sp : Sp} {E : L2.St → XK} {x : Str} {p pos : Pos} {kws : List Keyword} {g : {α : Type} → List α → List α} (F : FnOk X.prog X.w X.K X.mg X.base CX k f fd ps sp) (hr : Room k X.A) (hg : Gl X x) (hm : X.mg x = some (.ref f)) (hk : PySem.W.keepIn X.K (.ref f) = true) (hb : KwB X.K fd ps ks g) (hx : ∀ σ, PassesAt CX X σ (E σ)) (hkw : PK X kws tks)
    (c1 : (backToKw pos (keywordEach kws X.env)).all (·.1.isSome) = true := by rfl) (c2 : (backToKw pos (keywordEach kws X.env)).filterMap (·.1) = ks := by rfl) (c3 : (x == ("__debug__" : Str)) = false := by decide)
    (c4 : ((backTo pos (starEach [] X.env)).any (·.1) || (backToKw pos (keywordEach kws X.env)).any (·.1.isNone)) = false := by rfl) : PE X (.Call (.Name x p) [] kws pos) (tCallWS sp ks.length g E tks) := by
  refine ⟨fun pins s σ H Q I h => wpAny_Call_Name_kw (ld_glob I hg hm (PySem.W.callWith_KW0 (h₀ := X.base) I.ok.mod.kin hk c1 ?_ c4) c3)⟩
  refine thn (hkw.run pos pins s σ H _ I h) fun ws s2 ⟨zs, H2, I2, rz, l2, q2⟩ => ⟨I2.kIn, ?_⟩
  rw [c2]
  refine wpAny_call (codeAny_mono (F.run X.A X.stack s2 H2 ⟨[], ks.zip ws⟩ (g ws) (g zs) Q (E σ) hr I2.env0 (hb.to s2 ws I2.kIn (rz.length.symm.trans l2)) (hb.rel rz) q2) fun r s' hq => ?_)
  cases r with
  | error e => exact hx σ pins H2 s2 e s' I2 hq
  | ok fl => cases fl <;> first | exact I2.after hq | exact hq.elim
theorem xd_callWX {m np : Nat} {F : List D → RX D} {g : {α : Type} → List α → List α} {ga : GA} (hg : ∀ {A C : Type} {rel : A → C → Prop} {zs : List A} {ws : List C}, Paired rel zs ws → Paired rel (g zs) (g ws)) (hF : ∀ ds, F ds ≠ .bad → ds.length = np) (ha : DA K tks ga) : XD K Wx (tCallWS (spX K np F) m g (WE Wx) tks) (eCallWX F m g ga) := fun b0 B Z0 Z H σ ρ Q ok s => by
  rw [← R.map_id (eCallWX F m g ga ρ)] at s
  obtain ⟨os, ds, ρ1, e1, hv, hm, s⟩ := satE_callW s
  rw [R.map_id] at s
  refine ha b0 B Z0 Z H σ ρ os ρ1 _ ok e1 fun vs H1 Z1 ok1 s1 r1 => ?_
  have rA := valA_ok r1 hv
  exact ⟨by rw [rA.length]; exact hm, callX_run (H := H) hF ok1 s1 (RpA.of_paired (hg rA.paired)) s⟩
theorem xd_callWXF {m np : Nat} {F : List D → RX (List D)} {g : {α : Type} → List α → List α} {ga : GA} (hg : ∀ {A C : Type} {rel : A → C → Prop} {zs : List A} {ws : List C}, Paired rel zs ws → Paired rel (g zs) (g ws)) (hF : ∀ ds, F ds ≠ .bad → ds.length = np) (ha : DA K tks ga) : XD K Wx (tCallWS (spXF K np F) m g (WE Wx) tks) (xL (eCallWX F m g ga)) := fun b0 B Z0 Z H σ ρ Q ok s => by
  obtain ⟨os, ds, ρ1, e1, hv, hm, s⟩ := satE_callW s
  refine ha b0 B Z0 Z H σ ρ os ρ1 _ ok e1 fun vs H1 Z1 ok1 s1 r1 => ?_
  have rA := valA_ok r1 hv
  exact ⟨by rw [rA.length]; exact hm, callXF_run (H := H) hF ok1 s1 (RpA.of_paired (hg rA.paired)) s⟩
/-! x if t else y -/
def xIf (c : GT) (a b : GE) (ρ : Rho) : R D := match c ρ with
  | .ok k ρ1 => if k then a ρ1 else b ρ1
  | _ => .bad
theorem SatE.mono {Z1 : Hp} {Q : VK} {r : R D} (s1 : Same Z Z1) (s : SatE K Wx b0 B Z0 Z σ Q r) : SatE K Wx b0 B Z0 Z1 σ Q r := by
  cases r with
  | ok d ρ => exact fun v H' Z' ok' s' r => s v H' Z' ok' (s1.trans s') r
  | ex c d ρ => exact fun H' Z' C dx v ok' s' => s H' Z' C dx v ok' (s1.trans s')
  | bad => exact s
theorem xd_if {c : GT} {g k : GE} (hc : DT K tt c) (h : XD K Wx ta g) (h2 : XD K Wx tb k) : XD K Wx (tIf tt ta tb) (xIf c g k) := fun b0 B Z0 Z H σ ρ Q ok s => by
  unfold xIf at s
  split at s
  · rename_i b ρ1 e1
    refine hc b0 B Z0 Z H σ ρ b ρ1 _ ok e1 fun H1 Z1 ok1 s1 => ?_
    cases b with
    | true => exact h b0 B Z0 Z1 H1 σ ρ1 Q ok1 (s.mono s1)
    | false => exact h2 b0 B Z0 Z1 H1 σ ρ1 Q ok1 (s.mono s1)
  · exact s.elim
/-- f(x), x raising, f a built-in of data -/
def xCb1 (f : List D → Option D) (g : GE) (ρ : Rho) : R D := (g ρ).bind fun d ρ1 => R.lift (f [d]) ρ1
theorem xd_cb1 {r : List V → Hp → VK → Prop} {f : List D → Option D} {g : GE} (sn : SnA K r f) (h : XD K Wx te g) : XD K Wx (tCB r (tCons te tNil)) (xCb1 f g) := fun b0 B Z0 Z H σ ρ Q ok s => by
  refine h b0 B Z0 Z H σ ρ _ ok ?_
  unfold xCb1 at s
  cases e : g ρ with
  | ok d ρ1 =>
    rw [e] at s
    intro v H1 Z1 ok1 s1 r1
    cases e2 : f [d] with
    | none => rw [R.ok_bind, e2] at s; exact s.elim
    | some c =>
      rw [R.ok_bind, e2] at s
      exact sn b0 B Z0 Z1 H1 σ ρ1 [v] [d] c Q ok1 (.cons (r1.bd ok1.zh) .nil) e2 fun w H2 Z2 ok2 s2 r2 => s w H2 Z2 ok2 (s1.trans s2) r2
  | ex c d ρ1 => rw [e] at s; exact s
  | bad => rw [e] at s; exact s
/-! ### statements -/
def R.toX {α : Type} (r : R α) (f : α → Rho → O) : O := match r with
  | .ok a ρ => f a ρ
  | .ex c d ρ => .ex c d ρ
  | .bad => .bad
theorem Sat.toX {r : R D} {f : D → Rho → O} {E : Ends} {Q : VK} (s : Sat K Wx b0 B Z0 E (r.toX f)) (ok : Ok K b0 B Z0 Z H σ ρ) (h : ∀ d ρ', r = .ok d ρ' → Sat K Wx b0 B Z0 E (f d ρ') → ∀ v H' Z', Ok K b0 B Z0 Z' H' σ ρ' → Rp K Z' v d → Q v H') : SatE K Wx b0 B Z0 Z σ Q r := by
  cases r with
  | ok d ρ' => exact fun v H' Z' ok' _ r => h d ρ' rfl s v H' Z' ok' r
  | ex c d ρ' => exact fun H' Z' C dx v ok' _ hc hx r => s σ H' Z' C dx v ok' hc hx r
  | bad => exact s
def sSetX (i : Nat) (g : GE) (ρ : Rho) : O := (g ρ).toX fun d ρ1 => .nx (ρ1.set i (.sh d))
def sRetX (g : GE) (ρ : Rho) : O := (g ρ).toX .rt
def sDropX (g : GE) (ρ : Rho) : O := (g ρ).toX fun _ ρ => .nx ρ
theorem ds_setX {i : Nat} {g : GE} (h : XD K Wx te g) : DS K Wx (tAsg te (gName i)) (sSetX i g) := fun b0 B Z0 Z H σ ρ E ok s =>
  h b0 B Z0 Z H σ ρ _ ok (Sat.toX s ok fun d ρ' _ s v H' Z' ok' r => s _ H' Z' (ok'.put r))
theorem ds_retX {g : GE} (h : XD K Wx te g) : DS K Wx (tRet te) (sRetX g) := fun b0 B Z0 Z H σ ρ E ok s =>
  h b0 B Z0 Z H σ ρ _ ok (Sat.toX s ok fun d ρ' _ s v H' Z' ok' r => s v σ H' Z' ok' r)
theorem ds_dropX {g : GE} (h : XD K Wx te g) : DS K Wx (tDrop te) (sDropX g) := fun b0 B Z0 Z H σ ρ E ok s =>
  h b0 B Z0 Z H σ ρ _ ok (Sat.toX s ok fun d ρ' _ s v H' Z' ok' r => s σ H' Z' ok')
def sRaise (c : Str) (g : GE) (ρ : Rho) : O := (g ρ).to fun d ρ1 => .ex c d ρ1
theorem ds_raise {c f : Str} {C : Addr} {g : GE} (hc : Cls K c C) (hf : f = fld c) (h : DE K te g) : DS K Wx (fun _ σ H => tMk1 C f (tCons te tNil) σ H fun cls d H' => Wx cls d σ H') (sRaise c g) := fun b0 B Z0 Z H σ ρ E ok s => by
  obtain ⟨d, ρ', e, s⟩ := Sat.to s
  subst hf
  refine h b0 B Z0 Z H σ ρ d ρ' _ ok e fun v H1 Z1 ok1 s1 r1 => ⟨v, rfl, fun dx hdx => ?_⟩
  obtain ⟨ok2, s2⟩ := ok1.new (o := .xd [(fld c, v)]) hdx
  exact s σ _ _ C dx v ok2 hc upd_same (r1.mono s2)
end
end DL

/-! DLy: the try over data; isinstance, fields and making of exceptions. -/
namespace DL
open PySem PySem.Spec PyProof.Rows L2
/-! ### the table of classes -/
def baseT : List (Str × List Str) := [("NoPerson", ["LookupError"]), ("NoPlace", ["LookupError"]), ("NoNumber", ["LookupError"]), ("NoDeed", ["LookupError"]), ("OtherPeople", ["ValueError"]), ("NotWay", ["ValueError"]), ("BadDeed", ["ValueError"]), ("BadText", ["ValueError"]), ("BadLine", ["ValueError"]), ("Barred", ["RuntimeError"]), ("TooMany", ["OverflowError", "ArithmeticError"]), ("Full", ["OverflowError", "ArithmeticError"])]
def subC (c t : Str) : Bool := t == c || ((baseT.lookup c).getD []).contains t || t == "Exception" || t == "BaseException"
def valOf (K : PySem.W.Frag) (T : Str) : Option Value := match PySem.W.nsIn K mainGlobals T with
  | some (some u) => some u
  | some none => bootBuiltins T
  | none => none
def exB (K : PySem.W.Frag) (c : Str) : Bool := match PySem.W.nsIn K mainGlobals c with
  | some (some (.ref C)) => (PySem.W.clsIn K C).isSome && (decide (PySem.W.findIn K (.ref C) "__getattribute__" = some (some (.builtin "BaseException.__getattribute__"))) && (decide (PySem.W.findIn K (.ref C) "__getattr__" = some none) && (decide (PySem.W.subIn K (.ref C) (.type "BaseException") = some true) &&
    (decide (PySem.W.findIn K (.ref C) "__class__" = some (some (.builtin "object.__class__"))) && (decide (PySem.W.specialIn K (.builtin "object.__class__") "__get__" = some (some (.builtin "getset_descriptor.__get__"))) && (decide (PySem.W.takesIn K (.builtin "object.__class__") = some true) &&
    (decide (PySem.W.mroIn K C (.type "object") = some true) && (PySem.W.hasDictIn K C && decide (PySem.W.findIn K (.ref C) (fld c) = some none)))))))))
  | _ => false
structure ExF (K : PySem.W.Frag) (c : Str) (C : Addr) : Prop where
  cl : (PySem.W.clsIn K C).isSome = true
  ga : PySem.W.findIn K (.ref C) "__getattribute__" = some (some (.builtin "BaseException.__getattribute__"))
  gg : PySem.W.findIn K (.ref C) "__getattr__" = some none
  sb : PySem.W.subIn K (.ref C) (.type "BaseException") = some true
  fc : PySem.W.findIn K (.ref C) "__class__" = some (some (.builtin "object.__class__"))
  sp : PySem.W.specialIn K (.builtin "object.__class__") "__get__" = some (some (.builtin "getset_descriptor.__get__"))
  tk : PySem.W.takesIn K (.builtin "object.__class__") = some true
  mr : PySem.W.mroIn K C (.type "object") = some true
  hd : PySem.W.hasDictIn K C = true
  no : PySem.W.findIn K (.ref C) (fld c) = some none
theorem exB_ok {K : PySem.W.Frag} {c : Str} {C : Addr} (h : exB K c = true) (hc : Cls K c C) : ExF K c C := by
  unfold exB at h
  rw [show PySem.W.nsIn K mainGlobals c = some (some (.ref C)) from hc] at h
  simp only [Bool.and_eq_true, decide_eq_true_eq] at h
  obtain ⟨a, b, c, d, e, f, g, i, j, k⟩ := h
  exact ⟨a, b, c, d, e, f, g, i, j, k⟩
def etB (K : PySem.W.Frag) (Cs Ts : List Str) : Bool := Cs.all (exB K) && Ts.all fun T => match valOf K T with
  | some u => decide (PySem.W.kitOne K (.type "NoneType") u = some false) && Cs.all fun c => match PySem.W.nsIn K mainGlobals c with
    | some (some (.ref C)) => decide (PySem.W.kitOne K (.ref C) u = some (subC c T)) && decide (PySem.W.exmOne K (.ref C) u = some (subC c T))
    | _ => false
  | none => false
section
variable {K : PySem.W.Frag} {Cs Ts : List Str}
theorem et_cls {c : Str} {C : Addr} (h : etB K Cs Ts = true) (hc : c ∈ Cs) (hC : Cls K c C) : ExF K c C := by
  unfold etB at h
  rw [Bool.and_eq_true] at h
  exact exB_ok (List.all_eq_true.mp h.1 c hc) hC
theorem et_non {T : Str} {u : Value} (h : etB K Cs Ts = true) (hT : T ∈ Ts) (hu : valOf K T = some u) : PySem.W.kitOne K (.type "NoneType") u = some false := by
  unfold etB at h
  rw [Bool.and_eq_true] at h
  have := List.all_eq_true.mp h.2 T hT
  rw [hu] at this
  simp only [Bool.and_eq_true, decide_eq_true_eq] at this
  exact this.1
theorem et_sub {T c : Str} {u : Value} {C : Addr} (h : etB K Cs Ts = true) (hT : T ∈ Ts) (hu : valOf K T = some u) (hc : c ∈ Cs) (hC : Cls K c C) : PySem.W.kitOne K (.ref C) u = some (subC c T) ∧ PySem.W.exmOne K (.ref C) u = some (subC c T) := by
  unfold etB at h
  rw [Bool.and_eq_true] at h
  have := List.all_eq_true.mp h.2 T hT
  rw [hu] at this
  simp only [Bool.and_eq_true] at this
  have := List.all_eq_true.mp this.2 c hc
  rw [show PySem.W.nsIn K mainGlobals c = some (some (.ref C)) from hC] at this
  simp only [Bool.and_eq_true, decide_eq_true_eq] at this
  exact this
end
/-- the values of classes by their names -/
inductive VTs (K : PySem.W.Frag) : List Str → List V → List Value → Prop
  | nil : VTs K [] [] []
  | cons {T : Str} {cv : V} {u : Value} {Ts : List Str} {cvs : List V} {us : List Value} (h : ClsV cv u) (e : valOf K T = some u) (r : VTs K Ts cvs us) : VTs K (T :: Ts) (cv :: cvs) (u :: us)
theorem vt_own {K : PySem.W.Frag} {c : Str} {C : Addr} {Ts : List Str} {cvs : List V} {us : List Value} (h : Cls K c C) (r : VTs K Ts cvs us) : VTs K (c :: Ts) (.ref C :: cvs) (.ref C :: us) :=
  .cons (.own C) (by unfold valOf; rw [show PySem.W.nsIn K mainGlobals c = some (some (.ref C)) from h]) r
theorem vt_ty {K : PySem.W.Frag} {T : Str} {n : String} {Ts : List Str} {cvs : List V} {us : List Value} (h : PySem.W.nsIn K mainGlobals T = some none) (hb : bootBuiltins T = some (.type n)) (r : VTs K Ts cvs us) : VTs K (T :: Ts) (.ty n :: cvs) (.type n :: us) :=
  .cons (.ty n) (by unfold valOf; rw [h]; exact hb) r
section
variable {X : Cx} {K : PySem.W.Frag} {Wx : WX} {ta tb te : TE} {tt : TT} {tas tks : TA} {t u : TS} {b0 : Option Addr} {B Z0 Z H : Hp} {σ : L2.St} {ρ : Rho} {Cs Ts Us : List Str}
theorem VTs.paired : ∀ {Ts : List Str} {cvs : List V} {us : List Value}, VTs K Ts cvs us → Paired ClsV cvs us
  | _, _, _, .nil => .nil
  | _, _, _, .cons h _ r => .cons h (VTs.paired r)
theorem VTs.len : ∀ {Ts : List Str} {cvs : List V} {us : List Value}, VTs K Ts cvs us → cvs.length = Ts.length
  | _, _, _, .nil => rfl
  | _, _, _, .cons h _ r => by rw [List.length_cons, List.length_cons, VTs.len r]
theorem VTs.non (et : etB K Cs Us = true) : ∀ {Ts : List Str} {cvs : List V} {us : List Value}, VTs K Ts cvs us → (∀ T ∈ Ts, T ∈ Us) → PySem.W.kitAny K (.type "NoneType") us = some false
  | _, _, _, .nil, _ => rfl
  | _, _, _, .cons h e r, s => kitAny_cons (et_non et (s _ List.mem_cons_self) e) (fun _ => VTs.non et r fun T hT => s T (List.mem_cons_of_mem _ hT)) fun z => nomatch z
theorem VTs.any (et : etB K Cs Us = true) {c : Str} {C : Addr} (hc : c ∈ Cs) (hC : Cls K c C) : ∀ {Ts : List Str} {cvs : List V} {us : List Value}, VTs K Ts cvs us → (∀ T ∈ Ts, T ∈ Us) → PySem.W.kitAny K (.ref C) us = some (Ts.any (subC c)) ∧ PySem.W.exmAny K (.ref C) us = some (Ts.any (subC c))
  | _, _, _, .nil, _ => ⟨rfl, rfl⟩
  | _, _, _, .cons (T := T) (Ts := Ts) h e r, s => by
    obtain ⟨e1, e2⟩ := et_sub et (s _ List.mem_cons_self) e hc hC
    obtain ⟨i1, i2⟩ := VTs.any et hc hC r fun T hT => s T (List.mem_cons_of_mem _ hT)
    rw [List.any_cons]
    refine ⟨?_, ?_⟩
    · cases q : subC c T with
      | true => rw [q] at e1; exact kitAny_cons e1 (fun z => nomatch z) fun _ => rfl
      | false => rw [q] at e1; exact kitAny_cons e1 (fun _ => by rw [Bool.false_or]; exact i1) fun z => nomatch z
    · unfold PySem.W.exmAny
      rw [e2, i2]
/-! ### isinstance -/
inductive TyE (K : PySem.W.Frag) (H : Hp) : V → Value → Prop
  | non : TyE K H .non (.type "NoneType")
  | exc {a C d : Addr} {c : Str} {fs : List (Str × V)} (e : H a = some (exk a C d)) (ed : H d = some (.xd fs)) (f : ExF K c C) : TyE K H (.ref a) (.ref C)
def rIsX (K : PySem.W.Frag) : List V → Hp → VK → Prop := fun xs H Q => ∃ (x c : V) (t u : Value) (b : Bool), xs = [x, c] ∧ ClsV c u ∧ TyE K H x t ∧ PySem.W.kitOne K t u = some b ∧ Q (.bl b) H
def rIsXT (K : PySem.W.Frag) : List V → Hp → VK → Prop := fun xs H Q => ∃ (x : V) (tp : Addr) (cs : List V) (t : Value) (us : List Value) (b : Bool), xs = [x, .ref tp] ∧ H tp = some (.tup cs) ∧ Paired ClsV cs us ∧ TyE K H x t ∧ PySem.W.kitAny K t us = some b ∧ Q (.bl b) H
theorem kitE_of {pins : List (Addr × Obj)} {s : Shared} {x : V} {u t : Value} (I : Inv X pins σ H s) (rx : RelV x u) (ty : TyE X.K H x t) : ∃ P : Heap → Prop, PySem.W.KitX X.K u t P ∧ P s.heap ∧ u ≠ .builtin "__main__.__loader__#opaque" := by
  cases ty with
  | non => cases (show u = Value.none from rx); exact ⟨_, PySem.W.kitx_none, True.intro, fun z => nomatch z⟩
  | @exc a C d c fs ea ed f =>
    cases (show u = Value.ref a from rx)
    obtain ⟨oe, vs, h1, h2, h3⟩ := exk_at I.hok ea
    obtain ⟨mA, ⟨o, es, ep, ho, _⟩, _⟩ := (show ObjOk X.prog X.w H s.heap d (.xd fs) from I.hok d _ ed)
    have J : PySem.W.InstAt s.heap a oe C (some o) := ⟨h1, h2.1, by unfold PySem.W.notCls; rw [h3] <;> rfl, by rw [h2.2]; exact ho⟩
    exact ⟨_, PySem.W.kitx_exc f.cl f.ga f.gg f.sb f.fc f.sp f.tk f.mr, J, fun z => nomatch z⟩
theorem call_isX : CallR X (.builtin "isinstance") (rIsX X.K) := by
  intro pins s σ H xs us Q I r h
  obtain ⟨x, c, t, u, b, rfl, k, ty, e, q⟩ := h
  obtain ⟨u1, u2, rfl, r1, r2⟩ := vals2 r
  have e2 := k.eq r2
  subst e2
  obtain ⟨P, Zk, p, hx⟩ := kitE_of I r1 ty
  exact PySem.W.kia_one Zk I.kIn p e hx fun tk => ⟨.bl b, H, I.tok tk, rfl, q⟩
theorem call_isXT : CallR X (.builtin "isinstance") (rIsXT X.K) := by
  intro pins s σ H xs us Q I r h
  obtain ⟨x, tp, cs, t, ws, b, rfl, hT, k, ty, e, q⟩ := h
  obtain ⟨u1, u2, rfl, r1, r2⟩ := vals2 r
  cases (show u2 = Value.ref tp from r2)
  obtain ⟨P, Zk, p, hx⟩ := kitE_of I r1 ty
  obtain ⟨_, its, rv, o, h1, h2, n, h3⟩ := (show ObjOk X.prog X.w H s.heap tp (.tup cs) from I.hok tp _ hT)
  have e3 := ClsV.all k rv
  subst e3
  obtain ⟨oc, od, dt, sl⟩ := o
  simp only at h2 h3
  subst h2 h3
  exact PySem.W.kia_tup Zk I.kIn p h1 e hx fun tk => ⟨.bl b, H, I.tok tk, rfl, q⟩
/-- isinstance(x, one of Ts), x None or an exception of a class in Cs -/
def isX (Cs Ts : List Str) : D → Option D
  | .none => some (.bool false)
  | .dict [(.none, .str c), (.none, _)] => if Cs.contains c then some (.bool (Ts.any (subC c))) else none
  | _ => none
theorem isX_ty {us : List Value} {cvs : List V} {v : V} {d c : D} {b : Option D} (et : etB K Cs Us = true) (vt : VTs K Ts cvs us) (sub : ∀ T ∈ Ts, T ∈ Us) (s : Same Z H) (h : Bd K Z H v d) (e : isX Cs Ts d = some c) : ∃ t b, c = .bool b ∧ TyE K H v t ∧ PySem.W.kitAny K t us = some b := by
  unfold isX at e
  split at e
  · cases e; cases h
    exact ⟨_, false, rfl, .non, vt.non et sub⟩
  · rename_i c' p
    split at e
    · rename_i hc
      cases e
      cases h with
      | exc h1 h2 h3 r =>
        have hm : c' ∈ Cs := List.elem_iff.mp hc
        exact ⟨_, _, rfl, .exc (s _ _ h1) (s _ _ h2) (et_cls et hm h3), (vt.any et hm h3 sub).1⟩
    · cases e
  · cases e
theorem de_isX {T : Str} {cv : V} {us : List Value} {g : GO} (et : etB K Cs Us = true) (vt : VTs K [T] [cv] us) (sub : ∀ T' ∈ [T], T' ∈ Us) (h : DO K te g) : DE K (tCB (rIsX K) (tCons te (tCons (tC cv) tNil))) (eOp1 (isX Cs [T]) g) := fun b0 B Z0 Z H σ ρ d ρ' Q ok e q => by
  obtain ⟨x, a, e1, e3, e5⟩ := op1_ok e
  refine h b0 B Z0 Z H σ ρ x ρ' _ ok e1 fun v H1 Z1 ok1 s1 r1 => ?_
  obtain ⟨t, b, rfl, ty, ka⟩ := isX_ty (b := none) et vt sub ok1.zh (ok1.bd r1 e3) e5
  cases vt with
  | @cons _ _ u0 _ _ _ hc _ r =>
    cases r
    have k1 : PySem.W.kitOne K t u0 = some b := by
      unfold PySem.W.kitAny at ka
      split at ka
      · rename_i hk; cases ka; exact hk
      · rename_i hk; cases ka; exact hk
      · cases ka
    exact ⟨v, cv, t, u0, b, rfl, hc, ty, k1, q _ H1 Z1 ok1 s1 (.bl b)⟩
def tVs : List V → TA
  | [] => tNil
  | v :: r => tCons (tC v) (tVs r)
theorem tVs_run {Q : List V → Hp → Prop} : ∀ (cvs : List V), Q cvs H → tVs cvs σ H Q
  | [], h => h
  | v :: r, h => tVs_run (Q := fun xs H2 => Q (v :: xs) H2) r h
theorem de_isXT {cvs : List V} {us : List Value} {g : GO} (et : etB K Cs Us = true) (vt : VTs K Ts cvs us) (sub : ∀ T ∈ Ts, T ∈ Us) (hl : Ts.length ≤ sizeLine) (h : DO K te g) : DE K (tCB (rIsXT K) (tCons te (tCons (tTup (tVs cvs)) tNil))) (eOp1 (isX Cs Ts) g) := fun b0 B Z0 Z H σ ρ d ρ' Q ok e q => by
  obtain ⟨x, a, e1, e3, e5⟩ := op1_ok e
  refine h b0 B Z0 Z H σ ρ x ρ' _ ok e1 fun v H1 Z1 ok1 s1 r1 => ?_
  refine tVs_run (Q := fun xs H2 => xs.length ≤ sizeLine ∧ ∀ p, H2 p = none → _) cvs ⟨by rw [vt.len]; exact hl, fun p hp => ?_⟩
  obtain ⟨ok2, zp, bp, ap⟩ := ok1.fresh (o := .tup cvs) hp
  obtain ⟨t, b, rfl, ty, ka⟩ := isX_ty (b := none) et vt sub ok2.zh (ok2.bd r1 e3) e5
  exact ⟨v, p, cvs, t, us, b, rfl, upd_same, vt.paired, ty, ka, q _ _ Z1 ok2 s1 (.bl b)⟩
/-! ### e.f -/
def tXF (K : PySem.W.Frag) (f : Str) (te : TE) : TE := fun σ H Q => te σ H fun x H1 => ∃ (a C d : Addr) (c : Str) (v : V), x = .ref a ∧ ExF K c C ∧ fld c = f ∧ H1 a = some (exk a C d) ∧ H1 d = some (.xd [(f, v)]) ∧ Q v H1
theorem pe_xF {e : Expr} {n : Str} {pos : Pos} (he : PE X e te) (hb : attributeBase e n X.env (eval e X.env) = eval e X.env := by rfl) : PE X (.Attribute e n pos) (tXF X.K n te) := by
  refine ⟨fun pins s σ H Q I h => attr_of hb (thn (he.run pins s σ H _ I h) fun u s1 hh => ?_)⟩
  obtain ⟨x, H1, I1, rx, a, C, d, c, v, rfl, f, rfl, ea, ed, q⟩ := hh
  obtain rfl : u = Value.ref a := rx
  obtain ⟨oe, vs, h1, h2, h3⟩ := exk_at I1.hok ea
  obtain ⟨mA, hns, hr⟩ := (show ObjOk X.prog X.w H1 s1.heap d (.xd [(fld c, v)]) from I1.hok d _ ed)
  obtain ⟨od, ho, hl⟩ := lookIn_ns hns
  have l : List.lookup (fld c) [(fld c, v)] = some v := by simp [List.lookup]
  obtain ⟨u, hu, ru⟩ := RelO.some_of (v := v) (o := mA (fld c)) (by rw [← l]; exact hr (fld c))
  have J : PySem.W.InstAt s1.heap a oe C (some od) := ⟨h1, h2.1, by unfold PySem.W.notCls; rw [h3] <;> rfl, by rw [h2.2]; exact ho⟩
  exact HandSPX.exc_get I1.kIn J f.ga f.gg f.sb (PySem.W.findObj_own f.hd f.no rfl (by rw [hl, hu])) (handed_of ru) ⟨v, H1, I1.tok _, ru, q⟩
def fldD (Cs : List Str) (f : Str) : D → Option D
  | .dict [(.none, .str c), (.none, p)] => if Cs.contains c && fld c == f then some p else none
  | _ => none
theorem de_xF {f : Str} {g : GO} (et : etB K Cs Us = true) (h : DO K te g) : DE K (tXF K f te) (eOp1 (fldD Cs f) g) := fun b0 B Z0 Z H σ ρ d ρ' Q ok e q => by
  obtain ⟨x, a, e1, e3, e5⟩ := op1_ok e
  refine h b0 B Z0 Z H σ ρ x ρ' _ ok e1 fun v H1 Z1 ok1 s1 r1 => ?_
  have bd := ok1.bd r1 e3
  unfold fldD at e5
  split at e5
  · rename_i c p
    split at e5
    · rename_i hc
      cases e5
      rw [Bool.and_eq_true] at hc
      cases bd with
      | exc h1 h2 h3 r =>
        have ef : fld c = f := by simpa using hc.2
        subst ef
        exact ⟨_, _, _, c, _, rfl, et_cls et (List.elem_iff.mp hc.1) h3, rfl, ok1.zh _ _ h1, ok1.zh _ _ h2, q _ H1 Z1 ok1 s1 r⟩
    · cases e5
  · cases e5
/-! ### C(e) as a value -/
def eMk (c : Str) (g : GE) (ρ : Rho) : R D := (g ρ).map fun d => excD c d
theorem de_mk {c f : Str} {C : Addr} {g : GE} (hc : Cls K c C) (hf : f = fld c) (h : DE K te g) : DE K (tMkV C f (tCons te tNil)) (eMk c g) := fun b0 B Z0 Z H σ ρ d ρ' Q ok e q => by
  obtain ⟨p, e1, rfl⟩ := R.map_ok e
  subst hf
  refine h b0 B Z0 Z H σ ρ p ρ' _ ok e1 fun v H1 Z1 ok1 s1 r1 => ⟨v, rfl, fun a dx ha hd ne => ?_⟩
  obtain ⟨ok2, s2⟩ := ok1.new (o := .xd [(fld c, v)]) hd
  obtain ⟨ok3, s3⟩ := ok2.new (o := exk a C dx) (show upd H1 dx _ a = none by rw [upd_ne ne.symm]; exact ha)
  exact q _ _ _ ok3 ((s1.trans s2).trans s3) (.exc upd_same (s3 _ _ upd_same) hc ((r1.mono s2).mono s3))
/-! ### the try -/
def sKeep (Cs Ts : List Str) (i j : Nat) (g : GS) (ρ : Rho) : O := match g ρ with
  | .ex c d ρ1 => if Cs.contains c then (if Ts.any (subC c) then .nx ((ρ1.set j (.sh (excD c d))).set i .no) else .ex c d ρ1) else .bad
  | o => o
theorem ds_keep {cvs : List V} {us : List Value} {i j : Nat} {tb : WX → TS} {g : GS} (et : etB K Cs Us = true) (vt : VTs K Ts cvs us) (sub : ∀ T ∈ Ts, T ∈ Us) (hij : i ≠ j) (h : ∀ W, DS K W (tb W) g) : DS K Wx (fun D σ H => tb (wKeep K us i j Wx D) D σ H) (sKeep Cs Ts i j g) := fun b0 B Z0 Z H σ ρ E ok s => by
  refine h _ b0 B Z0 Z H σ ρ E ok ?_
  unfold sKeep at s
  cases e : g ρ with
  | ex c d ρ1 =>
    rw [e] at s
    dsimp only at s
    split at s
    · rename_i hc
      intro σ' H' Z' C dx v ok' hC hx r
      have hm : c ∈ Cs := List.elem_iff.mp hc
      refine ⟨_, (vt.any et hm hC sub).2, fun hb => ⟨C, dx, rfl, rfl, fun a ha => ?_⟩, fun hb => ?_⟩
      · rw [hb] at s
        simp only [if_true] at s
        obtain ⟨ok2, s2⟩ := ok'.new (o := exk a C dx) ha
        have ok3 := ok2.put (i := j) (v := .ref a) (d := excD c d) (.exc upd_same (s2 _ _ hx) hC (r.mono s2))
        have ok4 := Ok.putAny (i := i) (x := none) ok3
        have es : ((σ'.set i (some (.ref a))).set j (some (.ref a))).set i none = (σ'.set j (some (.ref a))).set i none := by
          rw [List.set_comm _ _ hij, List.set_set]
        rw [es]
        exact s _ _ _ ok4
      · rw [hb] at s
        simp only [Bool.false_eq_true, if_false] at s
        exact s σ' H' Z' C dx v ok' hC hx r
    · exact s.elim
  | nx ρ1 => rw [e] at s; exact s
  | rt d ρ1 => rw [e] at s; exact s
  | rf ds ρ1 => rw [e] at s; exact s
  | bk ρ1 => rw [e] at s; exact s
  | ct ρ1 => rw [e] at s; exact s
  | bad => rw [e] at s; exact s
end
end DL

/-! DLz: sorted of a list or tuple of ints. -/
namespace DLX
open PySem PyProof.Rows Srt SrtO
section
variable {prog : Program} {w : World} {A : Around} {E : Value → Shared → Prop} {s : Shared}
theorem collect_tup {l : Addr} {vs : List Value} {Q : List Value → Shared → Prop} (hl : s.heap.IsTuple l vs.toArray)
    (h : Q vs { s with heap := (s.heap.push (seqObj "list" #[] 0)).update s.heap.objs.size (Obj.mapSeq (· ++ vs.toArray)) }) (hsz : vs.length ≤ sizeLine) : wpAny (model prog w) A (collect (.ref l)) Q E s := by
  obtain ⟨o, ho, hc, n, hd⟩ := id hl
  unfold collect
  refine wpAny_bind (wpAny_runValue (codeAny_builtin entry_proto_collect' ?_))
  show wpAny _ _ (do again (.builtin "list.__iadd__" ⟨[← newList [], .ref l], []⟩)) _ _ s
  refine wpAny_bind (wpAny_newList (wpAny_pure ⟨Code.quiet_builtin _ (by decide +kernel), codeAny_builtin entry_list_iadd' ?_⟩))
  show wpAny _ _ (Builtin.List.listExtendWith (.ref s.heap.objs.size) (.ref l) (.ref s.heap.objs.size)) _ _ { s with heap := s.heap.push (seqObj "list" #[] 0) }
  unfold Builtin.List.listExtendWith
  have ho' : (s.heap.push (seqObj "list" #[] 0)).get? l = some o := Heap.get?_push_of_some _ ho
  refine wpAny_bind (wpAny_typeOf (T := "tuple") ⟨o, ho', hc⟩ ?_)
  rw [if_pos (by rw [show (Value.type "tuple" == Value.type "tuple") = true from rfl]; simp)]
  refine wpAny_bind (listItems_at ho' hd (wpAny_bind (listItems_at (xs := #[]) (n := 0) (Heap.get?_push_size _ rfl) rfl ?_)))
  rw [if_neg (by simp)]
  refine wpAny_bind (listUpdate_at (xs := #[]) (n := 0) (Heap.get?_push_size _ rfl) rfl (wpAny_pure ?_) (Nat.zero_le _) (by show (#[] ++ vs.toArray).size ≤ sizeLine + 1; simp only [Array.size_append, List.size_toArray, List.length_nil]; omega))
  show wpAny (model prog w) A (do
      let o ← load s.heap.objs.size
      match o.data with
      | .seq xs _ => pure xs.toList
      | _ => unsupported "internal:collect") Q E { s with heap := (s.heap.push (seqObj "list" #[] 0)).update s.heap.objs.size (Obj.mapSeq (· ++ vs.toArray)) }
  refine wpAny_bind (wpAny_load (get?_update_seq (Heap.get?_push_size _ rfl) _) ?_)
  show wpAny _ _ (pure ((#[] : Array Value) ++ vs.toArray).toList) Q E _
  rw [show ((#[] : Array Value) ++ vs.toArray).toList = vs by simp]
  exact wpAny_pure h
/-- sorted(t), t a tuple -/
theorem sorted_tup {l : Addr} {vs : List Value} {ltv : Value → Value → Bool} {Q : Value → Shared → Prop} (O : Swo ltv) (hl : s.heap.IsTuple l vs.toArray) (hz : vs.length ≤ sizeLine)
    (hS : 2 ≤ vs.length → ∀ (h₁ : Heap) (a : Addr), h₁.get? a = some (seqObj "list" vs.toArray 0) → (∀ b o, s.heap.get? b = some o → b ≠ a ∧ h₁.get? b = some o) → SortableO prog w A.in1.in1 { s with heap := h₁ } a vs ltv)
    (h : ∀ out : List Value, Srtd ltv out → Stb ltv out vs → Q (.ref (s.heap.objs.size + 1)) { s with heap := sortedAll s.heap vs out.toArray }) : wpAny (model prog w) A (call (.builtin "sorted") [.ref l]) Q E s := by
  refine Calls.call_function_entry kind_sorted plain_sorted entry_sorted (args_sorted1 _) ?_
  unfold Builtin.«sorted»
  refine wpAny_bind (m := checkCount "sorted" 1 1 _) (wpAny_pure (wpAny_bind (collect_tup hl (wpAny_bind (wpAny_newList ?_ hz)) hz)))
  have hsz : ((s.heap.push (seqObj "list" #[] 0)).update s.heap.objs.size (Obj.mapSeq (· ++ vs.toArray))).objs.size = s.heap.objs.size + 1 := by rw [Heap.size_update, size_push']
  have hoL : (((s.heap.push (seqObj "list" #[] 0)).update s.heap.objs.size (Obj.mapSeq (· ++ vs.toArray))).push (seqObj "list" vs.toArray 0)).get? (s.heap.objs.size + 1) = some (seqObj "list" vs.toArray 0) := by rw [← hsz]; exact Heap.get?_push_size _ rfl
  have keep : ∀ b o, s.heap.get? b = some o → b ≠ s.heap.objs.size + 1 ∧ (((s.heap.push (seqObj "list" #[] 0)).update s.heap.objs.size (Obj.mapSeq (· ++ vs.toArray))).push (seqObj "list" vs.toArray 0)).get? b = some o := fun b o q => by
    have hlt : b < s.heap.objs.size := Heap.lt_size q
    exact ⟨Nat.ne_of_lt (Nat.lt_succ_of_lt hlt), Heap.get?_push_of_some _ (by rw [Heap.get?_update_ne _ _ _ _ (Nat.ne_of_lt hlt)]; exact Heap.get?_push_of_some _ q)⟩
  show wpAny _ _ _ _ _ { s with heap := ((s.heap.push (seqObj "list" #[] 0)).update s.heap.objs.size (Obj.mapSeq (· ++ vs.toArray))).push (seqObj "list" vs.toArray 0) }
  rw [hsz]
  refine wpAny_bind (wpAny_holding (wpAny_call_entry slot_list_sort ⟨_, hoL, rfl⟩ entry_list_sort (list_sort_ord O hoL hz (fun h2 => hS h2 _ _ hoL keep) fun out hs hb => ⟨_, rfl, ?_⟩) (args_list_sort _)))
  exact wpAny_pure ⟨_, rfl, h out hs hb⟩
end
end DLX
namespace DL
open PySem PySem.Spec PyProof.Rows L2
def rSortQ (K : PySem.W.Frag) : List V → Hp → VK → Prop := fun vs H Q => ∃ (a : Addr) (ns : List Int), vs = [V.ref a] ∧ (SqL K H a (ns.map V.int) ∨ SqT K H a (ns.map V.int)) ∧
  ∀ (ns' : List Int) (p : Addr), ns'.Perm ns → ns'.Pairwise (· ≤ ·) → H p = none → Q (.ref p) (upd H p (.lst (ns'.map V.int)))
section
variable {X : Cx} {K : PySem.W.Frag}
theorem cr_sortedU : CallR X (.builtin "sorted") (rSortQ X.K) := by
  intro pins s σ H vs us Q I r h
  obtain ⟨a, ns, rfl, hs | hs, q⟩ := h
  · exact cr_sortedI pins s σ H [.ref a] us Q I r ⟨a, ns, rfl, hs, q⟩
  · obtain ⟨its, rv, hl, hz⟩ := I.tuple hs
    rw [Vals.ref1 r]
    have hi := rv.ints
    have hT : s.heap.IsTuple a its.toArray := hl
    refine DLX.sorted_tup SrtO.swo_int hT (by rw [← rv.length]; exact hz) (fun h2 h₁ a' _ _ => SrtO.ints_sortable hi h2) fun out h1 h2 => ?_
    obtain ⟨k1, k2, k3⟩ := SrtO.ints_out hi h1 h2
    obtain ⟨ep, he'⟩ := PyProof.Rows.sortedAll_at s.heap its out.toArray
    have hlen : ((out.map SrtO.iv).map V.int).length ≤ sizeLine := by
      rw [List.length_map, k2.length_eq]
      rw [List.length_map] at hz; exact hz
    exact ⟨.ref _, upd H (s.heap.objs.size + 1) (.lst ((out.map SrtO.iv).map V.int)), I.laid (t' := s.toks) (fun _ _ => PyProof.Rows.sortedAll_old) (Nat.le_succ _) ⟨hlen, out, ep, vals_of_ints k1, he'⟩, rfl, q _ _ k2 k3 (I.hok.fresh (Nat.le_succ _))⟩
/-! ints in order -/
def insI (x : Int) : List Int → List Int
  | [] => [x]
  | y :: r => if x ≤ y then x :: y :: r else y :: insI x r
def srtI : List Int → List Int
  | [] => []
  | x :: r => insI x (srtI r)
theorem insI_perm (x : Int) : ∀ l : List Int, (insI x l).Perm (x :: l)
  | [] => .refl _
  | y :: r => by
    unfold insI
    split
    · exact .refl _
    · exact ((insI_perm x r).cons y).trans (.swap x y r)
theorem srtI_perm : ∀ l : List Int, (srtI l).Perm l
  | [] => .refl _
  | x :: r => (insI_perm x _).trans ((srtI_perm r).cons x)
theorem insI_pw (x : Int) : ∀ {l : List Int}, l.Pairwise (· ≤ ·) → (insI x l).Pairwise (· ≤ ·)
  | [], _ => by simp [insI]
  | y :: r, h => by
    unfold insI
    have h' := List.pairwise_cons.mp h
    split
    · rename_i hx
      refine List.pairwise_cons.mpr ⟨fun z hz => ?_, h⟩
      rcases List.mem_cons.mp hz with rfl | hz
      · exact hx
      · exact Int.le_trans hx (h'.1 z hz)
    · rename_i hx
      refine List.pairwise_cons.mpr ⟨fun z hz => ?_, insI_pw x h'.2⟩
      rcases List.mem_cons.mp ((insI_perm x r).mem_iff.mp hz) with rfl | hz
      · omega
      · exact h'.1 z hz
theorem srtI_pw : ∀ l : List Int, (srtI l).Pairwise (· ≤ ·)
  | [] => .nil
  | x :: r => insI_pw x (srtI_pw r)
theorem pw_eq : ∀ {l m : List Int}, l.Perm m → l.Pairwise (· ≤ ·) → m.Pairwise (· ≤ ·) → l = m
  | [], m, p, _, _ => (List.nil_perm.mp p).symm
  | x :: l, [], p, _, _ => by simp at p
  | x :: l, y :: m, p, h1, h2 => by
    have a := List.pairwise_cons.mp h1
    have b := List.pairwise_cons.mp h2
    have e : x = y := by
      have hx : x ∈ y :: m := p.mem_iff.mp List.mem_cons_self
      have hy : y ∈ x :: l := p.mem_iff.mpr List.mem_cons_self
      rcases List.mem_cons.mp hx with e | hx
      · exact e
      · rcases List.mem_cons.mp hy with e | hy
        · exact e.symm
        · exact Int.le_antisymm (a.1 y hy) (b.1 x hx)
    subst e
    rw [pw_eq (List.Perm.cons_inv p) a.2 b.2]
theorem srt_unique {l m : List Int} (p : m.Perm l) (h : m.Pairwise (· ≤ ·)) : m = srtI l := pw_eq (p.trans (srtI_perm l).symm) h (srtI_pw l)
def sortedD : List D → Option (List D)
  | [.list ds] => (intsOf ds).map fun ns => (srtI ns).map .int
  | [.tuple ds] => (intsOf ds).map fun ns => (srtI ns).map .int
  | _ => none
theorem sn_sorted : SnAF K (rSortQ K) sortedD := fun b0 B Z0 Z H σ ρ xs as c Q ok ra e q => by
  have fin : ∀ {a : Addr} {vs : List V} {ds : List D}, (SqL K H a vs ∨ SqT K H a vs) → RpA K Z vs ds → (intsOf ds).map (fun ns => (srtI ns).map PyData.int) = some c → rSortQ K [.ref a] H Q := fun {a vs ds} hs r e => by
    obtain ⟨ns, e1, rfl⟩ := Option.map_eq_some_iff.mp e
    rw [intsOf_eq e1] at r
    rw [RpA.of_ints r] at hs
    refine ⟨a, ns, rfl, hs, fun ns' p hp hw hn => ?_⟩
    rw [srt_unique hp hw]
    obtain ⟨ok2, zp, bp, ap⟩ := ok.fresh (o := .lst ((srtI ns).map V.int)) hn
    exact q p _ _ ok2 zp bp ap upd_same (RpA.ints _)
  unfold sortedD at e
  split at e
  · cases ra with
    | cons h r =>
      cases r
      cases h with
      | lst h1 r1 => exact fin (.inl (.inl (.inl h1))) r1 e
  · cases ra with
    | cons h r =>
      cases r
      cases h with
      | tup h1 r1 => exact fin (.inr (same_t ok.zh h1)) r1 e
  · cases e
end
end DL

/-! DMa: equations for the evaluation of the mirrors. -/
namespace DL
open PySem L2
section
variable {α β : Type} {a : α} {ρ ρ1 : Rho} {c : Str} {d e : D} {x : Str} {i : Int} {b : Bool} {xs : List D} {T : String} {Ts : List String}
theorem to_ok (f : α → Rho → O) : (R.ok a ρ).to f = f a ρ := rfl
theorem toX_ok (f : α → Rho → O) : (R.ok a ρ).toX f = f a ρ := rfl
theorem toX_ex (f : α → Rho → O) : (R.ex c d ρ : R α).toX f = .ex c d ρ := rfl
theorem bind_nx (f : Rho → O) : (O.nx ρ).bind f = f ρ := rfl
theorem bind_rt (f : Rho → O) : (O.rt d ρ).bind f = .rt d ρ := rfl
theorem bind_rf (f : Rho → O) : (O.rf xs ρ).bind f = .rf xs ρ := rfl
theorem bind_ex (f : Rho → O) : (O.ex c d ρ).bind f = .ex c d ρ := rfl
theorem bind_bk (f : Rho → O) : (O.bk ρ).bind f = .bk ρ := rfl
theorem bind_ct (f : Rho → O) : (O.ct ρ).bind f = .ct ρ := rfl
theorem at_ok : (RX.ok a).at ρ = .ok a ρ := rfl
theorem at_ex : (RX.ex c d : RX α).at ρ = .ex c d ρ := rfl
theorem res_val : (Op.val d).res ρ = some d := rfl
theorem map_ex (f : α → β) : (R.ex c d ρ : R α).map f = .ex c d ρ := rfl
theorem rbind_ex (f : α → Rho → R β) : (R.ex c d ρ : R α).bind f = .ex c d ρ := rfl
theorem isiD_n : isiD T .none = (kitB "NoneType" T).map .bool := rfl
theorem isiD_b : isiD T (.bool b) = (kitB "bool" T).map .bool := rfl
theorem isiD_i : isiD T (.int i) = (kitB "int" T).map .bool := rfl
theorem isiD_s : isiD T (.str x) = (kitB "str" T).map .bool := rfl
theorem isiD_l : isiD T (.list xs) = (kitB "list" T).map .bool := rfl
theorem isiD_t : isiD T (.tuple xs) = (kitB "tuple" T).map .bool := rfl
theorem isiTD_n : isiTD Ts .none = (isiAny "NoneType" Ts).map .bool := rfl
theorem isiTD_b : isiTD Ts (.bool b) = (isiAny "bool" Ts).map .bool := rfl
theorem isiTD_i : isiTD Ts (.int i) = (isiAny "int" Ts).map .bool := rfl
theorem isiTD_s : isiTD Ts (.str x) = (isiAny "str" Ts).map .bool := rfl
theorem isiTD_l : isiTD Ts (.list xs) = (isiAny "list" Ts).map .bool := rfl
theorem isiTD_t : isiTD Ts (.tuple xs) = (isiAny "tuple" Ts).map .bool := rfl
theorem isNone_e : isNoneD (excD c d) = false := rfl
theorem isNone_s : isNoneD (.str x) = false := rfl
theorem isX_n {Cs Us : List Str} : isX Cs Us .none = some (.bool false) := rfl
theorem isX_e {Cs Us : List Str} (h : Cs.contains c = true) : isX Cs Us (excD c d) = some (.bool (Us.any (subC c))) := by
  show (if Cs.contains c then _ else _) = _
  rw [if_pos h]
theorem fldD_e {Cs : List Str} {f : Str} (h : (Cs.contains c && fld c == f) = true) : fldD Cs f (excD c d) = some d := by
  show (if Cs.contains c && fld c == f then some d else none) = _
  rw [if_pos h]
theorem sKeep_nx {Cs Us : List Str} {j k : Nat} {g : GS} (h : g ρ = .nx ρ1) : sKeep Cs Us j k g ρ = .nx ρ1 := by unfold sKeep; rw [h]
theorem sKeep_ex {Cs Us : List Str} {j k : Nat} {g : GS} (h : g ρ = .ex c d ρ1) (h1 : Cs.contains c = true) (h2 : Us.any (subC c) = true) : sKeep Cs Us j k g ρ = .nx ((ρ1.set k (.sh (excD c d))).set j .no) := by
  unfold sKeep
  rw [h]
  show (if Cs.contains c then (if Us.any (subC c) then _ else _) else _) = _
  rw [if_pos h1, if_pos h2]
theorem callP_rt {np n : Nat} {g : GS} {as : List D} (hl : as.length = np) (h : g (env0 n as) = .rt d ρ) : callP np n g as = some d := by unfold callP; rw [if_neg (fun z => z hl), h]
theorem callP_nx {np n : Nat} {g : GS} {as : List D} (hl : as.length = np) (h : g (env0 n as) = .nx ρ) : callP np n g as = some .none := by unfold callP; rw [if_neg (fun z => z hl), h]
theorem callF_rf {np n : Nat} {g : GS} {as : List D} (hl : as.length = np) (h : g (env0 n as) = .rf xs ρ) : callF np n g as = some xs := by unfold callF; rw [if_neg (fun z => z hl), h]
theorem callX_rt {np n : Nat} {g : GS} {as : List D} (hl : as.length = np) (h : g (env0 n as) = .rt d ρ) : callX np n g as = .ok d := by unfold callX; rw [if_neg (fun z => z hl), h]
theorem callX_nx {np n : Nat} {g : GS} {as : List D} (hl : as.length = np) (h : g (env0 n as) = .nx ρ) : callX np n g as = .ok .none := by unfold callX; rw [if_neg (fun z => z hl), h]
theorem callX_ex {np n : Nat} {g : GS} {as : List D} (hl : as.length = np) (h : g (env0 n as) = .ex c d ρ) : callX np n g as = .ex c d := by unfold callX; rw [if_neg (fun z => z hl), h]
theorem callXF_rf {np n : Nat} {g : GS} {as : List D} (hl : as.length = np) (h : g (env0 n as) = .rf xs ρ) : callXF np n g as = .ok xs := by unfold callXF; rw [if_neg (fun z => z hl), h]
theorem callXF_ex {np n : Nat} {g : GS} {as : List D} (hl : as.length = np) (h : g (env0 n as) = .ex c d ρ) : callXF np n g as = .ex c d := by unfold callXF; rw [if_neg (fun z => z hl), h]
end
/-! ### plain data: None, bools, ints, texts, lists and tuples of such, n deep -/
inductive Pl : Nat → D → Prop
  | none (n : Nat) : Pl n .none
  | bool (n : Nat) (b : Bool) : Pl n (.bool b)
  | int (n : Nat) (i : Int) : Pl n (.int i)
  | str (n : Nat) (x : Str) : Pl n (.str x)
  | list {n : Nat} {xs : List D} (hl : xs.length ≤ sizeLine) (h : ∀ x ∈ xs, Pl n x) : Pl (n + 1) (.list xs)
  | tuple {n : Nat} {xs : List D} (hl : xs.length ≤ sizeLine) (h : ∀ x ∈ xs, Pl n x) : Pl (n + 1) (.tuple xs)
theorem Pl.up {n : Nat} {d : D} (h : Pl n d) : Pl (n + 1) d := by
  induction h with
  | none n => exact .none _
  | bool n b => exact .bool _ b
  | int n i => exact .int _ i
  | str n x => exact .str _ x
  | list hl h ih => exact .list hl ih
  | tuple hl h ih => exact .tuple hl ih
end DL

/-! DMb: general lemmas for the plain parts. -/
namespace DL
open PySem L2
theorem eLc_ok {vs : List Nat} {gi : GF} {k : GG} {t : GT} {e : GE} {ρ ρ1 ρ2 : Rho} {ds ys : List D} (h1 : gi ρ = .ok ds ρ1) (h2 : ds.length ≤ sizeLine) (h3 : lcL vs k t e ds (wipeR ρ1 vs) = .ok ys ρ2) : eLc vs gi k t e ρ = .ok ys (wipeR ρ2 vs) := by
  unfold eLc
  rw [h1]
  show (if ds.length ≤ sizeLine then (lcL vs k t e ds (wipeR ρ1 vs)).bind fun ys ρ2 => R.ok ys (wipeR ρ2 vs) else .bad) = _
  rw [if_pos h2, h3]; rfl
theorem eL_ok {g : GF} {ρ ρ1 : Rho} {ds : List D} (h : g ρ = .ok ds ρ1) : eL g ρ = .ok (.list ds) ρ1 := by unfold eL; rw [h]; rfl
theorem sSet_ok {i : Nat} {g : GE} {ρ ρ1 : Rho} {d : D} (h : g ρ = .ok d ρ1) : sSet i g ρ = .nx (ρ1.set i (.sh d)) := by unfold sSet; rw [h]; rfl
theorem sRet_ok {g : GE} {ρ ρ1 : Rho} {d : D} (h : g ρ = .ok d ρ1) : sRet g ρ = .rt d ρ1 := by unfold sRet; rw [h]; rfl
theorem sRetF_ok {g : GF} {ρ ρ1 : Rho} {ds : List D} (h : g ρ = .ok ds ρ1) : sRetF g ρ = .rf ds ρ1 := by unfold sRetF; rw [h]; rfl
theorem seq_nx {a b : GS} {ρ ρ1 : Rho} {o : O} (h : a ρ = .nx ρ1) (h2 : b ρ1 = o) : sSeq a b ρ = o := by unfold sSeq; rw [h]; exact h2
theorem seq_rt {a b : GS} {ρ ρ1 : Rho} {d : D} (h : a ρ = .rt d ρ1) : sSeq a b ρ = .rt d ρ1 := by unfold sSeq; rw [h]; rfl
theorem seq_ex {a b : GS} {ρ ρ1 : Rho} {c : Str} {d : D} (h : a ρ = .ex c d ρ1) : sSeq a b ρ = .ex c d ρ1 := by unfold sSeq; rw [h]; rfl
theorem sFor_nx {gi : GF} {k : GG} {b : GS} {ρ ρ1 ρ2 : Rho} {ds : List D} (h : gi ρ = .ok ds ρ1) (h2 : forL k b ds ρ1 = .nx ρ2) : sFor gi k b ρ = .nx ρ2 := by unfold sFor; rw [h]; exact h2
theorem sIf_t {c : GT} {a b : GS} {ρ ρ1 : Rho} {o : O} (h : c ρ = .ok true ρ1) (h2 : a ρ1 = o) : sIf c a b ρ = o := by unfold sIf; rw [h]; exact h2
theorem sIf_f {c : GT} {a b : GS} {ρ ρ1 : Rho} {o : O} (h : c ρ = .ok false ρ1) (h2 : b ρ1 = o) : sIf c a b ρ = o := by unfold sIf; rw [h]; exact h2
/-- if not e: return False, and e is True -/
theorem skip_not {g : GE} {a : GS} {ρ ρ1 : Rho} (h : g ρ = .ok (.bool true) ρ1) : sIf (tNotG (tstE g)) a sNext ρ = .nx ρ1 := by
  refine sIf_f (ρ1 := ρ1) ?_ rfl
  unfold tNotG tstE; rw [h]; rfl
theorem lc_filter {vs : List Nat} {k : GG} {t : GT} {e : GE} {ρ : Rho} (p : Int → Bool) {is : List Int} (h : ∀ i ∈ is, ∃ ρ1, k (.int i) ρ = some ρ1 ∧ wipeR ρ1 vs = ρ ∧ t ρ1 = .ok (p i) ρ1 ∧ e ρ1 = .ok (.int i) ρ1) : lcL vs k t e (is.map .int) ρ = .ok ((is.filter p).map .int) ρ := by
  have := lc_fm (vs := vs) (k := k) (t := t) (e := e) (ρ := ρ) (fun d => match d with | .int i => if p i then some (.int i) else none | _ => none) (ds := is.map PyData.int) (fun d hd => by
    obtain ⟨i, hi, rfl⟩ := List.mem_map.mp hd
    obtain ⟨ρ1, a, b, c, d⟩ := h i hi
    refine ⟨ρ1, a, b, ?_⟩
    cases hp : p i with
    | true => exact .inl ⟨.int i, by simp [hp], by rw [c, hp], d⟩
    | false => exact .inr ⟨by simp [hp], by rw [c, hp]⟩)
  rw [this]
  congr 1
  rw [List.filterMap_map]
  clear this h
  induction is with
  | nil => rfl
  | cons i r ih =>
    simp only [List.filterMap_cons, List.filter_cons, Function.comp]
    cases p i with
    | true => simp only [if_true, List.map_cons]; rw [← ih]
    | false => simp only [Bool.false_eq_true, if_false]; rw [← ih]
/-- the number at a place -/
def nat (ns : List Int) (i : Int) : Int := ns[i.toNat]?.getD 0
theorem atI_of' {α : Type} {xs : List α} {i : Int} {x : α} (h0 : 0 ≤ i) (h : xs[i.toNat]? = some x) : atI xs i = some x := atI_of (n := i.toNat) (by omega) h
theorem atI_at {ns : List Int} {i : Int} (h0 : 0 ≤ i) (h1 : i < ns.length) : atI (ns.map PyData.int) i = some (.int (nat ns i)) := by
  have hk : i.toNat < ns.length := by omega
  refine atI_of (n := i.toNat) (by omega) ?_
  rw [List.getElem?_map]
  unfold nat
  rw [List.getElem?_eq_getElem hk]; rfl
def rngI (lo : Int) (n : Nat) : List Int := (List.range n).map fun i : Nat => lo + (i : Int)
theorem rngI_d (lo : Int) (n : Nat) : rangeD lo n = (rngI lo n).map .int := by unfold rangeD rngI; rw [List.map_map]; rfl
theorem mem_rngI {lo i : Int} {n : Nat} (h : i ∈ rngI lo n) : lo ≤ i ∧ i < lo + n := by
  obtain ⟨k, hk, rfl⟩ := List.mem_map.mp h
  have := List.mem_range.mp hk
  omega
theorem in_rngI {lo i : Int} {n : Nat} (h0 : lo ≤ i) (h1 : i < lo + n) : i ∈ rngI lo n := List.mem_map.mpr ⟨(i - lo).toNat, List.mem_range.mpr (by omega), by omega⟩
theorem rngI_len (lo : Int) (n : Nat) : (rngI lo n).length = n := by unfold rngI; rw [List.length_map, List.length_range]
theorem rngI_succ (lo : Int) (n : Nat) : rngI lo (n + 1) = rngI lo n ++ [lo + (n : Int)] := by unfold rngI; rw [List.range_succ, List.map_append]; rfl
theorem rng1_eq {m : Int} (h0 : 0 ≤ m) (h1 : m < 2 ^ 62) : rng1 [.int m] = some (rangeD 0 m.toNat) := if_pos ⟨by omega, h1⟩
theorem rangeD_at {m i : Nat} {d : D} (h : (rangeD 0 m)[i]? = some d) : d = .int (i : Int) ∧ i < m := by
  have hl : i < m := by
    have := (List.getElem?_eq_some_iff.mp h).1
    rw [rangeD_len] at this
    exact this
  rw [rangeD_get hl] at h
  exact ⟨by rw [← Option.some.inj h, Int.zero_add], hl⟩
theorem rangeD_at1 {m i : Nat} {d : D} (h : (rangeD 1 m)[i]? = some d) : d = .int (1 + (i : Int)) ∧ i < m := by
  have hl : i < m := by
    have := (List.getElem?_eq_some_iff.mp h).1
    rw [rangeD_len] at this
    exact this
  rw [rangeD_get hl] at h
  exact ⟨(Option.some.inj h).symm, hl⟩
def Sq (d : D) (xs : List D) : Prop := d = .list xs ∨ d = .tuple xs
theorem Sq.l (xs : List D) : Sq (.list xs) xs := .inl rfl
theorem Sq.t (xs : List D) : Sq (.tuple xs) xs := .inr rfl
theorem Sq.len {r : D} {xs : List D} (h : Sq r xs) : ∃ j : Int, lenD [r] = some (.int j) ∧ j = (xs.length : Int) := by rcases h with rfl | rfl <;> exact ⟨_, rfl, rfl⟩
theorem Sq.leni {r : D} {ns : List Int} (h : Sq r (ns.map .int)) : lenD [r] = some (.int (ns.length : Int)) := by
  obtain ⟨j, e, ej⟩ := h.len
  rw [e, ej, List.length_map]
theorem Sq.ix {r : D} {ns : List Int} {i : Int} (hr : Sq r (ns.map .int)) (h0 : 0 ≤ i) (h1 : i < ns.length) : ixD r (.int i) = some (.int (nat ns i)) := by
  rcases hr with rfl | rfl
  · rw [ixD_list]; exact atI_at h0 h1
  · rw [ixD_tuple]; exact atI_at h0 h1
theorem atI_last {α : Type} (l : List α) (x : α) : atI (l ++ [x]) (-1) = some x := by
  unfold atI ixN
  rw [if_neg (by omega), if_pos (by rw [List.length_append]; simp; omega)]
  show (l ++ [x])[_]? = _
  rw [List.length_append, show ((-1 : Int) + ((l.length + [x].length : Nat) : Int)).toNat = l.length by simp; omega]
  simp
theorem ixN_last {α : Type} (l : List α) (x : α) : ixN (l ++ [x]).length (-1) = some l.length := by
  unfold ixN
  rw [if_neg (by omega), if_pos (by rw [List.length_append]; simp; omega), List.length_append, show ((-1 : Int) + ((l.length + [x].length : Nat) : Int)).toNat = l.length by simp; omega]
theorem size_of {n : Nat} (h : n ≤ 100000) : n ≤ sizeLine := Nat.le_trans h (by decide)
theorem size_lt {n : Nat} (h : n < 100000) : n < sizeLine := Nat.lt_of_lt_of_le h (by decide)
/-! membership of ints -/
theorem flVs_ints : ∀ ns : List Int, flVs (ns.map PyData.int) = some (ns.map V.int)
  | [] => rfl
  | n :: r => by
    show (match flV (PyData.int n), flVs (r.map PyData.int) with | some v, some vs => some (v :: vs) | _, _ => none) = _
    rw [flVs_ints r]; rfl
theorem inV_ints (i : Int) (ns : List Int) : inV (.int i) (ns.map V.int) = decide (i ∈ ns) := by
  induction ns with
  | nil => rfl
  | cons n r ih =>
    unfold inV at ih ⊢
    rw [List.map_cons, List.any_cons, ih]
    show ((n == i) || _) = _
    by_cases h : n = i
    · rw [decide_eq_true (List.mem_cons.mpr (.inl h.symm)), beq_iff_eq.mpr h]; rfl
    · have e : (n == i) = false := by simpa using h
      rw [e, Bool.false_or]
      exact decide_eq_decide.mpr ⟨fun z => List.mem_cons_of_mem _ z, fun z => (List.mem_cons.mp z).resolve_left fun y => h y.symm⟩
theorem inD_t (i : Int) (ns : List Int) : inD (.int i) (.tuple (ns.map .int)) = some (.bool (decide (i ∈ ns))) := by
  unfold inD inDb
  show Option.map _ (match flV (PyData.int i), flVs (ns.map PyData.int) with | some v, some vs => some (inV v vs) | _, _ => none) = _
  rw [flVs_ints]
  show some (PyData.bool (inV (.int i) (ns.map V.int))) = _
  rw [inV_ints]
theorem inD_l (i : Int) (ns : List Int) : inD (.int i) (.list (ns.map .int)) = some (.bool (decide (i ∈ ns))) := inD_t i ns
theorem notInD_l (i : Int) (ns : List Int) : notInD (.int i) (.list (ns.map .int)) = some (.bool (!decide (i ∈ ns))) := by
  unfold notInD inDb
  show Option.map _ (match flV (PyData.int i), flVs (ns.map PyData.int) with | some v, some vs => some (inV v vs) | _, _ => none) = _
  rw [flVs_ints]
  show some (PyData.bool (!inV (.int i) (ns.map V.int))) = _
  rw [inV_ints]
theorem cut_map {α β : Type} (f : α → β) (xs : List α) (lo hi : Option Int) : cutD (xs.map f) lo hi = (cutD xs lo hi).map f := by
  unfold cutD
  rw [List.length_map, List.map_take, List.map_drop]
theorem cut_to {α : Type} (xs : List α) (m : Nat) : cutD xs none (some (m : Int)) = xs.take m := by
  unfold cutD
  rw [HT.sIx_nat]
  show (xs.drop 0).take (min m xs.length - 0) = _
  rw [List.drop_zero, Nat.sub_zero, List.take_eq_take_iff]
  omega
theorem cut_from {α : Type} (xs : List α) (m : Nat) : cutD xs (some (m : Int)) none = xs.drop m := by
  unfold cutD
  rw [HT.sIx_nat]
  show (xs.drop (min m xs.length)).take (xs.length - min m xs.length) = _
  rw [List.take_of_length_le (by rw [List.length_drop]; omega)]
  by_cases h : m ≤ xs.length
  · rw [Nat.min_eq_left h]
  · rw [Nat.min_eq_right (by omega), List.drop_length, List.drop_of_length_le (by omega)]
theorem cut_ft_len {α : Type} (xs : List α) (m u : Nat) : (cutD xs (some (m : Int)) (some (u : Int))).length ≤ xs.length - m := by
  unfold cutD
  rw [HT.sIx_nat, HT.sIx_nat, List.length_take, List.length_drop]
  omega
/-! enumerate -/
theorem map_nat (ns : List Int) : (List.range ns.length).map (fun k : Nat => nat ns (k : Int)) = ns := by
  apply List.ext_getElem?
  intro k
  by_cases h : k < ns.length
  · rw [List.getElem?_map, List.getElem?_range h, Option.map_some, nat, Int.toNat_natCast, List.getElem?_eq_getElem h]; rfl
  · rw [List.getElem?_eq_none (by simpa using h), List.getElem?_eq_none (by simpa using h)]
theorem enum_range (ns : List Int) : enumFrom 0 (ns.map .int) = (List.range ns.length).map fun k : Nat => .tuple [.int (k : Int), .int (nat ns (k : Int))] := by
  apply List.ext_getElem?
  intro k
  by_cases h : k < ns.length
  · rw [enumFrom_get _ 0 k (.int (nat ns k)), List.getElem?_map, List.getElem?_range h, Option.map_some, Nat.zero_add]
    rw [List.getElem?_map, nat, Int.toNat_natCast, List.getElem?_eq_getElem h]; rfl
  · rw [List.getElem?_eq_none (by rw [enumFrom_len, List.length_map]; omega), List.getElem?_eq_none (by simpa using h)]
theorem set_range (ns : List Int) (i : Nat) (m : Int) : ns.set i m = (List.range ns.length).map fun k : Nat => if k = i then m else nat ns (k : Int) := by
  apply List.ext_getElem?
  intro k
  by_cases h : k < ns.length
  · rw [List.getElem?_map, List.getElem?_range h, Option.map_some, List.getElem?_set]
    by_cases e : i = k
    · rw [if_pos e, if_pos (by omega : i < ns.length), if_pos e.symm]
    · rw [if_neg e, if_neg fun z => e z.symm, nat, Int.toNat_natCast, List.getElem?_eq_getElem h]; rfl
  · rw [List.getElem?_eq_none (by simpa using h), List.getElem?_eq_none (by simpa using h)]
theorem nat_set {ns : List Int} {i : Nat} {m k : Int} (h0 : 0 ≤ k) : nat (ns.set i m) k = if k = (i : Int) ∧ i < ns.length then m else nat ns k := by
  unfold nat
  rw [List.getElem?_set]
  by_cases e : i = k.toNat
  · rw [if_pos e]
    by_cases h : i < ns.length
    · rw [if_pos h, if_pos ⟨by omega, h⟩]; rfl
    · rw [if_neg h, if_neg fun z => h z.2, List.getElem?_eq_none (by omega)]
  · rw [if_neg e, if_neg fun z => e (by omega)]
theorem set_cut (ns : List Int) (i : Nat) (m : Int) (h : i < ns.length) : ns.take i ++ [m] ++ ns.drop (i + 1) = ns.set i m := by
  rw [List.set_eq_take_append_cons_drop, if_pos h, List.append_assoc]; rfl
theorem Sq.enum {r : D} {ns : List Int} (h : Sq r (ns.map .int)) : enum1D [r] = some ((List.range ns.length).map fun k : Nat => .tuple [.int (k : Int), .int (nat ns (k : Int))]) := by
  rw [← enum_range]
  rcases h with rfl | rfl <;> rfl
theorem cut3 (ns : List Int) (i : Int) (h1 : 1 ≤ i) (h2 : i + 1 < ns.length) : cutD ns (some (i - 1)) (some (i + 2)) = [nat ns (i - 1), nat ns i, nat ns (i + 1)] := by
  obtain ⟨k, rfl⟩ : ∃ k : Nat, i = (k : Int) + 1 := ⟨(i - 1).toNat, by omega⟩
  rw [show (k : Int) + 1 - 1 = ((k : Nat) : Int) by omega, show (k : Int) + 1 + 2 = ((k + 3 : Nat) : Int) by omega, show (k : Int) + 1 + 1 = ((k + 2 : Nat) : Int) by omega, show (k : Int) + 1 = ((k + 1 : Nat) : Int) by omega]
  unfold cutD
  rw [HT.sIx_nat, HT.sIx_nat, Nat.min_eq_left (by omega), Nat.min_eq_left (by omega), show k + 3 - k = 3 by omega]
  apply List.ext_getElem?
  intro j
  rw [List.getElem?_take]
  unfold nat
  rcases j with _ | _ | _ | j
  · rw [if_pos (by omega), List.getElem?_drop, Int.toNat_natCast, List.getElem?_eq_getElem (by omega : k + 0 < ns.length)]
    simp [List.getElem?_eq_getElem (by omega : k < ns.length)]
  · rw [if_pos (by omega), List.getElem?_drop, List.getElem?_eq_getElem (by omega : k + (0 + 1) < ns.length)]
    simp [List.getElem?_eq_getElem (by omega : k + 1 < ns.length)]
  · rw [if_pos (by omega), List.getElem?_drop, List.getElem?_eq_getElem (by omega : k + (0 + 1 + 1) < ns.length)]
    rw [show (((k + 2 : Nat) : Int)).toNat = k + 2 by omega]
    simp [List.getElem?_eq_getElem (by omega : k + 2 < ns.length)]
  · rw [if_neg (by omega)]; rfl
/-! the middle one of three -/
def mid3 (a b c : Int) : Int := (srtI [a, b, c])[1]?.getD 0
theorem srt3 (a b c : Int) : ∃ x z, srtI [a, b, c] = [x, mid3 a b c, z] := by
  have h := (srtI_perm [a, b, c]).length_eq
  unfold mid3
  match e : srtI [a, b, c], h with
  | [x, y, z], _ => exact ⟨x, z, rfl⟩
/-- the number after a call -/
def midN (ns : List Int) (i : Int) : Int := if i = 0 ∨ i = (ns.length : Int) - 1 then nat ns i else mid3 (nat ns (i - 1)) (nat ns i) (nat ns (i + 1))
def callN (ns : List Int) (i : Int) : List Int := ns.set i.toNat (midN ns i)
theorem callN_len (ns : List Int) (i : Int) : (callN ns i).length = ns.length := List.length_set
theorem mid3_mem (a b c : Int) : mid3 a b c = a ∨ mid3 a b c = b ∨ mid3 a b c = c := by
  obtain ⟨x, z, e⟩ := srt3 a b c
  have : mid3 a b c ∈ [a, b, c] := (srtI_perm _).mem_iff.mp (by rw [e]; simp)
  simpa using this
theorem addT {xs ys : List D} (h : xs.length + ys.length ≤ 100000) : addU (.tuple xs) (.tuple ys) = some (.tuple (xs ++ ys)) := by
  have e : addD (.tuple xs) (.tuple ys) = some (.tuple (xs ++ ys)) := if_pos (size_of h)
  unfold addU
  rw [e]; rfl
theorem addLL {xs ys : List D} (h : xs.length + ys.length ≤ 100000) : addU (.list xs) (.list ys) = some (.list (xs ++ ys)) := by
  have e : addL (.list xs) (.list ys) = some (xs ++ ys) := if_pos (size_of h)
  unfold addU
  rw [e]; rfl
theorem sliceU_t {xs : List D} {lo hi : Option Int} : sliceU (.tuple xs) lo hi = some (.tuple (cutD xs lo hi)) := rfl
theorem sliceU_l {xs : List D} {lo hi : Option Int} : sliceU (.list xs) lo hi = some (.list (cutD xs lo hi)) := rfl
theorem repLk {xs : List D} {k : Nat} (hk : k ≤ 1000) (h : xs.length * k ≤ 100000) : mulV (.list xs) (.int (k : Int)) = some (.list (List.replicate k xs).flatten) := by
  have e : repL (.list xs) (.int (k : Int)) = some (List.replicate k xs).flatten := by
    unfold repL
    dsimp only
    rw [Int.toNat_natCast, if_pos ⟨by omega, by omega, size_of h⟩]
  have e2 : mulD (.list xs) (.int (k : Int)) = none := rfl
  unfold mulV mulU
  rw [e2, e]; rfl
theorem rep_2 {x : D} : mulV (.list [x]) (.int 2) = some (.list [x, x]) := repLk (k := 2) (by decide) (by show 1 * 2 ≤ 100000; decide)
theorem rep_3 {x : D} : mulV (.list [x]) (.int 3) = some (.list [x, x, x]) := repLk (k := 3) (by decide) (by show 1 * 3 ≤ 100000; decide)
theorem rep_4 {x : D} : mulV (.list [x]) (.int 4) = some (.list [x, x, x, x]) := repLk (k := 4) (by decide) (by show 1 * 4 ≤ 100000; decide)
end DL

/-! DMc: more general lemmas for the plain parts. -/
namespace DL
open PySem L2
/-- if not e: return False, and e is True, and on -/
theorem seq_skip {g : GE} {a b : GS} {ρ : Rho} {o : O} (h : g ρ = .ok (.bool true) ρ) (h2 : b ρ = o) : sSeq (sIf (tNotG (tstE g)) a sNext) b ρ = o := seq_nx (skip_not h) h2
theorem skip1 {g : GE} {a : GS} {ρ : Rho} (h : g ρ = .ok (.bool true) ρ) : sIf (tNotG (tstE g)) a sNext ρ = .nx ρ := skip_not h
theorem lc_nil {vs : List Nat} {k : GG} {t : GT} {e : GE} {ρ : Rho} : lcL vs k t e [] ρ = .ok [] ρ := rfl
theorem lc_cons {vs : List Nat} {k : GG} {t : GT} {e : GE} {ρ ρ1 ρ2 ρ3 ρ4 : Rho} {d y : D} {ds ys : List D} (h1 : k d ρ = some ρ1) (h2 : t ρ1 = .ok true ρ2) (h3 : e ρ2 = .ok y ρ3) (h4 : lcL vs k t e ds (wipeR ρ3 vs) = .ok ys ρ4) : lcL vs k t e (d :: ds) ρ = .ok (y :: ys) ρ4 := by
  show (match k d ρ with | none => R.bad | some ρ1 => (t ρ1).bind fun b ρ2 => if b then (e ρ2).bind fun y ρ3 => (lcL vs k t e ds (wipeR ρ3 vs)).map (y :: ·) else lcL vs k t e ds (wipeR ρ2 vs)) = _
  rw [h1]
  show (t ρ1).bind _ = _
  rw [h2, R.ok_bind, if_pos rfl, h3, R.ok_bind, h4]; rfl
theorem for_nil {k : GG} {b : GS} {ρ : Rho} : forL k b [] ρ = .nx ρ := rfl
theorem for_cons {k : GG} {b : GS} {ρ ρ1 ρ2 : Rho} {d : D} {ds : List D} {o : O} (h1 : k d ρ = some ρ1) (h2 : b ρ1 = .nx ρ2) (h3 : forL k b ds ρ2 = o) : forL k b (d :: ds) ρ = o := by
  show (match k d ρ with | none => O.bad | some ρ1 => match b ρ1 with | .nx ρ2 => forL k b ds ρ2 | .ct ρ2 => forL k b ds ρ2 | .bk ρ2 => .nx ρ2 | o => o) = _
  rw [h1]
  show (match b ρ1 with | .nx ρ2 => forL k b ds ρ2 | .ct ρ2 => forL k b ds ρ2 | .bk ρ2 => .nx ρ2 | o => o) = _
  rw [h2]; exact h3
/-- a loop whose body leaves the environment but the loop's name -/
theorem for_all {k : GG} {b : GS} {ds : List D} (I : Rho → Prop) (h : ∀ d ∈ ds, ∀ ρ, I ρ → ∃ ρ1, k d ρ = some ρ1 ∧ ∃ ρ2, b ρ1 = .nx ρ2 ∧ I ρ2) {ρ : Rho} (h0 : I ρ) : ∃ ρ', forL k b ds ρ = .nx ρ' ∧ I ρ' := by
  induction ds generalizing ρ with
  | nil => exact ⟨ρ, rfl, h0⟩
  | cons d ds ih =>
    obtain ⟨ρ1, e1, ρ2, e2, i2⟩ := h d List.mem_cons_self ρ h0
    obtain ⟨ρ', e3, i3⟩ := ih (fun x hx => h x (List.mem_cons_of_mem _ hx)) i2
    exact ⟨ρ', for_cons e1 e2 e3, i3⟩
end DL

/-! DMd: a, b, c, d = .., with new lists among them. -/
namespace DL
open PySem L2
inductive NwP (K : PySem.W.Frag) (B Z H : Hp) (σ : L2.St) (ρ : Rho) : List V → List Nw → List Addr → Prop
  | nil : NwP K B Z H σ ρ [] [] []
  | s {v : V} {vs : List V} {d : D} {ns : List Nw} {qs : List Addr} : Rp K Z v d → NwP K B Z H σ ρ vs ns qs → NwP K B Z H σ ρ (v :: vs) (.s d :: ns) qs
  | f {q : Addr} {ws vs : List V} {ds : List D} {ns : List Nw} {qs : List Addr} : Z q = none → B q = none → Apart σ ρ q → H q = some (.lst ws) → RpA K Z ws ds → q ∉ qs → NwP K B Z H σ ρ vs ns qs → NwP K B Z H σ ρ (.ref q :: vs) (.f ds :: ns) (q :: qs)
section
variable {K : PySem.W.Frag} {Wx : WX} {te : TE} {tas : TA} {b0 : Option Addr} {B Z0 Z H : Hp} {σ : L2.St} {ρ : Rho}
theorem NwP.len {vs : List V} {ns : List Nw} {qs : List Addr} (h : NwP K B Z H σ ρ vs ns qs) : vs.length = ns.length := by
  induction h with
  | nil => rfl
  | s _ _ ih => rw [List.length_cons, List.length_cons, ih]
  | f _ _ _ _ _ _ _ ih => rw [List.length_cons, List.length_cons, ih]
theorem NwP.none {vs : List V} {ns : List Nw} {qs : List Addr} (h : NwP K B Z H σ ρ vs ns qs) : ∀ q ∈ qs, B q = Option.none := by
  induction h with
  | nil => exact fun q hq => nomatch hq
  | s _ _ ih => exact ih
  | f _ hb _ _ _ _ _ ih =>
    intro q hq
    rcases List.mem_cons.mp hq with rfl | hq
    · exact hb
    · exact ih q hq
def DNP (K : PySem.W.Frag) (t : TA) (g : Rho → R (List Nw)) : Prop := ∀ b0 B Z0 Z H σ ρ ns ρ' (Q : List V → Hp → Prop), Ok K b0 B Z0 Z H σ ρ → g ρ = .ok ns ρ' →
  (∀ vs H' Z' qs, Ok K b0 B Z0 Z' H' σ ρ' → Same Z Z' → NwP K B Z' H' σ ρ' vs ns qs → Q vs H') → t σ H Q
theorem dnp_nil : DNP K tNil nlNil := fun b0 B Z0 Z H σ ρ ns ρ' Q ok e q => by
  cases e
  exact q [] H Z [] ok (Same.refl Z) .nil
theorem dnp_s {g : GE} {r : Rho → R (List Nw)} (h : DE K te g) (hr : DNP K tas r) : DNP K (tCons te tas) (nlCons (nS g) r) := fun b0 B Z0 Z H σ ρ ns ρ' Q ok e q => by
  obtain ⟨n, ρ1, e1, e2⟩ := R.bind_ok e
  obtain ⟨d, e3, rfl⟩ := R.map_ok e1
  obtain ⟨ms, e4, rfl⟩ := R.map_ok e2
  refine h b0 B Z0 Z H σ ρ d ρ1 _ ok e3 fun v H1 Z1 ok1 s1 r1 => ?_
  exact hr b0 B Z0 Z1 H1 σ ρ1 ms ρ' _ ok1 e4 fun vs H2 Z2 qs ok2 s2 r2 => q (v :: vs) H2 Z2 qs ok2 (s1.trans s2) (.s (r1.mono s2) r2)
theorem NwP.back {p : Addr} {o : HO} (bp : B p = Option.none) {vs : List V} {ns : List Nw} {qs : List Addr} (h : NwP K (upd B p o) Z H σ ρ vs ns qs) : NwP K B Z H σ ρ vs ns qs ∧ p ∉ qs := by
  induction h with
  | nil => exact ⟨.nil, fun z => nomatch z⟩
  | s r _ ih => exact ⟨.s r ih.1, ih.2⟩
  | @f q ws vs ds ns qs hz hb ha hh hr hn _ ih =>
    have ne : q ≠ p := fun z => by rw [z, upd_same] at hb; cases hb
    rw [upd_ne ne] at hb
    exact ⟨.f hz hb ha hh hr hn ih.1, fun z => (List.mem_cons.mp z).elim (fun y => ne y.symm) ih.2⟩
theorem dnp_f {g : GF} {r : Rho → R (List Nw)} (h : DF K te g) (hr : DNP K tas r) : DNP K (tCons te tas) (nlCons (nF g) r) := fun b0 B Z0 Z H σ ρ ns ρ' Q ok e q => by
  obtain ⟨n, ρ1, e1, e2⟩ := R.bind_ok e
  obtain ⟨ds, e3, rfl⟩ := R.map_ok e1
  obtain ⟨ms, e4, rfl⟩ := R.map_ok e2
  refine h b0 B Z0 Z H σ ρ ds ρ1 _ ok e3 fun q1 ws H1 Z1 ok1 s1 zq bq aq hq r1 => ?_
  refine hr b0 (upd B q1 (.lst ws)) Z0 Z1 H1 σ ρ1 ms ρ' _ (ok1.frame zq aq hq) e4 fun vs H2 Z2 qs ok2 s2 r2 => ?_
  obtain ⟨ok3, z3, a3, h3⟩ := ok2.unframe (ok1.zz.free zq) bq
  obtain ⟨r3, n3⟩ := NwP.back bq r2
  exact q (.ref q1 :: vs) H2 Z2 (q1 :: qs) ok3 (s1.trans s2) (.f z3 bq a3 h3 (r1.mono s2) n3 r3)
def setV : List Nat → List V → L2.St → L2.St
  | i :: is, v :: vs, σ => setV is vs (σ.set i (some v))
  | _, _, σ => σ
def setN : List Nat → List Nw → Rho → Rho
  | i :: is, n :: ns, ρ => setN is ns (ρ.set i n.sl)
  | _, _, ρ => ρ
theorem apart_set {i : Nat} {v : V} {n : Nw} {q : Addr} (h : Apart σ ρ q) (hv : ∀ ds, n = .f ds → v ≠ .ref q) : Apart (σ.set i (some v)) (ρ.set i n.sl) q := fun j es hj hq => by
  rcases set_get hj with ⟨ek, e⟩ | ⟨nk, e⟩
  · subst ek
    cases n with
    | s d => cases e
    | f ds =>
      rcases set_get hq with ⟨_, e2⟩ | ⟨n2, _⟩
      · exact hv ds rfl (Option.some.inj e2)
      · exact n2 rfl
  · rw [List.getElem?_set_ne nk] at hq
    exact h j es e hq
theorem NwP.set {i : Nat} {v : V} {n : Nw} {vs : List V} {ns : List Nw} {qs : List Addr} (hv : ∀ q ∈ qs, ∀ ds, n = .f ds → v ≠ .ref q) (h : NwP K B Z H σ ρ vs ns qs) : NwP K B Z H (σ.set i (some v)) (ρ.set i n.sl) vs ns qs := by
  induction h with
  | nil => exact .nil
  | s r _ ih => exact .s r (ih hv)
  | f hz hb ha hh hr hn _ ih => exact .f hz hb (apart_set ha (hv _ List.mem_cons_self)) hh hr hn (ih fun q hq => hv q (List.mem_cons_of_mem _ hq))
theorem Ok.setN : ∀ {is : List Nat} {vs : List V} {ns : List Nw} {qs : List Addr} {σ : L2.St} {ρ : Rho}, Ok K b0 B Z0 Z H σ ρ → NwP K B Z H σ ρ vs ns qs → (∀ i ∈ is, i ≠ 0) → is.length = ns.length → Ok K b0 B Z0 Z H (setV is vs σ) (setN is ns ρ)
  | [], _, _, _, _, _, ok, .nil, _, _ => ok
  | [], _, _, _, _, _, ok, .s _ _, _, h => nomatch h
  | [], _, _, _, _, _, ok, .f _ _ _ _ _ _ _, _, h => nomatch h
  | i :: is, _, _, _, _, _, ok, .nil, _, h => nomatch h
  | i :: is, _, _, _, _, _, ok, .s (v := v) (d := d) r h, hi, hl => by
    have ok1 := ok.put (i := i) r
    exact Ok.setN (is := is) ok1 (NwP.set (n := .s d) (fun _ _ _ z => nomatch z) h) (fun j hj => hi j (List.mem_cons_of_mem _ hj)) (by simpa using hl)
  | i :: is, _, _, _, _, _, ok, .f (q := q) (ds := ds) hz hb ha hh hr hn h, hi, hl => by
    have ok1 := ok.putO (i := i) hz hb ha hh hr fun _ _ z => absurd z (hi i List.mem_cons_self)
    exact Ok.setN (is := is) ok1 (NwP.set (n := .f ds) (fun q' hq' _ _ z => hn (by injection z with z; rw [z]; exact hq')) h) (fun j hj => hi j (List.mem_cons_of_mem _ hj)) (by simpa using hl)
def tgN : List Nat → TGs
  | [] => gNil
  | i :: is => gCons (gName i) (tgN is)
theorem tgN_run {H : Hp} {Q : L2.St → Hp → Prop} : ∀ {is : List Nat} {vs : List V} {σ : L2.St}, is.length = vs.length → Q (setV is vs σ) H → tgN is vs σ H Q
  | [], [], _, _, q => ⟨rfl, q⟩
  | [], _ :: _, _, h, _ => nomatch h
  | _ :: _, [], _, h, _ => nomatch h
  | i :: is, v :: vs, σ, h, q => ⟨v, vs, rfl, tgN_run (is := is) (vs := vs) (by simpa using h) q⟩
def sTupN (is : List Nat) (gn : Rho → R (List Nw)) (ρ : Rho) : O := (gn ρ).to fun ns ρ1 => if ns.length = is.length then .nx (setN is ns ρ1) else .bad
theorem ds_tupN {n : Nat} {is : List Nat} {gn : Rho → R (List Nw)} (h : DNP K tas gn) (hn : is.length = n := by rfl) (h0 : ∀ i ∈ is, i ≠ 0 := by decide) (hz : is.length ≤ sizeLine := by decide) : DS K Wx (tAsg (tTup tas) (gTup K n (tgN is))) (sTupN is gn) := fun b0 B Z0 Z H σ ρ E ok s => by
  subst hn
  obtain ⟨ns, ρ1, e1, s⟩ := Sat.to s
  split at s
  · rename_i hl
    refine h b0 B Z0 Z H σ ρ ns ρ1 _ ok e1 fun vs H1 Z1 qs ok1 s1 r1 => ?_
    have lv : vs.length = is.length := r1.len.trans hl
    refine ⟨by rw [lv]; exact hz, fun p hp => ⟨p, vs, rfl, .inl (.inl upd_same), lv, tgN_run lv.symm (s _ _ Z1 ?_)⟩⟩
    have nep : ∀ {q : Addr} {o : HO}, H1 q = some o → q ≠ p := fun hq z => by rw [z, hp] at hq; cases hq
    have r2 : NwP K B Z1 (upd H1 p (.tup vs)) σ ρ1 vs ns qs := by
      clear lv hl s e1
      generalize HO.tup vs = o
      induction r1 with
      | nil => exact .nil
      | s r _ ih => exact .s r ih
      | f hz hb ha hh hr hn _ ih => exact .f hz hb ha (by rw [upd_ne (nep hh)]; exact hh) hr hn ih
    exact Ok.setN (ok1.fresh hp).1 r2 h0 hl.symm
  · exact s.elim
end
/-! ### more for the plain parts -/
theorem for_ex {k : GG} {b : GS} {ρ ρ1 ρ2 : Rho} {d x : D} {c : Str} {ds : List D} (h1 : k d ρ = some ρ1) (h2 : b ρ1 = .ex c x ρ2) : forL k b (d :: ds) ρ = .ex c x ρ2 := by
  show (match k d ρ with | none => O.bad | some ρ1 => match b ρ1 with | .nx ρ2 => forL k b ds ρ2 | .ct ρ2 => forL k b ds ρ2 | .bk ρ2 => .nx ρ2 | o => o) = _
  rw [h1]
  show (match b ρ1 with | .nx ρ2 => forL k b ds ρ2 | .ct ρ2 => forL k b ds ρ2 | .bk ρ2 => .nx ρ2 | o => o) = _
  rw [h2]
theorem for_rt {k : GG} {b : GS} {ρ ρ1 ρ2 : Rho} {d x : D} {ds : List D} (h1 : k d ρ = some ρ1) (h2 : b ρ1 = .rt x ρ2) : forL k b (d :: ds) ρ = .rt x ρ2 := by
  show (match k d ρ with | none => O.bad | some ρ1 => match b ρ1 with | .nx ρ2 => forL k b ds ρ2 | .ct ρ2 => forL k b ds ρ2 | .bk ρ2 => .nx ρ2 | o => o) = _
  rw [h1]
  show (match b ρ1 with | .nx ρ2 => forL k b ds ρ2 | .ct ρ2 => forL k b ds ρ2 | .bk ρ2 => .nx ρ2 | o => o) = _
  rw [h2]
theorem sFor_to {gi : GF} {k : GG} {b : GS} {ρ ρ1 : Rho} {ds : List D} {o : O} (h : gi ρ = .ok ds ρ1) (h2 : forL k b ds ρ1 = o) : sFor gi k b ρ = o := by unfold sFor; rw [h]; exact h2
theorem sFor_ex {gi : GF} {k : GG} {b : GS} {ρ ρ1 ρ2 : Rho} {ds : List D} {c : Str} {x : D} (h : gi ρ = .ok ds ρ1) (h2 : forL k b ds ρ1 = .ex c x ρ2) : sFor gi k b ρ = .ex c x ρ2 := sFor_to h h2
theorem Sq.tup {r : D} {xs : List D} (h : Sq r xs) : tupleD [r] = some (.tuple xs) := by rcases h with rfl | rfl <;> rfl
theorem Sq.lst {r : D} {xs : List D} (h : Sq r xs) : listD [r] = some xs := by rcases h with rfl | rfl <;> rfl
theorem Sq.items {r : D} {xs : List D} (h : Sq r xs) : itemsD r = some xs := by rcases h with rfl | rfl <;> rfl
/-- the row after calls -/
def runN (ns : List Int) (tape : List Int) : List Int := tape.foldl callN ns
theorem runN_len : ∀ (tape ns : List Int), (runN ns tape).length = ns.length
  | [], _ => rfl
  | i :: tape, ns => (runN_len tape (callN ns i)).trans (callN_len ns i)
/-- the places of the idle calls, from k on -/
def idleL (ns : List Int) (k : Nat) : List Int → List Int
  | [] => []
  | i :: tape => (if callN ns i = ns then [(k : Int)] else []) ++ idleL (callN ns i) (k + 1) tape
theorem idleL_len : ∀ (tape ns : List Int) (k : Nat), (idleL ns k tape).length ≤ tape.length
  | [], _, _ => Nat.le_refl 0
  | i :: tape, ns, k => by
    unfold idleL
    have := idleL_len tape (callN ns i) (k + 1)
    rw [List.length_append, List.length_cons]
    split <;> simp <;> omega
theorem callN_iff {ns : List Int} {i : Int} (h0 : 0 ≤ i) (h1 : i < ns.length) : callN ns i = ns ↔ midN ns i = nat ns i := by
  unfold callN
  have hk : i.toNat < ns.length := by omega
  constructor
  · intro h
    have : (ns.set i.toNat (midN ns i))[i.toNat]? = ns[i.toNat]? := by rw [h]
    rw [List.getElem?_set_self hk] at this
    unfold nat
    rw [← this]; rfl
  · intro h
    rw [h]
    unfold nat
    rw [List.getElem?_eq_getElem hk]
    exact List.set_getElem_self hk
theorem heardT_ok {h : Nat} {gn : Rho → R (List Nw)} {Fs : List D → Option D} {gd : GE} {js : List Nat} {m : Rho → Option Rho} {rest : GS} {ρ ρ1 ρ2 ρ3 : Rho} {ns : List Nw} {due : D} {o : O} (h1 : gn ρ = .ok ns ρ1) (h2 : ns.length ≤ sizeLine) (h3 : h < ρ1.length) (h4 : js.length ≤ sizeLine) (h5 : gd (ρ1.set h .no) = .ok due ρ2)
    (h6 : Fs [.list (ns.map Nw.dat), due] = some (.bool true)) (h7 : ∀ j ∈ js, ∃ T, ns[j]? = some (.f T) ∧ T.length + js.length ≤ sizeLine) (h8 : m (ρ2.set h .no) = some ρ3) (h9 : rest ρ3 = o) : sHeardT h gn Fs gd js m rest ρ = o := by
  have h7 : js.all (fun j => isF js.length ns[j]?) = true := List.all_eq_true.mpr fun j hj => by
    obtain ⟨T, e, z⟩ := h7 j hj
    rw [e]
    exact decide_eq_true z
  unfold sHeardT
  rw [h1]
  show (if ns.length ≤ sizeLine ∧ h < ρ1.length ∧ js.length ≤ sizeLine then (gd (ρ1.set h .no)).to _ else .bad) = _
  rw [if_pos ⟨h2, h3, h4⟩, h5]
  show (match Fs [.list (ns.map Nw.dat), due] with
    | some (.bool true) => if js.all (fun j => isF js.length ns[j]?) then (match m (ρ2.set h .no) with | some ρ3 => rest ρ3 | none => .bad) else .bad
    | some (.bool false) => .rt (.bool false) (ρ2.set h .no)
    | _ => .bad) = _
  rw [h6]
  show (if js.all (fun j => isF js.length ns[j]?) = true then (match m (ρ2.set h .no) with | some ρ3 => rest ρ3 | none => .bad) else .bad) = _
  rw [if_pos h7, h8]
  exact h9
end DL

/-! DMe: [f, g, ..][i](..); tests that may raise. -/
namespace DL
open PySem PySem.Spec PyProof.Rows L2
section
variable {X : Cx} {K : PySem.W.Frag} {Wx : WX} {ta tb te ti : TE} {tt : TT} {tas : TA} {t u : TS} {P : Program} {w : World} {mg : Str → Option Value} {base : Heap} {k : Nat} {f : Addr} {fd : FuncData} {ps : List Str}
/-! ### one promise for all kinds -/
def RX.mapL (F : List D → RX (List D)) (ds : List D) : RX D := match F ds with
  | .ok es => .ok (.list es)
  | .ex c d => .ex c d
  | .bad => .bad
def RX.ofO (F : List D → Option D) (ds : List D) : RX D := match F ds with
  | some d => .ok d
  | none => .bad
theorem spX_XF {np : Nat} {F : List D → RX (List D)} {vs : List V} {H : Hp} {Q : VK} {E : XK} (h : spX K np (RX.mapL F) vs H Q E) : spXF K np F vs H Q E := by
  obtain ⟨hl, Z, ds, s, r, q⟩ := h
  refine ⟨hl, Z, ds, s, r, ?_⟩
  unfold RX.mapL at q
  cases e : F ds with
  | ok es =>
    rw [e] at q
    intro p ws H' Z' hh g hp zp hp' ra
    have sz : Same Z' (upd Z' p (.lst ws)) := fun b x eb => by rw [upd_ne (ne_of_none eb zp)]; exact eb
    refine q (.ref p) H' (upd Z' p (.lst ws)) hh ⟨g.1.trans sz, fun b x eb => ?_, fun b x eb => ?_⟩ (.lst upd_same (ra.mono sz))
    · by_cases hb : b = p
      · subst hb; rw [upd_same] at eb; rw [← eb]; exact hp'
      · rw [upd_ne hb] at eb; exact g.2.1 b x eb
    · by_cases hb : b = p
      · subst hb; exact .inr hp
      · rw [upd_ne hb] at eb; exact g.2.2 b x eb
  | ex c d => rw [e] at q; exact q
  | bad => rw [e] at q; exact q
theorem spX_P {np : Nat} {F : List D → Option D} {vs : List V} {H : Hp} {Q : VK} {E : XK} (h : spX K np (RX.ofO F) vs H Q E) : spP K np F vs H Q E := by
  obtain ⟨hl, Z, ds, s, r, q⟩ := h
  unfold RX.ofO at q
  cases e : F ds with
  | some d => rw [e] at q; exact ⟨hl, Z, ds, d, s, r, e, q⟩
  | none => rw [e] at q; exact q.elim
theorem fn_XF {np : Nat} {F : List D → RX (List D)} (h : FnOk P w K mg base (L2.CX P w) k f fd ps (spXF K np F)) : FnOk P w K mg base (L2.CX P w) k f fd ps (spX K np (RX.mapL F)) := h.imp fun _ _ _ _ z => spX_XF z
theorem fn_P {np : Nat} {F : List D → Option D} (h : FnOk P w K mg base CX0 k f fd ps (spP K np F)) : FnOk P w K mg base (L2.CX P w) k f fd ps (spX K np (RX.ofO F)) :=
  ⟨fun vs H Q E q => h.len vs H Q E (spX_P q), fun A outer s H args us vs Q E hr he hb hv hs => codeAny_mono (h.run A outer s H args us vs Q E hr he hb hv (spX_P hs)) fun r s' hq => by
    cases r with
    | error e => exact hq.elim
    | ok fl => cases fl <;> exact hq⟩
structure HeldX (P : Program) (w : World) (K : PySem.W.Frag) (mg : Str → Option Value) (base : Heap) (k : Nat) (f : Addr) (sp : Sp) : Prop where
  ex : ∃ (fd : FuncData) (ps : List Str), FnOk P w K mg base (L2.CX P w) k f fd ps sp ∧ PySem.W.keepIn K (.ref f) = true ∧ Binds K fd ps []
/-! ### the call of a value -/
def tCallF (R : Addr → Sp → Prop) (E : L2.St → XK) (tf : TE) (t : TA) : TE := fun σ H Q => tf σ H fun v H1 => ∃ f sp, v = .ref f ∧ R f sp ∧ t σ H1 fun vs H2 => sp vs H2 Q (E σ)
theorem pe_callF {R : Addr → Sp → Prop} {E : L2.St → XK} {tf : TE} {fe e : Expr} {es : List Expr} {pos : Pos} (A : ∀ f sp, R f sp → HeldX X.prog X.w X.K X.mg X.base k f sp) (hr : Room k X.A) (hx : ∀ σ, PassesAt (L2.CX X.prog X.w) X σ (E σ)) (hf : PE X fe tf) (ha : PA X (e :: es) tas)
    (hc : eval (.Call fe (e :: es) [] pos) X.env = (do callWith pos (← eval fe X.env) [] (backTo pos (starEach (e :: es) X.env)) (backToKw pos (keywordEach [] X.env))) := by rfl)
    (he : starEach (e :: es) X.env = (false, eval e X.env) :: starEach es X.env := by rfl) (hpl : (backTo pos (starEach es X.env)).any (·.1) = false := by rfl) : PE X (.Call fe (e :: es) [] pos) (tCallF R E tf tas) := by
  refine ⟨fun pins s σ H Q I h => ?_⟩
  rw [hc]
  refine wpAny_bind (thn (hf.run pins s σ H _ I h) fun u s1 hh => ?_)
  obtain ⟨v, H1, I1, r1, f, sp, rfl, hR, ht⟩ := hh
  obtain rfl : u = Value.ref f := r1
  obtain ⟨fd, ps, F, hk, hb⟩ := (A f sp hR).ex
  refine PySem.W.callWith_K (h₀ := X.base) I1.ok.mod.kin hk (thn (ha.run pos pins s1 σ H1 _ I1 ht) fun us s2 hh => ?_) he hpl
  obtain ⟨vs, H2, I2, r, q⟩ := hh
  exact ⟨I2.kIn, run_fnS F hr hb (hx σ) I2 r q⟩
/-- the defs of a written list -/
inductive FnL (K : PySem.W.Frag) (np : Nat) : List V → List (List D → RX D) → (Addr → Sp → Prop) → Prop
  | mk {fs : List V} {Fs : List (List D → RX D)} {R : Addr → Sp → Prop} (h : ∀ (j : Nat) (F : List D → RX D), Fs[j]? = some F → ∃ a, fs[j]? = some (.ref a) ∧ R a (spX K np F)) (hl : fs.length = Fs.length) : FnL K np fs Fs R
def eCallIx (Fs : List (List D → RX D)) (gi : GE) (ga : GA) (ρ : Rho) : R D := match gi ρ with
  | .ok (.int i) ρ1 => (match ixN Fs.length i with
    | some j => (match Fs[j]? with
      | some F => eCallX F ga ρ1
      | none => .bad)
    | none => .bad)
  | _ => .bad
theorem xd_callIx {np : Nat} {fs : List V} {Fs : List (List D → RX D)} {R : Addr → Sp → Prop} {gi : GE} {ga : GA} (fl : FnL K np fs Fs R) (hz : Fs.length ≤ sizeLine) (hF : ∀ F ∈ Fs, ∀ ds, F ds ≠ .bad → ds.length = np) (hi : DE K ti gi) (ha : DA K tas ga) :
    XD K Wx (tCallF R (WE Wx) (tOp (rIx K) (tLst (tVs fs)) ti) tas) (eCallIx Fs gi ga) := fun b0 B Z0 Z H σ ρ Q ok s => by
  obtain ⟨h, hl⟩ := fl
  unfold eCallIx at s
  split at s
  case h_2 => exact s.elim
  rename_i i ρ1 e1
  split at s
  case h_2 => exact s.elim
  rename_i j hj
  split at s
  case h_2 => exact s.elim
  rename_i F hF1
  rw [← DL.R.map_id (eCallX F ga ρ1)] at s
  obtain ⟨os, ds, ρ2, e2, hv, s⟩ := satE_call s
  rw [DL.R.map_id] at s
  refine tVs_run (Q := fun xs H2 => xs.length ≤ sizeLine ∧ ∀ p, H2 p = none → _) fs ⟨by rw [hl]; exact hz, fun p hp => ?_⟩
  obtain ⟨okf, zp, bp, ap⟩ := ok.fresh (o := .lst fs) hp
  have okw := okf.frame zp ap upd_same
  have z0 : Z0 p = none := ok.zz.free zp
  refine hi b0 _ Z0 Z _ σ ρ (.int i) ρ1 _ okw e1 fun v H1 Z1 ok1 s1 r1 => ?_
  cases r1
  obtain ⟨a, ea, hR⟩ := h j F hF1
  have hp1 : H1 p = some (.lst fs) := ok1.bh p _ upd_same
  obtain ⟨ok2, _, _, _⟩ := ok1.unframe z0 bp
  refine .inl ⟨p, fs, i, .ref a, rfl, rfl, .inl (.inl hp1), ?_, a, _, rfl, hR, ?_⟩
  · show (ixN fs.length i).bind (fs[·]?) = _
    rw [hl, hj]; exact ea
  · refine ha b0 B Z0 Z1 H1 σ ρ1 os ρ2 _ ok2 e2 fun vs H2 Z2 ok3 s3 r3 => ?_
    exact callX_run (H := H1) (hF F (List.mem_of_getElem? hF1)) ok3 (s1.trans s3) (valA_ok r3 hv) s
/-! ### a test that may raise -/
def xOpL (f : D → D → Option D) (g : GE) (b : GE) (ρ : Rho) : R D := (g ρ).bind fun d ρ1 => match b ρ1 with
  | .ok e ρ2 => R.lift (f d e) ρ2
  | _ => .bad
theorem xd_opL {r : R2} {f : D → D → Option D} {g b : GE} (sn : Sn2 K r f) (h : XD K Wx ta g) (hb : DE K tb b) : XD K Wx (tOp r ta tb) (xOpL f g b) := fun b0 B Z0 Z H σ ρ Q ok s => by
  refine h b0 B Z0 Z H σ ρ _ ok ?_
  unfold xOpL at s
  cases e : g ρ with
  | ok d ρ1 =>
    rw [e, R.ok_bind] at s
    intro v H1 Z1 ok1 s1 r1
    split at s
    · rename_i e' ρ2 e2
      refine hb b0 B Z0 Z1 H1 σ ρ1 e' ρ2 _ ok1 e2 fun v2 H2 Z2 ok2 s2 r2 => ?_
      cases e3 : f d e' with
      | none => rw [e3] at s; exact s.elim
      | some c =>
        rw [e3] at s
        exact sn b0 B Z0 Z2 H2 σ ρ2 v v2 d e' c Q ok2 ((r1.mono s2).bd ok2.zh) (r2.bd ok2.zh) e3 fun w H3 Z3 ok3 s3 r3 => s w H3 Z3 ok3 ((s1.trans s2).trans s3) r3
    · exact s.elim
  | ex c d ρ1 => rw [e] at s; exact s
  | bad => rw [e] at s; exact s
def sIfX (g : GE) (a b : GS) (ρ : Rho) : O := (g ρ).toX fun d ρ1 => match d with
  | .bool true => a ρ1
  | .bool false => b ρ1
  | _ => .bad
theorem ds_ifX {g : GE} {a b : GS} (h : XD K Wx te g) (ha : DS K Wx t a) (hb : DS K Wx u b) : DS K Wx (tIfS (tTest te) t u) (sIfX g a b) := fun b0 B Z0 Z H σ ρ E ok s => by
  refine h b0 B Z0 Z H σ ρ _ ok (Sat.toX s ok fun d ρ' _ s v H' Z' ok' r => ?_)
  split at s
  · cases r; exact ⟨true, rfl, ha b0 B Z0 Z' H' σ ρ' E ok' s⟩
  · cases r; exact ⟨false, rfl, hb b0 B Z0 Z' H' σ ρ' E ok' s⟩
  · exact s.elim
end
theorem mapL_len {F : List D → RX (List D)} {np : Nat} (h : ∀ ds, F ds ≠ .bad → ds.length = np) (ds : List D) (hb : RX.mapL F ds ≠ .bad) : ds.length = np := h ds fun e => hb (by unfold RX.mapL; rw [e])
theorem ofO_len {F : List D → Option D} {np : Nat} (h : ∀ ds d, F ds = some d → ds.length = np) (ds : List D) (hb : RX.ofO F ds ≠ .bad) : ds.length = np := by
  unfold RX.ofO at hb
  cases e : F ds with
  | some d => exact h ds d e
  | none => rw [e] at hb; exact absurd rfl hb
end DL

/-! DMf: own exception classes made by keyword. -/
namespace DLX
open PySem PySem.W PySem.Calls PyProof.Rows PySem.HandSPX
open Builtin Builtin.ObjectAttr
section
variable {M : Model} {A : Around} {E : Value → Shared → Prop} {h : Heap} {g : Array GenState} {d : Drawn} {t : Nat} {os : OsState}
variable {nm q : Str} {C N : Addr} {bs bm bmB : List Value} {hdct : Bool} {sn : List Str} {sub : List Value} {ab : Bool} {col : Option Bool} {dd : Option Addr} {k0 k1 k2 k3 k5 : Option Value} {B newId initId : String}
theorem check_new_kw (F : ExcBaseFacts B newId initId bmB) {f : Str} {u : Value} {Q : Unit → Shared → Prop}
    (hC : h.get? C = some (excClassObj nm q C N bs bmB hdct sn sub ab col dd k0 k1 k2 k3 k5 newId)) (hq : Q () ⟨h, g, d, t, os⟩) : wpAny M A (checkBuiltinCall newId ⟨[.ref C], [(f, u)]⟩) Q E ⟨h, g, d, t, os⟩ := by
  have hcont : (Value.ref C :: bmB).contains (.type B) = true := by rw [List.contains_cons, F.hasB, Bool.or_true]
  have hstar := F.noStar
  simp only [checkBuiltinCall, F.newKind, F.newSplit, F.newRow]
  repeat (first | refine wpAny_loadPart_at hC ?_ | (refine wpAny_isSubtype_exc hC ?_; rw [hcont]) | refine wpAny_staticBase_exc hC ?_ | refine wpAny_madeBy_exc hC ?_ | simp only [bne_self_eq_false, Bool.false_eq_true, if_false] | wp_step)
  exact hq
end
section
variable {prog : Program} {w : World} {A : Around} {E : Value → Shared → Prop} {R : Result → Shared → Prop} {h : Heap} {g : Array GenState} {d : Drawn} {t : Nat} {os : OsState}
variable {nm q : Str} {C N : Addr} {bs bmB : List Value} {hdct : Bool} {sn : List Str} {sub : List Value} {ab : Bool} {col : Option Bool} {dd : Option Addr} {k0 k1 k2 k3 k5 : Option Value} {B newId initId : String}
theorem new_kw (F : ExcBaseFacts B newId initId bmB) {f : Str} {u : Value}
    (hC : h.get? C = some (excClassObj nm q C N bs bmB hdct sn sub ab col dd k0 k1 k2 k3 k5 newId))
    (hq : R (.ok (.ret (.ref (h.objs.size + 1)))) ⟨(h.push { cls := .type "tuple", data := .seq #[] }).push
      { cls := .ref C, data := .fields #[.ref h.objs.size, .none, .none, .none, .bool false, .none] }, g, d, t, os⟩) :
    codeAny (model prog w) A (.builtin newId ⟨[.ref C], [(f, u)]⟩) R ⟨h, g, d, t, os⟩ := by
  have hends := F.ends
  have hcB : (Value.ref C :: bmB).contains (.type B) = true := by rw [List.contains_cons, F.hasB, Bool.or_true]
  have hcA : (Value.ref C :: bmB).contains (.type "AttributeError") = false := by rw [List.contains_cons, F.noAttr]; rfl
  have hcN : (Value.ref C :: bmB).contains (.type "NameError") = false := by rw [List.contains_cons, F.noName]; rfl
  refine codeAny_builtinAt F.entry ?_
  unfold Builtin.«BaseException.__new__»
  refine PySem.wpAt_bind ?_
  show PySem.wpAt _ _ _ (stack >>= _) _ _ _
  refine PySem.wpAt_bind (PySem.wpAt_stack fun p below => PySem.wpAt_of_wpAny ?_)
  wp_walk
  refine PySem.wpAt_of_wpAny ?_
  rw [F.owner]
  repeat (first | with_reducible refine wpAny_madeHere_exc F.canon hC ?_ | with_reducible refine wpAny_loadPart_at hC ?_ | (with_reducible refine wpAny_isSubtype_exc hC ?_; first | rw [hcB] | rw [hcA] | rw [hcN]) | wp_step)
  show R _ _
  rw [Heap.size_push]
  exact hq
theorem type_call_kw (F : ExcBaseFacts B newId initId bmB) {f : Str} {u : Value} {fI : Addr} {Q : Fin → Shared → Prop}
    (hC : h.get? C = some (excClassObj nm q C N bs bmB hdct sn sub ab col dd k0 k1 k2 k3 k5 newId))
    (hi : W.Looks (model prog w) h (typeLookup (.ref C) "__init__") (some (.ref fI))) (hb : ∀ self, W.Looks (model prog w) h (bindSpecial (.ref fI) self) (.ref fI, [self]))
    (hq : codeAny (model prog w) A (.call (.ref fI) ⟨[.ref (h.objs.size + 1)], [(f, u)]⟩)
      (fun r s' => match r with | .ok (.ret v) => v = .none ∧ Q (.done (.ret (.ref (h.objs.size + 1)))) s' | .ok _ => False | .error e => E e s')
      ⟨(h.push (W.kdv_tup [])).push (excO C h.objs.size), g, d, t, os⟩) :
    wpAny (model prog w) A (Builtin.«type.__call__» ⟨[.ref C], [(f, u)]⟩) Q E ⟨h, g, d, t, os⟩ := by
  repeat (first | with_reducible refine wpAny_loadPart_at hC ?_ | with_reducible refine wpAny_madeBy_exc hC ?_ | wp_step)
  refine codeAny_call_builtin_code (Code.quiet_builtin _ F.quiet) (check_new_kw F hC ?_)
  refine new_kw F hC ?_
  show wpAny _ _ _ _ _ _
  have k : ∀ b o, h.get? b = some o → ((h.push (W.kdv_tup [])).push (excO C h.objs.size)).get? b = some o := fun b o e => Heap.get?_push_of_some _ (Heap.get?_push_of_some _ e)
  have hC₁ := k _ _ hC
  have hget : ((h.push (W.kdv_tup [])).push (excO C h.objs.size)).get? (h.objs.size + 1) = some (excO C h.objs.size) := by heap_get
  have hcC : (Value.ref C :: bmB).contains (.ref C) = true := by simp
  have i1 := hi.keeps k
  have b1 := (hb (.ref (h.objs.size + 1))).keeps k
  unfold isInstance
  repeat (first | with_reducible refine wpAny_loadPart_at hget ?_ | (with_reducible refine wpAny_isSubtype_exc hC₁ ?_; rw [hcC]) | wp_step)
  show wpAny _ _ (typeLookup (.ref C) _) _ _ _
  refine i1.at ?_
  refine wpAny_holding (wpAny_bind (b1.at ?_))
  refine wpAny_bind (wpAny_call (codeAny_mono hq fun r s' z => ?_))
  rcases r with e | (v | _ | _ | _) <;> first | exact z | exact z.elim | skip
  obtain ⟨rfl, z⟩ := z
  first
    | exact wpAny_pure (wpAny_pure z)
    | (wp_walk; exact z)
theorem check_tc_kw {M : Model} {f : Str} {u : Value} {Q : Unit → Shared → Prop} (hC : h.get? C = some (excClassObj nm q C N bs bmB hdct sn sub ab col dd k0 k1 k2 k3 k5 newId))
    (hq : Q () ⟨h, g, d, t, os⟩) : wpAny M A (checkBuiltinCall "type.__call__" ⟨[.ref C], [(f, u)]⟩) Q E ⟨h, g, d, t, os⟩ := by
  have f3 := tc_sub
  have hT : (⟨h, g, d, t, os⟩ : Shared).TypeIs (.ref C) "type" := ⟨_, hC, rfl⟩
  simp only [checkBuiltinCall, tc_kind, tc_split]
  repeat (any_goals (first | assumption | with_reducible refine wpAny_loadPart_at hC ?_ | with_reducible refine wpAny_onRaise ?_ | with_reducible refine wpAny_map ?_ | wp_step))
theorem call_kw (F : ExcBaseFacts B newId initId bmB) {f : Str} {u : Value} {fI : Addr}
    (hC : h.get? C = some (excClassObj nm q C N bs bmB hdct sn sub ab col dd k0 k1 k2 k3 k5 newId))
    (hi : W.Looks (model prog w) h (typeLookup (.ref C) "__init__") (some (.ref fI))) (hb : ∀ self, W.Looks (model prog w) h (bindSpecial (.ref fI) self) (.ref fI, [self]))
    (hq : codeAny (model prog w) (A.under (.builtin "type.__call__" ⟨[.ref C], [(f, u)]⟩)) (.call (.ref fI) ⟨[.ref (h.objs.size + 1)], [(f, u)]⟩) (W.InitBack (h.objs.size + 1) R)
      ⟨(h.push (W.kdv_tup [])).push (excO C h.objs.size), g, d, t, os⟩) :
    codeAny (model prog w) A (.call (.ref C) ⟨[], [(f, u)]⟩) R ⟨h, g, d, t, os⟩ := by
  have f1 := tc_lookup
  have f2 := tc_bind (.ref C)
  have hTy : (⟨h, g, d, t, os⟩ : Shared).TypeIs (.ref C) "type" := ⟨_, hC, rfl⟩
  refine codeAny_of_tree ?_
  show wpAny _ _ (callAny (.ref C) _) _ _ _
  repeat (any_goals (first | assumption | with_reducible refine wpAny_loadPart_at hC ?_ | wp_step))
  refine ⟨rfl, ?_⟩
  refine codeAny_call_builtin_at (Code.quiet_builtin _ (by decide +kernel)) entry_typeCall (check_tc_kw hC (type_call_kw F hC hi hb ?_))
  refine codeAny_mono hq fun r s' z => ?_
  rcases r with e | (v | _ | _ | _) <;> exact z
end
end DLX
namespace DL
open PySem PySem.Spec PyProof.Rows L2 DLX
/-- the keyword of an __init__ -/
def KwI (K : PySem.W.Frag) (fd : FuncData) (f : Str) : Prop := ∀ (s : Shared) (a u : Value), K.In s.heap → BindsTo s fd ⟨[a], [(f, u)]⟩ ((["self", f] : List Str).zip [a, u])
structure OxK (P : Program) (w : World) (K : PySem.W.Frag) (mg : Str → Option Value) (base : Heap) (nw : String) (tl : List Value) (C : Addr) (f : Str) : Prop where
  c : OxC K nw tl C
  no : PySem.W.findIn K (.ref C) f = some none
  i : ∃ (fI : Addr) (fd : FuncData), PySem.W.findIn K (.ref C) "__init__" = some (some (.ref fI)) ∧ PySem.W.typeIn K (.ref fI) = some (.type "function") ∧ FnOk P w K mg base CX0 1 fI fd ["self", f] (spIni K nw tl f) ∧ KwI K fd f
section
variable {X : Cx} {ta : TA} {f x : Str} {p pos : Pos} {C : Addr} {B nw ini : String} {tl : List Value}
theorem ox_callK {pins : List (Addr × Obj)} {σ : L2.St} {H1 : Hp} {s1 : Shared} {v : V} {u : Value} {Q : Value → Shared → Prop} {EE : Value → Shared → Prop} (bs : Bs B nw ini tl) (T : OxK X.prog X.w X.K X.mg X.base nw tl C f) (hr : Room 2 X.A) (I1 : Inv X pins σ H1 s1) (r : RelV v u)
    (h : ∀ (a d : Addr) (k2 : Heap) (H2 : Hp) (s2 : Shared), s1.heap.objs.size ≤ a → (∀ b o, s1.heap.get? b = some o → k2.get? b = some o) → H1 a = none → H1 d = none → d ≠ a → H2 = upd (upd (upd H1 a (exo a C none)) d (exd d [(f, v)])) a (exo a C (some d)) →
      Un (frs X.stack) [] (upd H1 a (exo a C none)) H2 k2 s2.heap → HOk X.prog X.w H2 s2.heap → s2.os = s1.os → AllBare s2.gens → Inv X pins σ H2 s2 → Q (.ref a) s2) :
    wpAny (model X.prog X.w) X.A (call (.ref C) [] [(f, u)]) Q EE s1 := by
  obtain ⟨nm, q, N, bss, sn, sub, ab, col, dd, k0, k1, k2, k3, k5, hC⟩ := T.c.cls
  obtain ⟨fI, fd, iC, tI, F1, hb⟩ := T.i
  obtain ⟨hp, g, dr, tk, os⟩ := s1
  have up1 : hp.objs.size ≤ hp.objs.size + 1 := Nat.le_succ _
  have fr1 : H1 (hp.objs.size + 1) = none := I1.hok.fresh up1
  have kk : ∀ b o, hp.get? b = some o → ((hp.push (PySem.W.kdv_tup [])).push (PySem.HandSPX.excO C hp.objs.size)).get? b = some o := fun b o e => Heap.get?_push_of_some _ (Heap.get?_push_of_some _ e)
  have hget : ((hp.push (PySem.W.kdv_tup [])).push (PySem.HandSPX.excO C hp.objs.size)).get? (hp.objs.size + 1) = some (PySem.HandSPX.excO C hp.objs.size) := by heap_get
  have I2 : Inv X pins σ (upd H1 (hp.objs.size + 1) (exo (hp.objs.size + 1) C none)) ⟨(hp.push (PySem.W.kdv_tup [])).push (PySem.HandSPX.excO C hp.objs.size), g, dr, tk, os⟩ := I1.laid (t' := tk) kk up1 (exo_ok hget)
  have r2 : Vals [V.ref (hp.objs.size + 1), v] [Value.ref (hp.objs.size + 1), u] := .cons rfl (.cons r .nil)
  refine wpAny_call (DLX.call_kw bs.f (I1.kIn _ _ hC) (PySem.W.looks_findIn I1.kIn iC) (fun self => PySem.W.bind_fn I1.kIn self tI)
    (codeAny_mono (F1.run _ X.stack _ (upd H1 (hp.objs.size + 1) (exo (hp.objs.size + 1) C none)) ⟨[.ref (hp.objs.size + 1)], [(f, u)]⟩ [.ref (hp.objs.size + 1), u] [.ref (hp.objs.size + 1), v]
      (fun v' H2 => v' = .non ∧ ∃ d, H1 d = none ∧ d ≠ hp.objs.size + 1 ∧ H2 = upd (upd (upd H1 (hp.objs.size + 1) (exo (hp.objs.size + 1) C none)) d (exd d [(f, v)])) (hp.objs.size + 1) (exo (hp.objs.size + 1) C (some d))) (fun _ _ _ => False)
      (hr.make C [] [(f, u)]) (I2.env0.make C [] [(f, u)]) (hb _ (.ref (hp.objs.size + 1)) u I2.kIn) r2 ?_) fun r s' hq' => ?_))
  · refine ⟨_, C, v, rfl, T.c, T.no, upd_same, fun dx hdx hne => ⟨rfl, dx, ?_, hne, rfl⟩⟩
    rw [upd_ne hne] at hdx; exact hdx
  · cases r with
    | error er => exact hq'.elim
    | ok fl =>
      cases fl with
      | ret u' =>
        have J := I2.after hq'
        obtain ⟨v', H2, J2, _, _⟩ := J
        obtain ⟨v2, H3, os2, bare2, un2, hok2, rv, ev, d, hd, dne, eH⟩ := hq'
        subst ev
        refine ⟨rv, h _ d _ H3 s' up1 kk fr1 hd dne eH un2 hok2 os2 bare2 ?_⟩
        have K2 := I2.after (Q := fun v' H2 => v' = .non ∧ H2 = H3) ⟨.non, H3, os2, bare2, un2, hok2, rv, rfl, rfl⟩
        obtain ⟨_, _, J3, _, _, e3⟩ := K2
        rw [← e3]; exact J3
      | next => exact hq'.elim
      | brk => exact hq'.elim
      | cont => exact hq'.elim
theorem pe_oxK {kws : List Keyword} (bs : Bs B nw ini tl) (T : OxK X.prog X.w X.K X.mg X.base nw tl C f) (hr : Room 2 X.A) (hg : Gl X x) (hm : X.mg x = some (.ref C)) (ha : PK X kws ta) (hdb : (x == ("__debug__" : Str)) = false := by decide)
    (c1 : (backToKw pos (keywordEach kws X.env)).all (·.1.isSome) = true := by rfl) (c2 : (backToKw pos (keywordEach kws X.env)).filterMap (·.1) = [f] := by rfl)
    (c4 : ((backTo pos (starEach [] X.env)).any (·.1) || (backToKw pos (keywordEach kws X.env)).any (·.1.isNone)) = false := by rfl) : PE X (.Call (.Name x p) [] kws pos) (tMkV C f ta) := by
  refine ⟨fun pins s σ H Q I h => wpAny_Call_Name_kw (ld_glob I hg hm (PySem.W.callWith_KW0 (h₀ := X.base) I.ok.mod.kin T.c.kp c1 ?_ c4) hdb)⟩
  refine thn (ha.run pos pins s σ H _ I h) fun us s1 hh => ?_
  obtain ⟨vs, H1, I1, r1, v, rfl, q1⟩ := hh
  refine ⟨I1.kIn, ?_⟩
  rw [c2]
  cases r1 with
  | cons rv rn =>
    cases rn
    refine ox_callK bs T hr I1 rv fun a d k2 H2 s2 ha1 kk na nd ne eH un2 hok2 os2 bare2 J => ?_
    have ea : H2 a = some (exo a C (some d)) := by rw [eH]; exact upd_same
    have ed : H2 d = some (exd d [(f, v)]) := by rw [eH, upd_ne ne]; exact upd_same
    obtain ⟨t1, ho⟩ := exo_at hok2 ea
    obtain ⟨mA, hn, rel⟩ := exd_at hok2 ed
    obtain ⟨h2, g2, d2, t2, os2'⟩ := s2
    have J1 := J.write (t' := t2) (h' := h2) (x := a) (e := a) (o := exk a C d) (by rw [ea]; exact True.intro) (.inl rfl) (fun b u _ q => q) ⟨_, ho⟩ (exk_ok ho ⟨rfl, rfl⟩ rfl)
    have ed1 : upd H2 a (exk a C d) d = some (exd d [(f, v)]) := by rw [upd_ne ne]; exact ed
    obtain ⟨od, _, _, hod, _⟩ := id hn
    have J2 := J1.write (t' := t2) (h' := h2) (x := d) (e := d) (o := .xd [(f, v)]) (by rw [ed1]; exact True.intro) (.inl rfl) (fun b u _ q => q) ⟨_, hod⟩ ⟨mA, hn, rel⟩
    have eq : upd (upd H2 a (exk a C d)) d (.xd [(f, v)]) = upd (upd H1 d (.xd [(f, v)])) a (exk a C d) := funext fun b => by
      by_cases hba : b = a
      · rw [hba, upd_ne (Ne.symm ne), upd_same, upd_same]
      · rw [upd_ne hba]
        by_cases hb : b = d
        · rw [hb, upd_same, upd_same]
        · rw [upd_ne hb, upd_ne hb, upd_ne hba, eH, upd_ne hba, upd_ne hb, upd_ne hba]
    rw [eq] at J2
    exact ⟨.ref a, _, J2, rfl, q1 a d na nd ne⟩
end
end DL

/-! DMg: str of an int or a text. -/
namespace DL
open PySem PySem.Spec PyProof.Rows L2
def strD : List D → Option D
  | [.int i] => if i.natAbs.log2 < 1920 then some (.str (toString i)) else none
  | [.str a] => some (.str a)
  | _ => none
def rStr1 : List V → Hp → VK → Prop := fun xs H Q => (∃ i, xs = [.int i] ∧ i.natAbs.log2 < 1920 ∧ Q (.str (toString i)) H) ∨ ∃ a, xs = [.str a] ∧ Q (.str a) H
theorem call_strU {X : Cx} : CallR X (.type "str") rStr1 := by
  intro pins s σ H xs us Q I r h
  rcases h with h | h
  · exact call_str_int pins s σ H xs us Q I r h
  · exact SkE.call_str_str pins s σ H xs us Q I r h
theorem sn_str {K : PySem.W.Frag} : SnA K rStr1 strD := fun b0 B Z0 Z H σ ρ xs as c Q ok ha e q => by
  unfold strD at e
  split at e
  · split at e
    · cases e
      cases ha with
      | cons h h' =>
      cases h'; cases h
      exact .inl ⟨_, rfl, ‹_›, q _ H Z ok (Same.refl Z) (.str _)⟩
    · cases e
  · cases e
    cases ha with
    | cons h h' =>
    cases h'; cases h
    exact .inr ⟨_, rfl, q _ H Z ok (Same.refl Z) (.str _)⟩
  · cases e
end DL

/-! DMh: enumerate(zip(a, b)): a zip whose tuples are kept by another, enumerate over it. -/
namespace DLZ
open PySem
abbrev ZipP (h : Heap) (z TI TO : Addr) (p : Value) (f : Bool) : Prop := h.get? z = some { cls := .type "zip", dict := none, data := .fields #[p, .bool f, .bool false, .ref TI, .ref TO], slots := #[] }
/-- a zip, whatever became of its tuple -/
def ZipA (h : Heap) (z TI TO : Addr) : Prop := ∃ p f, ZipP h z TI TO p f ∧ (p = .none ∨ ∃ T : Nat, p = rawInt (T : Int))
section
variable {prog : Program} {w : World} {A : Around} {E : Value → Shared → Prop} {s : Shared} {z TI TO i1 i2 : Addr} {fp1 fp2 : List Addr} {n1 n2 i : Nat} {P1 P2 : Nat → Value → Prop} {St1 St2 : Nat → Heap → Prop} {a1 a2 : Value}
theorem alive_any {a : Addr} {Q : Option Obj → Shared → Prop} (h : Q (s.heap.get? a) s) : wpAny (model prog w) A (loadIfAlive a) Q E s := fun _ _ _ => h
theorem zip_free {p : Value} {f : Bool} {Q : Bool → Shared → Prop} (hz : ZipP s.heap z TI TO p f) (hp : p = .none ∨ ∃ T : Nat, p = rawInt (T : Int)) (h1 : Q true s)
    (h2 : ∀ h' f', ZipP h' z TI TO p f' → Heap.SameBut z s.heap h' → Q false { s with heap := h' }) : wpAny (model prog w) A (Builtin.SmallTypes.ownedTupleIsFree (.ref z)) Q E s := by
  unfold Builtin.SmallTypes.ownedTupleIsFree
  rcases hp with rfl | ⟨T, rfl⟩
  · exact wpAny_bind (wpAny_field hz rfl (x := .none) rfl (wpAny_pure h1))
  · refine wpAny_bind (wpAny_field hz rfl (x := rawInt (T : Int)) rfl ?_)
    show wpAny _ _ (loadIfAlive ((T : Int).toNat) >>= _) _ _ _
    rw [Int.toNat_natCast]
    refine wpAny_bind (alive_any ?_)
    cases s.heap.get? T with
    | none =>
      simp only [Option.isNone_none, if_true]
      exact wpAny_pure h1
    | some oT =>
      simp only [Option.isNone_some, Bool.false_eq_true, if_false]
      refine wpAny_bind (wpAny_field hz rfl (x := .bool f) rfl ?_)
      cases f with
      | true =>
        rw [if_neg (show ¬ ((Value.bool true != Value.bool true) = true) from Bool.false_ne_true)]
        exact wpAny_pure (h2 s.heap _ hz (Heap.SameBut.refl _ _))
      | false =>
        rw [if_pos (show (Value.bool false != Value.bool true) = true from rfl)]
        exact wpAny_bind (wpAny_setField_rec hz (by simp) fun h₁ hz₁ hs₁ => wpAny_pure (h2 h₁ true hz₁ hs₁))
theorem zipX_item {Q : Value → Shared → Prop} (S : ZipSep2 z TI TO i1 i2 fp1 fp2) (D1 : Draws prog w A i1 fp1 n1 P1 St1) (D2 : Draws prog w A i2 fp2 n2 P2 St2)
    (hz : ZipA s.heap z TI TO) (hTI : IsTupOf2 s.heap TI (.ref i1) (.ref i2)) (hTO : IsTupOf2 s.heap TO a1 a2) (st1 : St1 i s.heap) (st2 : St2 i s.heap) (hlt1 : i < n1) (hlt2 : i < n2)
    (hQ : ∀ x1 x2 h' tk, P1 i x1 → P2 i x2 → ZipA h' z TI TO → (∃ b1 b2, IsTupOf2 h' TO b1 b2) → St1 (i + 1) h' → St2 (i + 1) h' → IsTupOf2 h' s.heap.objs.size x1 x2 → h'.objs.size = s.heap.objs.size + 1 →
      (∀ c o, c ≠ z → c ≠ TO → c ≠ i1 → c ≠ i2 → s.heap.get? c = some o → h'.get? c = some o) → Q (.ref s.heap.objs.size) { s with heap := h', toks := tk }) :
    wpAny (model prog w) A (Builtin.«zip.__next__» ⟨[.ref z], []⟩) (fun fin s' => ∃ v, fin = .done (.ret v) ∧ Q v s') E s := by
  obtain ⟨hp, g, d, tk0, os⟩ := s
  obtain ⟨p, f, hz, hpp⟩ := hz
  show wpAny _ _ (field (.ref z) 2 >>= _) _ _ _
  refine wpAny_bind (wpAny_field hz rfl (x := .bool false) rfl ?_)
  show wpAny _ _ (field (.ref z) 3 >>= _) _ _ _
  refine wpAny_bind (wpAny_field hz rfl (x := .ref TI) rfl ?_)
  refine wpAny_bind (wpAny_seqItems hTI rfl ?_)
  show wpAny _ _ (Builtin.SmallTypes.ownedTupleIsFree (.ref z) >>= _) _ _ _
  refine wpAny_bind (zip_free hz hpp ?_ fun g0 f' hz0 hs0 => ?_)
  · simp only [if_true]
    refine wpAny_bind (wpAny_rule ?_)
    refine wpAny_bind (wpAny_field hz rfl (x := .ref TO) rfl ?_)
    refine wpAny_bind (wpAny_setField_rec hz (by simp) fun g0 hz0 hs0 => ?_)
    replace hz0 : ZipP g0 z TI TO .ellipsis f := hz0
    replace hs0 : Heap.SameBut z hp g0 := hs0
    refine wpAny_bind ?_
    simp only [List.zipIdx_cons, List.zipIdx_nil, List.forIn_cons, List.forIn_nil]
    refine wpAny_bind (wpAny_bind (wpAny_onRaise ?_))
    show wpAny _ _ (Builtin.SmallTypes.nextOf (.ref i1) >>= _) _ _ ⟨g0, g, d, tk0, os⟩
    refine wpAny_bind (D1.item i _ _ _ hlt1 (D1.over st1 hs0 S.zf1) fun x1 p1 tk1 hx1 sn1 hp1 => wpAny_pure ?_)
    replace hp1 : Heap.SameBut i1 g0 p1 := hp1
    have hU1 : IsTupOf2 p1 TO a1 a2 := hp1.extBut _ _ S.Ti1 (hs0.extBut _ _ S.TOz hTO)
    refine wpAny_bind (wpAny_seqItems (s := ⟨p1, g, d, tk1, os⟩) hU1 rfl ?_)
    refine wpAny_bind (updateSeq_IsTupOf2 (s := ⟨p1, g, d, tk1, os⟩) hU1 fun g1 hT1 hs1 => ?_)
    replace hT1 : IsTupOf2 g1 TO x1 a2 := hT1
    replace hs1 : Heap.SameBut TO p1 g1 := hs1
    refine wpAny_bind (wpAny_letGo (wpAny_pure ?_))
    refine wpAny_bind (wpAny_bind (wpAny_onRaise ?_))
    show wpAny _ _ (Builtin.SmallTypes.nextOf (.ref i2) >>= _) _ _ ⟨g1, g, d, tk1, os⟩
    refine wpAny_bind (D2.item i _ _ _ hlt2 (D2.over (D2.over (D2.over st2 hs0 S.zf2) hp1 S.sep1_2) hs1 S.Tf2) fun x2 p2 tk2 hx2 sn2 hp2 => wpAny_pure ?_)
    replace hp2 : Heap.SameBut i2 g1 p2 := hp2
    have hU2 : IsTupOf2 p2 TO x1 a2 := hp2.extBut _ _ S.Ti2 hT1
    refine wpAny_bind (wpAny_seqItems (s := ⟨p2, g, d, tk2, os⟩) hU2 rfl ?_)
    refine wpAny_bind (updateSeq_IsTupOf2 (s := ⟨p2, g, d, tk2, os⟩) hU2 fun g2 hT2 hs2 => ?_)
    replace hT2 : IsTupOf2 g2 TO x1 x2 := hT2
    replace hs2 : Heap.SameBut TO p2 g2 := hs2
    refine wpAny_bind (wpAny_letGo (wpAny_pure (wpAny_pure ?_)))
    refine wpAny_bind (wpAny_seqItems (s := ⟨g2, g, d, tk2, os⟩) hT2 rfl ?_)
    refine wpAny_bind (wpAny_newTuple ?_)
    have hsz : g2.objs.size = hp.objs.size := by rw [hs2.1, hp2.1, hs1.1, hp1.1, hs0.1]
    have hzz : ZipP g2 z TI TO .ellipsis f := (hs2.extBut _ _ S.TOz.symm (hp2.extBut _ _ S.zi2 (hs1.extBut _ _ S.TOz.symm (hp1.extBut _ _ S.zi1 hz0))))
    have hkk : ∀ c o, c ≠ z → c ≠ TO → c ≠ i1 → c ≠ i2 → hp.get? c = some o → g2.get? c = some o := fun c o cz cT c1 c2 e =>
      (hs2.extBut _ _ cT (hp2.extBut _ _ c2 (hs1.extBut _ _ cT (hp1.extBut _ _ c1 (hs0.extBut _ _ cz e)))))
    have hj1 : St1 (i + 1) g2 := (D1.over (D1.over (D1.over sn1 hs1 S.Tf1) hp2 S.sep2_1) hs2 S.Tf1)
    have hj2 : St2 (i + 1) g2 := (D2.over sn2 hs2 S.Tf2)
    have hzlt : z < g2.objs.size := Heap.lt_size hzz
    show wpAny _ _ (Builtin.SmallTypes.ownedTupleHandOut (.ref z) (.ref g2.objs.size) >>= _) _ _ ⟨g2.push { cls := .type "tuple", data := .seq #[x1, x2] }, g, d, tk2, os⟩
    refine wpAny_bind ?_
    unfold Builtin.SmallTypes.ownedTupleHandOut
    have hz₆ : ZipP (g2.push { cls := .type "tuple", data := .seq #[x1, x2] }) z TI TO .ellipsis f := Heap.get?_push_of_some _ hzz
    refine wpAny_bind (wpAny_setField_rec hz₆ (by simp) fun h₇ hz₇ hs₇ => ?_)
    replace hz₇ : ZipP h₇ z TI TO (rawInt g2.objs.size) f := hz₇
    refine wpAny_setField_rec hz₇ (by simp) fun h₈ hz₈ hs₈ => ?_
    replace hz₈ : ZipP h₈ z TI TO (rawInt g2.objs.size) false := hz₈
    replace hs₇ : Heap.SameBut z (g2.push { cls := .type "tuple", data := .seq #[x1, x2] }) h₇ := hs₇
    replace hs₈ : Heap.SameBut z h₇ h₈ := hs₈
    have up : ∀ c o, c ≠ z → g2.get? c = some o → h₈.get? c = some o := fun c o c1 e => hs₈.extBut _ _ c1 (hs₇.extBut _ _ c1 (Heap.get?_push_of_some _ e))
    have hT₈ : IsTupOf2 h₈ g2.objs.size x1 x2 := hs₈.extBut _ _ (Nat.ne_of_gt hzlt) (hs₇.extBut _ _ (Nat.ne_of_gt hzlt) (Heap.get?_push_size _ rfl))
    have hz8 : h₈.objs.size = g2.objs.size + 1 := by rw [hs₈.1, hs₇.1, Heap.size_push]
    rw [hsz] at hz₈ hT₈ hz8
    refine wpAny_pure ⟨_, rfl, ?_⟩
    show Q (.ref g2.objs.size) ⟨h₈, g, d, tk2, os⟩
    rw [hsz]
    exact hQ x1 x2 h₈ tk2 hx1 hx2 ⟨_, _, hz₈, .inr ⟨_, rfl⟩⟩ ⟨_, _, up _ _ S.TOz hT2⟩ (D1.frame _ _ _ hj1 fun b hb o e => up b o (fun q => S.zf1 (q ▸ hb)) e) (D2.frame _ _ _ hj2 fun b hb o e => up b o (fun q => S.zf2 (q ▸ hb)) e) hT₈ hz8 fun c o cz cT c1 c2 e => up c o cz (hkk c o cz cT c1 c2 e)
  · simp only [Bool.false_eq_true, if_false]
    replace hs0 : Heap.SameBut z hp g0 := hs0
    refine wpAny_bind ?_
    rw [← Array.forIn_toList]
    simp only [List.forIn_cons, List.forIn_nil]
    refine wpAny_bind (wpAny_bind (wpAny_holding ?_))
    show wpAny _ _ (Builtin.SmallTypes.nextOf (.ref i1) >>= _) _ _ ⟨g0, g, d, tk0, os⟩
    refine wpAny_bind (D1.item i _ _ _ hlt1 (D1.over st1 hs0 S.zf1) fun x1 p1 tk1 hx1 sn1 hp1 => wpAny_pure ?_)
    replace hp1 : Heap.SameBut i1 g0 p1 := hp1
    refine wpAny_pure ?_
    refine wpAny_bind (wpAny_bind (wpAny_holding ?_))
    show wpAny _ _ (Builtin.SmallTypes.nextOf (.ref i2) >>= _) _ _ ⟨p1, g, d, tk1, os⟩
    refine wpAny_bind (D2.item i _ _ _ hlt2 (D2.over (D2.over st2 hs0 S.zf2) hp1 S.sep1_2) fun x2 p2 tk2 hx2 sn2 hp2 => wpAny_pure ?_)
    replace hp2 : Heap.SameBut i2 p1 p2 := hp2
    refine wpAny_pure (wpAny_pure ?_)
    show wpAny _ _ (newTuple [x1, x2] >>= _) _ _ _
    refine wpAny_bind (wpAny_newTuple ?_)
    have hsz : p2.objs.size = hp.objs.size := by rw [hp2.1, hp1.1, hs0.1]
    have hzz : ZipP p2 z TI TO p f' := hp2.extBut _ _ S.zi2 (hp1.extBut _ _ S.zi1 hz0)
    have hTO2 : IsTupOf2 p2 TO a1 a2 := hp2.extBut _ _ S.Ti2 (hp1.extBut _ _ S.Ti1 (hs0.extBut _ _ S.TOz hTO))
    have hkk : ∀ c o, c ≠ z → c ≠ TO → c ≠ i1 → c ≠ i2 → hp.get? c = some o → p2.get? c = some o := fun c o cz cT c1 c2 e => hp2.extBut _ _ c2 (hp1.extBut _ _ c1 (hs0.extBut _ _ cz e))
    have hj1 : St1 (i + 1) p2 := D1.over sn1 hp2 S.sep2_1
    refine wpAny_pure ⟨_, rfl, ?_⟩
    show Q (.ref p2.objs.size) ⟨p2.push { cls := .type "tuple", data := .seq #[x1, x2] }, g, d, tk2, os⟩
    have hT : IsTupOf2 (p2.push { cls := .type "tuple", data := .seq #[x1, x2] }) p2.objs.size x1 x2 := Heap.get?_push_size _ rfl
    have hz4 : (p2.push { cls := .type "tuple", data := .seq #[x1, x2] }).objs.size = p2.objs.size + 1 := Heap.size_push ..
    rw [hsz] at hT hz4 ⊢
    exact hQ x1 x2 _ tk2 hx1 hx2 ⟨_, _, Heap.get?_push_of_some _ hzz, hpp⟩ ⟨_, _, Heap.get?_push_of_some _ hTO2⟩ (D1.frame _ _ _ hj1 fun b hb o e => Heap.get?_push_of_some _ e) (D2.frame _ _ _ sn2 fun b hb o e => Heap.get?_push_of_some _ e) hT hz4 fun c o cz cT c1 c2 e => Heap.get?_push_of_some _ (hkk c o cz cT c1 c2 e)
theorem zipX_end {Q : Fin → Shared → Prop} (S : ZipSep2 z TI TO i1 i2 fp1 fp2) (D1 : Draws prog w A i1 fp1 n1 P1 St1) (D2 : Draws prog w A i2 fp2 n2 P2 St2)
    (hz : ZipA s.heap z TI TO) (hTI : IsTupOf2 s.heap TI (.ref i1) (.ref i2)) (hTO : IsTupOf2 s.heap TO a1 a2) (st1 : St1 i s.heap) (st2 : St2 i s.heap) (hle1 : i ≤ n1) (hle2 : i ≤ n2) (hend : i = n1 ∨ i = n2)
    (hE : ∀ h' tk e, (∀ c o, c ≠ z → c ≠ TO → c ≠ i1 → c ≠ i2 → s.heap.get? c = some o → h'.get? c = some o) → (∃ o, h'.get? e = some o ∧ o.cls = .type "StopIteration") → E (.ref e) { s with heap := h', toks := tk }) :
    wpAny (model prog w) A (Builtin.«zip.__next__» ⟨[.ref z], []⟩) Q E s := by
  obtain ⟨hp, g, d, tk0, os⟩ := s
  obtain ⟨p, f, hz, hpp⟩ := hz
  show wpAny _ _ (field (.ref z) 2 >>= _) _ _ _
  refine wpAny_bind (wpAny_field hz rfl (x := .bool false) rfl ?_)
  show wpAny _ _ (field (.ref z) 3 >>= _) _ _ _
  refine wpAny_bind (wpAny_field hz rfl (x := .ref TI) rfl ?_)
  refine wpAny_bind (wpAny_seqItems hTI rfl ?_)
  show wpAny _ _ (Builtin.SmallTypes.ownedTupleIsFree (.ref z) >>= _) _ _ _
  refine wpAny_bind (zip_free hz hpp ?_ fun g0 f' hz0 hs0 => ?_)
  · simp only [if_true]
    refine wpAny_bind (wpAny_rule ?_)
    refine wpAny_bind (wpAny_field hz rfl (x := .ref TO) rfl ?_)
    refine wpAny_bind (wpAny_setField_rec hz (by simp) fun g0 hz0 hs0 => ?_)
    replace hz0 : ZipP g0 z TI TO .ellipsis f := hz0
    replace hs0 : Heap.SameBut z hp g0 := hs0
    refine wpAny_bind ?_
    simp only [List.zipIdx_cons, List.zipIdx_nil, List.forIn_cons, List.forIn_nil]
    refine wpAny_bind (wpAny_bind (wpAny_onRaise ?_))
    show wpAny _ _ (Builtin.SmallTypes.nextOf (.ref i1) >>= _) _ _ ⟨g0, g, d, tk0, os⟩
    by_cases hlt1 : i < n1
    · refine wpAny_bind (D1.item i _ _ _ hlt1 (D1.over st1 hs0 S.zf1) fun x1 p1 tk1 hx1 sn1 hp1 => wpAny_pure ?_)
      replace hp1 : Heap.SameBut i1 g0 p1 := hp1
      have hU1 : IsTupOf2 p1 TO a1 a2 := hp1.extBut _ _ S.Ti1 (hs0.extBut _ _ S.TOz hTO)
      refine wpAny_bind (wpAny_seqItems (s := ⟨p1, g, d, tk1, os⟩) hU1 rfl ?_)
      refine wpAny_bind (updateSeq_IsTupOf2 (s := ⟨p1, g, d, tk1, os⟩) hU1 fun g1 hT1 hs1 => ?_)
      replace hT1 : IsTupOf2 g1 TO x1 a2 := hT1
      replace hs1 : Heap.SameBut TO p1 g1 := hs1
      refine wpAny_bind (wpAny_letGo (wpAny_pure ?_))
      have hi2 : i = n2 := by omega
      refine wpAny_bind (wpAny_bind (wpAny_onRaise ?_))
      show wpAny _ _ (Builtin.SmallTypes.nextOf (.ref i2) >>= _) _ _ ⟨g1, g, d, tk1, os⟩
      refine wpAny_bind (D2.done ⟨g1, g, d, tk1, os⟩ _ _ (by rw [← hi2]; exact (D2.over (D2.over (D2.over st2 hs0 S.zf2) hp1 S.sep1_2) hs1 S.Tf2)) fun q e hq he => ?_)
      replace hq : Heap.ExtBut i2 g1 q := hq
      obtain ⟨oe, hoe, hce⟩ := he
      replace hoe : q.get? e = some oe := hoe
      have hzq : ZipP q z TI TO .ellipsis f := hq _ _ S.zi2 (hs1.extBut _ _ S.TOz.symm (hp1.extBut _ _ S.zi1 hz0))
      have hez : e ≠ z := fun x => by subst x; rw [hzq] at hoe; cases hoe; simp at hce
      refine wpAny_setField_rec (s := ⟨q, g, d, tk1, os⟩) hzq (by simp) fun q' _ hq' => ?_
      replace hq' : Heap.SameBut z q q' := hq'
      exact hE q' tk1 e (fun c o cz cT c1 c2 x => hq'.extBut _ _ cz (hq _ _ c2 (hs1.extBut _ _ cT (hp1.extBut _ _ c1 (hs0.extBut _ _ cz x))))) ⟨oe, hq'.extBut _ _ hez hoe, hce⟩
    · have hi1 : i = n1 := by omega
      refine wpAny_bind (D1.done ⟨g0, g, d, tk0, os⟩ _ _ (by rw [← hi1]; exact (D1.over st1 hs0 S.zf1)) fun q e hq he => ?_)
      replace hq : Heap.ExtBut i1 g0 q := hq
      obtain ⟨oe, hoe, hce⟩ := he
      replace hoe : q.get? e = some oe := hoe
      have hzq : ZipP q z TI TO .ellipsis f := hq _ _ S.zi1 hz0
      have hez : e ≠ z := fun x => by subst x; rw [hzq] at hoe; cases hoe; simp at hce
      refine wpAny_setField_rec (s := ⟨q, g, d, tk0, os⟩) hzq (by simp) fun q' _ hq' => ?_
      replace hq' : Heap.SameBut z q q' := hq'
      exact hE q' tk0 e (fun c o cz cT c1 c2 x => hq'.extBut _ _ cz (hq _ _ c1 (hs0.extBut _ _ cz x))) ⟨oe, hq'.extBut _ _ hez hoe, hce⟩
  · simp only [Bool.false_eq_true, if_false]
    replace hs0 : Heap.SameBut z hp g0 := hs0
    refine wpAny_bind ?_
    rw [← Array.forIn_toList]
    simp only [List.forIn_cons, List.forIn_nil]
    refine wpAny_bind (wpAny_bind (wpAny_holding ?_))
    show wpAny _ _ (Builtin.SmallTypes.nextOf (.ref i1) >>= _) _ _ ⟨g0, g, d, tk0, os⟩
    by_cases hlt1 : i < n1
    · refine wpAny_bind (D1.item i _ _ _ hlt1 (D1.over st1 hs0 S.zf1) fun x1 p1 tk1 hx1 sn1 hp1 => wpAny_pure ?_)
      replace hp1 : Heap.SameBut i1 g0 p1 := hp1
      refine wpAny_pure ?_
      have hi2 : i = n2 := by omega
      refine wpAny_bind (wpAny_bind (wpAny_holding ?_))
      show wpAny _ _ (Builtin.SmallTypes.nextOf (.ref i2) >>= _) _ _ ⟨p1, g, d, tk1, os⟩
      refine wpAny_bind (D2.done ⟨p1, g, d, tk1, os⟩ _ _ (by rw [← hi2]; exact (D2.over (D2.over st2 hs0 S.zf2) hp1 S.sep1_2)) fun q e hq he => ?_)
      replace hq : Heap.ExtBut i2 p1 q := hq
      exact hE q tk1 e (fun c o cz cT c1 c2 x => hq _ _ c2 (hp1.extBut _ _ c1 (hs0.extBut _ _ cz x))) he
    · have hi1 : i = n1 := by omega
      refine wpAny_bind (D1.done ⟨g0, g, d, tk0, os⟩ _ _ (by rw [← hi1]; exact (D1.over st1 hs0 S.zf1)) fun q e hq he => ?_)
      replace hq : Heap.ExtBut i1 g0 q := hq
      exact hE q tk0 e (fun c o cz cT c1 c2 x => hq _ _ c1 (hs0.extBut _ _ cz x)) he
end
end DLZ

/-! DMi: enumerate over such a zip: next, the turn, the loop's rule, the data. -/
namespace DLZ
open PySem
/-- the state of the inner zip -/
def ZSt (z TI TO i1 i2 : Addr) (St1 St2 : Nat → Heap → Prop) : Nat → Heap → Prop := fun i h => ZipA h z TI TO ∧ IsTupOf2 h TI (.ref i1) (.ref i2) ∧ (∃ a1 a2, IsTupOf2 h TO a1 a2) ∧ St1 i h ∧ St2 i h
section
variable {prog : Program} {w : World} {A : Around} {E : Value → Shared → Prop} {s : Shared} {z TI TO i1 i2 : Addr} {fp1 fp2 : List Addr} {n1 n2 i : Nat} {P1 P2 : Nat → Value → Prop} {St1 St2 : Nat → Heap → Prop} {a1 a2 : Value}
theorem zst_frame (S : ZipSep2 z TI TO i1 i2 fp1 fp2) (D1 : Draws prog w A i1 fp1 n1 P1 St1) (D2 : Draws prog w A i2 fp2 n2 P2 St2) {h h' : Heap} (st : ZSt z TI TO i1 i2 St1 St2 i h)
    (k : ∀ b, b = z ∨ b = TI ∨ b = TO ∨ b ∈ fp1 ∨ b ∈ fp2 → ∀ o, h.get? b = some o → h'.get? b = some o) : ZSt z TI TO i1 i2 St1 St2 i h' := by
  obtain ⟨⟨p, f, hz, hp⟩, hTI, ⟨b1, b2, hTO⟩, s1, s2⟩ := st
  exact ⟨⟨p, f, k z (.inl rfl) _ hz, hp⟩, k TI (.inr (.inl rfl)) _ hTI, ⟨b1, b2, k TO (.inr (.inr (.inl rfl))) _ hTO⟩, D1.frame _ _ _ s1 fun b hb o e => k b (.inr (.inr (.inr (.inl hb)))) o e, D2.frame _ _ _ s2 fun b hb o e => k b (.inr (.inr (.inr (.inr hb)))) o e⟩
theorem zip_nextOf_item {Q : Value → Shared → Prop} (S : ZipSep2 z TI TO i1 i2 fp1 fp2) (D1 : Draws prog w A.in1 i1 fp1 n1 P1 St1) (D2 : Draws prog w A.in1 i2 fp2 n2 P2 St2)
    (st : ZSt z TI TO i1 i2 St1 St2 i s.heap) (hlt1 : i < n1) (hlt2 : i < n2)
    (hQ : ∀ x1 x2 h' tk, P1 i x1 → P2 i x2 → ZSt z TI TO i1 i2 St1 St2 (i + 1) h' → IsTupOf2 h' s.heap.objs.size x1 x2 → h'.objs.size = s.heap.objs.size + 1 →
      (∀ c o, c ≠ z → c ≠ TO → c ≠ i1 → c ≠ i2 → s.heap.get? c = some o → h'.get? c = some o) → Q (.ref s.heap.objs.size) { s with heap := h', toks := tk }) :
    wpAny (model prog w) A (Builtin.SmallTypes.nextOf (.ref z)) Q E s := by
  obtain ⟨hz, hTI, ⟨b1, b2, hTO⟩, s1, s2⟩ := st
  obtain ⟨p, f, hz0, hp⟩ := id hz
  have hT : s.TypeIs (.ref z) "zip" := ⟨_, hz0, rfl⟩
  unfold Builtin.SmallTypes.nextOf
  exact wpAny_bind (wpAny_callSpecial?_slot (name := Str.ofString "__next__") hT F.slot_zip_next
    (wpAny_call_entry F.slot_zip_next hT F.entry_zip_next
      (zipX_item S D1 D2 hz hTI hTO s1 s2 hlt1 hlt2 fun x1 x2 h' tk y1 y2 c1 c2 d1 d2 c5 c6 c7 => wpAny_pure (hQ x1 x2 h' tk y1 y2 ⟨c1, c7 TI _ S.TIz S.TITO S.TIi1 S.TIi2 hTI, c2, d1, d2⟩ c5 c6 c7)) (F.args_zip_next_1 _)))
theorem zip_nextOf_end {Q : Value → Shared → Prop} (S : ZipSep2 z TI TO i1 i2 fp1 fp2) (D1 : Draws prog w A.in1 i1 fp1 n1 P1 St1) (D2 : Draws prog w A.in1 i2 fp2 n2 P2 St2)
    (st : ZSt z TI TO i1 i2 St1 St2 i s.heap) (hle1 : i ≤ n1) (hle2 : i ≤ n2) (hend : i = n1 ∨ i = n2)
    (hE : ∀ h' tk e, (∀ c o, c ≠ z → c ≠ TO → c ≠ i1 → c ≠ i2 → s.heap.get? c = some o → h'.get? c = some o) → (∃ o, h'.get? e = some o ∧ o.cls = .type "StopIteration") → E (.ref e) { s with heap := h', toks := tk }) :
    wpAny (model prog w) A (Builtin.SmallTypes.nextOf (.ref z)) Q E s := by
  obtain ⟨hz, hTI, ⟨b1, b2, hTO⟩, s1, s2⟩ := st
  obtain ⟨p, f, hz0, hp⟩ := id hz
  have hT : s.TypeIs (.ref z) "zip" := ⟨_, hz0, rfl⟩
  unfold Builtin.SmallTypes.nextOf
  exact wpAny_bind (wpAny_callSpecial?_slot (name := Str.ofString "__next__") hT F.slot_zip_next
    (wpAny_call_entry F.slot_zip_next hT F.entry_zip_next (zipX_end S D1 D2 hz hTI hTO s1 s2 hle1 hle2 hend hE) (F.args_zip_next_1 _)))
theorem ez_item {e : Addr} {c : Int} {old : Value} {Q : Value → Shared → Prop} (S : ZipSep2 z TI TO i1 i2 fp1 fp2) (D1 : Draws prog w A.in1 i1 fp1 n1 P1 St1) (D2 : Draws prog w A.in1 i2 fp2 n2 P2 St2)
    (he : IsEnum s.heap e z c old) (st : ZSt z TI TO i1 i2 St1 St2 i s.heap) (hlt1 : i < n1) (hlt2 : i < n2) (hne : e ≠ z ∧ e ≠ TI ∧ e ≠ TO ∧ e ∉ fp1 ∧ e ∉ fp2)
    (hQ : ∀ x1 x2 h' tk, P1 i x1 → P2 i x2 → IsEnumOut h' e z (c + 1) (.ref s.heap.objs.size) (s.heap.objs.size + 1) → ZSt z TI TO i1 i2 St1 St2 (i + 1) h' → IsTupOf2 h' s.heap.objs.size x1 x2 →
      h'.get? (s.heap.objs.size + 1) = some { cls := .type "tuple", data := .seq #[.int c tk, .ref s.heap.objs.size] } →
      (∀ b o, b ≠ e → b ≠ z → b ≠ TO → b ≠ i1 → b ≠ i2 → s.heap.get? b = some o → h'.get? b = some o) → Q (.ref (s.heap.objs.size + 1)) { s with heap := h', toks := tk + 1 }) :
    wpAny (model prog w) A (Builtin.«enumerate.__next__» ⟨[.ref e], []⟩) (fun fin s' => ∃ v, fin = .done (.ret v) ∧ Q v s') E s := by
  obtain ⟨hp, g, d, tk₀, os⟩ := s
  obtain ⟨ez, eI, eO, e1, e2⟩ := hne
  show wpAny _ _ (field (.ref e) 2 >>= _) _ _ _
  refine wpAny_bind (wpAny_field he rfl (x := .ref z) rfl ?_)
  refine wpAny_bind (zip_nextOf_item S D1 D2 st hlt1 hlt2 fun x1 x2 h₁ tk hx1 hx2 st₁ hT₁ hz₁ hk₁ => ?_)
  replace hT₁ : IsTupOf2 h₁ hp.objs.size x1 x2 := hT₁
  replace hz₁ : h₁.objs.size = hp.objs.size + 1 := hz₁
  replace hk₁ : ∀ c o, c ≠ z → c ≠ TO → c ≠ i1 → c ≠ i2 → hp.get? c = some o → h₁.get? c = some o := hk₁
  have he₁ : IsEnum h₁ e z c old := hk₁ e _ ez eO (fun q => e1 (q ▸ S.mem1)) (fun q => e2 (q ▸ S.mem2)) he
  show wpAny _ _ (field (.ref e) 3 >>= _) _ _ ⟨h₁, g, d, tk, os⟩
  refine wpAny_bind (wpAny_field he₁ rfl (x := rawInt c) rfl ?_)
  show wpAny _ _ (field (.ref e) 4 >>= _) _ _ ⟨h₁, g, d, tk, os⟩
  refine wpAny_bind (wpAny_field he₁ rfl (x := .none) rfl ?_)
  show wpAny _ _ (mkInt c >>= _) _ _ ⟨h₁, g, d, tk, os⟩
  refine wpAny_bind (wpAny_mkInt ?_)
  show wpAny _ _ (setField (.ref e) 3 (rawInt (c + 1)) >>= _) _ _ ⟨h₁, g, d, tk + 1, os⟩
  refine wpAny_bind (wpAny_setField_rec he₁ (by simp) fun h₂ he₂ hs₂ => ?_)
  replace hs₂ : Heap.SameBut e h₁ h₂ := hs₂
  replace he₂ : IsEnum h₂ e z (c + 1) old := he₂
  show wpAny _ _ (setField (.ref e) 4 .none >>= _) _ _ ⟨h₂, g, d, tk + 1, os⟩
  refine wpAny_bind (wpAny_setField_rec he₂ (by simp) fun h₃ he₃ hs₃ => ?_)
  replace hs₃ : Heap.SameBut e h₂ h₃ := hs₃
  replace he₃ : IsEnum h₃ e z (c + 1) old := he₃
  show wpAny _ _ (newTuple [.int c tk, .ref hp.objs.size] >>= _) _ _ ⟨h₃, g, d, tk + 1, os⟩
  refine wpAny_bind (wpAny_newTuple ?_)
  have he₄ : IsEnum (h₃.push { cls := .type "tuple", data := .seq #[.int c tk, .ref hp.objs.size] }) e z (c + 1) old := Heap.get?_push_of_some _ he₃
  generalize hh₄ : h₃.push { cls := .type "tuple", data := .seq #[.int c tk, .ref hp.objs.size] } = h₄ at he₄
  have hsz : h₃.objs.size = hp.objs.size + 1 := by rw [hs₃.1, hs₂.1, hz₁]
  have hel : e < hp.objs.size := Heap.lt_size he
  have ht₄ : h₄.get? (hp.objs.size + 1) = some { cls := .type "tuple", data := .seq #[.int c tk, .ref hp.objs.size] } := by rw [← hh₄, ← hsz]; exact Heap.get?_push_size _ rfl
  have up₄ : ∀ b o, b ≠ e → h₁.get? b = some o → h₄.get? b = some o := fun b o hbe hb => by
    rw [← hh₄]; exact Heap.get?_push_of_some _ (hs₃.extBut b o hbe (hs₂.extBut b o hbe hb))
  show wpAny _ _ (Builtin.SmallTypes.ownedTupleIsFree (.ref e) >>= _) _ _ ⟨h₄, g, d, tk + 1, os⟩
  rw [hsz]
  refine wpAny_bind ?_
  · unfold Builtin.SmallTypes.ownedTupleIsFree
    refine wpAny_bind (wpAny_field he₄ rfl (x := .none) rfl (wpAny_pure ?_))
    simp only [if_true]
    refine wpAny_bind (wpAny_rule ?_)
    refine wpAny_bind (wpAny_field he₄ rfl (x := old) rfl ?_)
    refine wpAny_bind (wpAny_setField_rec he₄ (by simp) fun h₅ he₅ hs₅ => ?_)
    replace hs₅ : Heap.SameBut e h₄ h₅ := hs₅
    replace he₅ : IsEnum h₅ e z (c + 1) (.ref hp.objs.size) := he₅
    show wpAny _ _ (Builtin.SmallTypes.ownedTupleHandOut (.ref e) (.ref (hp.objs.size + 1)) >>= _) _ _ ⟨h₅, g, d, tk + 1, os⟩
    refine wpAny_bind ?_
    · unfold Builtin.SmallTypes.ownedTupleHandOut
      refine wpAny_bind (wpAny_setField_rec he₅ (by simp) fun h₆ he₆ hs₆ => ?_)
      replace hs₆ : Heap.SameBut e h₅ h₆ := hs₆
      replace he₆ : IsEnumOut h₆ e z (c + 1) (.ref hp.objs.size) (hp.objs.size + 1) := he₆
      refine wpAny_setField_rec he₆ (by simp) fun h₇ he₇ hs₇ => ?_
      replace hs₇ : Heap.SameBut e h₆ h₇ := hs₇
      replace he₇ : IsEnumOut h₇ e z (c + 1) (.ref hp.objs.size) (hp.objs.size + 1) := he₇
      have up : ∀ b o, b ≠ e → h₄.get? b = some o → h₇.get? b = some o := fun b o hbe y => hs₇.extBut b o hbe (hs₆.extBut b o hbe (hs₅.extBut b o hbe y))
      refine wpAny_bind (wpAny_letGo (wpAny_pure ⟨_, rfl, hQ x1 x2 h₇ tk hx1 hx2 he₇ ?_ ?_ ?_ ?_⟩))
      · refine zst_frame S D1 D2 st₁ fun b hb o y => ?_
        have hbe : b ≠ e := by
          rcases hb with q | q | q | q | q
          · rw [q]; exact Ne.symm ez
          · rw [q]; exact Ne.symm eI
          · rw [q]; exact Ne.symm eO
          · exact fun q' => e1 (q' ▸ q)
          · exact fun q' => e2 (q' ▸ q)
        exact up b o hbe (up₄ b o hbe y)
      · exact up _ _ (Nat.ne_of_gt hel) (up₄ _ _ (Nat.ne_of_gt hel) hT₁)
      · exact up _ _ (Nat.ne_of_gt (Nat.lt_succ_of_lt hel)) ht₄
      · exact fun b o hbe hbz hbT hb1 hb2 hb => up b o hbe (up₄ b o hbe (hk₁ b o hbz hbT hb1 hb2 hb))
theorem pyNext_ez_item {e : Addr} {c : Int} {old : Value} {Q : Option Value → Shared → Prop} (S : ZipSep2 z TI TO i1 i2 fp1 fp2) (D1 : Draws prog w A.in1.in1 i1 fp1 n1 P1 St1) (D2 : Draws prog w A.in1.in1 i2 fp2 n2 P2 St2)
    (he : IsEnum s.heap e z c old) (st : ZSt z TI TO i1 i2 St1 St2 i s.heap) (hlt1 : i < n1) (hlt2 : i < n2) (hne : e ≠ z ∧ e ≠ TI ∧ e ≠ TO ∧ e ∉ fp1 ∧ e ∉ fp2)
    (hQ : ∀ x1 x2 h' tk, P1 i x1 → P2 i x2 → IsEnumOut h' e z (c + 1) (.ref s.heap.objs.size) (s.heap.objs.size + 1) → ZSt z TI TO i1 i2 St1 St2 (i + 1) h' → IsTupOf2 h' s.heap.objs.size x1 x2 →
      h'.get? (s.heap.objs.size + 1) = some { cls := .type "tuple", data := .seq #[.int c tk, .ref s.heap.objs.size] } →
      (∀ b o, b ≠ e → b ≠ z → b ≠ TO → b ≠ i1 → b ≠ i2 → s.heap.get? b = some o → h'.get? b = some o) → Q (some (.ref (s.heap.objs.size + 1))) { s with heap := h', toks := tk + 1 }) :
    wpAny (model prog w) A (pyNext (.ref e)) Q E s := by
  have hT : s.TypeIs (.ref e) "enumerate" := ⟨_, he, rfl⟩
  unfold pyNext
  exact wpAny_bind (wpAny_attempt (wpAny_callSpecial?_slot (name := Str.ofString "__next__") hT F.slot_enumerate_next
    (wpAny_call_entry F.slot_enumerate_next hT F.entry_enumerate_next
      (ez_item S D1 D2 he st hlt1 hlt2 hne fun x1 x2 h' tk a b c d k q r => wpAny_pure (hQ x1 x2 h' tk a b c d k q r)) (F.args_enumerate_next_1 _))))
theorem pyNext_ez_end {e : Addr} {c : Int} {old : Value} {Q : Option Value → Shared → Prop} (S : ZipSep2 z TI TO i1 i2 fp1 fp2) (D1 : Draws prog w A.in1.in1 i1 fp1 n1 P1 St1) (D2 : Draws prog w A.in1.in1 i2 fp2 n2 P2 St2)
    (he : IsEnum s.heap e z c old) (st : ZSt z TI TO i1 i2 St1 St2 i s.heap) (hle1 : i ≤ n1) (hle2 : i ≤ n2) (hend : i = n1 ∨ i = n2)
    (hQ : ∀ h' tk, (∀ c o, c ≠ z → c ≠ TO → c ≠ i1 → c ≠ i2 → s.heap.get? c = some o → h'.get? c = some o) → Q none { s with heap := h', toks := tk }) : wpAny (model prog w) A (pyNext (.ref e)) Q E s := by
  have hT : s.TypeIs (.ref e) "enumerate" := ⟨_, he, rfl⟩
  unfold pyNext
  refine wpAny_bind (wpAny_attempt (wpAny_callSpecial?_slot (name := Str.ofString "__next__") hT F.slot_enumerate_next
    (wpAny_call_entry F.slot_enumerate_next hT F.entry_enumerate_next ?_ (F.args_enumerate_next_1 _))))
  show wpAny _ _ (field (.ref e) 2 >>= _) _ _ _
  refine wpAny_bind (wpAny_field he rfl (x := .ref z) rfl ?_)
  refine wpAny_bind (zip_nextOf_end S D1 D2 st hle1 hle2 hend fun h' tk x hk hx' => ?_)
  obtain ⟨o, ho, hc⟩ := hx'
  refine wpAny_bind (wpAny_isInstance (T := "StopIteration") (b := true) ⟨o, ho, hc⟩ isSubtype_stop ?_)
  exact wpAny_pure (hQ _ _ hk)
/-- enumerate(x), x a zip -/
theorem enum_newZ {z TI TO : Addr} :
    Meets (Builtin.«enumerate.__new__» ⟨[.type "enumerate", .ref z], []⟩) (fun _ R s => IsZip s.heap z TI TO .none ∧
      R (.ok (.ret (.ref s.heap.objs.size))) { s with heap := s.heap.push { cls := .type "enumerate", data := .fields #[.none, .bool false, .ref z, rawInt 0, .none, .none] } }) :=
  .of_wp fun prog w A R s h => by
    obtain ⟨hp, gn, dr, tk, os⟩ := s
    obtain ⟨h1, h⟩ := h
    have hsub := sub_enumerate
    have q1 : ∀ {A' : Around} {E : Value → Shared → Prop} {Q : Value → Shared → Prop}, Q (.ref z) ⟨hp, gn, dr, tk, os⟩ → wpAny (model prog w) A' (pyIter (.ref z)) Q E ⟨hp, gn, dr, tk, os⟩ :=
      fun q => wpAny_pyIter_zip h1 q
    wp_walk using q1
    refine wpAny_stack_any fun st => wpAny_pure ?_
    split
    · rename_i c _ _ _ _ _
      cases (c == Value.type "enumerate") <;> (wp_walk using q1; exact ⟨_, rfl, h⟩)
    · wp_walk using q1
      exact ⟨_, rfl, h⟩
theorem enum_beginsZ {z TI TO : Addr} {Q : Value → Shared → Prop} (hz : IsZip s.heap z TI TO .none)
    (h : ∀ h', IsEnum h' s.heap.objs.size z 0 .none → (∀ b o, s.heap.get? b = some o → h'.get? b = some o) → Q (.ref s.heap.objs.size) { s with heap := h' }) :
    wpAny (model prog w) A (call (.type "enumerate") [.ref z]) Q E s := by
  refine callType_new F.called_enumerate (by decide) (F.typeCall_enumerate_1 _) (F.newCall_enumerate_1 _) (fun obj => F.args_object_init_2 obj _) F.entry_enumerate_new (enum_newZ (TI := TI) (TO := TO)) ⟨hz, ?_⟩
  have he : IsEnum (s.heap.push { cls := .type "enumerate", data := .fields #[.none, .bool false, .ref z, rawInt 0, .none, .none] }) s.heap.objs.size z 0 .none := Heap.get?_push_size s.heap (o := { cls := .type "enumerate", data := .fields #[.none, .bool false, .ref z, rawInt 0, .none, .none] }) rfl
  exact ⟨⟨_, he, rfl⟩, h _ he fun b o x => Heap.get?_push_of_some _ x⟩
end
end DLZ
namespace DL
open PySem PySem.Spec PyProof.Rows L2 DLZ
section
variable {X : Cx} {K : PySem.W.Frag} {tas : TA} {pins : List (Addr × Obj)} {σ : L2.St} {H : Hp} {s : Shared} {h' : Heap}
/-- several records of ours have turned, two new objects are laid -/
theorem turned2 {t' : Nat} {ch : List Addr} {T1 T2 : Addr} {o1 o2 : HO} (I : L2.Inv X pins σ H s) (k : ∀ b o, b ∉ ch → s.heap.get? b = some o → h'.get? b = some o) (hf : ∀ b ∈ ch, FpOk X pins H b) (hT1 : s.heap.objs.size ≤ T1) (hT2 : s.heap.objs.size ≤ T2)
    (new1 : ObjOk X.prog X.w (upd (upd H T1 o1) T2 o2) h' T1 o1) (new2 : ObjOk X.prog X.w (upd (upd H T1 o1) T2 o2) h' T2 o2) : L2.Inv X pins σ (upd (upd H T1 o1) T2 o2) { s with heap := h', toks := t' } := by
  have n1 : H T1 = none := I.hok.fresh hT1
  have n2 : H T2 = none := I.hok.fresh hT2
  have same : ∀ b u, H b = some u → upd (upd H T1 o1) T2 o2 b = some u := fun b u e => by rw [upd_ne (ne_of_none e n2), upd_ne (ne_of_none e n1)]; exact e
  have nit : ∀ b u, H b = some u → b ∉ ch := fun b u e z => by
    have q := (hf b z).1
    rw [q] at e; cases e
  refine I.step (g' := s.gens) (d' := s.drawn) (ch := ch) (fun b hb => ⟨(hf b hb).2.2.2.1, (hf b hb).2.1, (hf b hb).2.2.2.2.1, (hf b hb).2.2.2.2.2⟩) (fun b o _ _ hc e _ => k b o hc e) (fun b o _ _ hc e _ => ⟨o.slots, k b o hc e⟩)
    (fun b o _ e n => ?_) (fun b o hc e => ⟨o, k b o hc e⟩) (fun b xs e => same b _ e) (fun b o u e => same b _ e) (fun b ps e => ⟨#[], ?_⟩) (fun m hm => ?_) (fun b u e => ?_) I.bare
  · rw [upd_ne (Nat.ne_of_lt (Nat.lt_of_lt_of_le (Heap.lt_size e) hT2)), upd_ne (Nat.ne_of_lt (Nat.lt_of_lt_of_le (Heap.lt_size e) hT1))]; exact n
  · rw [same b _ e]; simp
  · obtain ⟨o, es, ep, ho, r⟩ := hm
    exact ⟨o, es, ep, k _ o (fun z => (hf _ z).2.1 rfl) ho, r⟩
  · by_cases hb : b = T2
    · subst hb
      rw [upd_same] at e
      cases e
      exact new2
    · by_cases hb1 : b = T1
      · subst hb1
        rw [upd_ne hb, upd_same] at e
        cases e
        exact new1
      · rw [upd_ne hb, upd_ne hb1] at e
        refine (I.hok b u e).stay (fun c v hc q => k c v ?_ q) (fun c q => same c _ q) fun c xs q => same c _ q
        rcases hc with z | z
        · rw [z]; exact nit b u e
        · exact nit c _ z
/-- pairs within pairs -/
def ItQ (S : Hp → Prop) (n : Nat) (f g : Nat → Option V) : It :=
  ⟨fun i H => S H ∧ i < n, fun i H v H' => ∃ T1 T2 x y, v = .ref T2 ∧ H T1 = none ∧ H T2 = none ∧ T2 ≠ T1 ∧ H' = upd (upd H T1 (.tup [x, y])) T2 (.tup [.int (0 + (i : Int)), .ref T1]) ∧ f i = some x ∧ g i = some y, fun i H => S H ∧ i = n⟩
def fp6 (N : Addr) : List Addr := [N + 5, N + 4, N + 2, N + 3, N, N + 1]
theorem fp6_cases {N c : Addr} (hc : c ∈ fp6 N) : c = N + 5 ∨ c = N + 4 ∨ c = N + 2 ∨ c = N + 3 ∨ c = N ∨ c = N + 1 := by simpa [fp6] using hc
def ezTn (k1 k2 : Sk) (a b N : Addr) : Nat → Heap → Prop := fun i h => (∃ old, IsEnum h (N + 5) (N + 4) (0 + (i : Int)) old) ∧ ZipA h (N + 4) (N + 2) (N + 3) ∧ IsTupOf2 h (N + 2) (.ref N) (.ref (N + 1)) ∧ (∃ a1 a2, IsTupOf2 h (N + 3) a1 a2) ∧ k1.itr h N a i ∧ k2.itr h (N + 1) b i
theorem ez_live {k1 k2 : Sk} {a b N : Addr} {i : Nat} {h : Heap} (st : ezTn k1 k2 a b N i h) : ∀ c ∈ fp6 N, ∃ o, h.get? c = some o ∧ ∀ v, o.data ≠ .cell v := fun c hc => by
  obtain ⟨⟨old, h0⟩, ⟨p, f, h1, _⟩, h2, ⟨a1, a2, h3⟩, h4, h5⟩ := st
  rcases fp6_cases hc with e | e | e | e | e | e
  · rw [e]; exact ⟨_, h0, fun v z => nomatch z⟩
  · rw [e]; exact ⟨_, h1, fun v z => nomatch z⟩
  · rw [e]; exact ⟨_, h2, fun v z => nomatch z⟩
  · rw [e]; exact ⟨_, h3, fun v z => nomatch z⟩
  · rw [e]; exact k1.obj_of h4
  · rw [e]; exact k2.obj_of h5
theorem ad_ne (N : Nat) : N + 4 ≠ N + 5 ∧ N + 2 ≠ N + 5 ∧ N + 3 ≠ N + 5 ∧ N ≠ N + 5 ∧ N + 1 ≠ N + 5 := by omega
theorem ez_ne' (N a b : Nat) (ha : a < N) (hb : b < N) : N + 5 ≠ N + 4 ∧ N + 5 ≠ N + 2 ∧ N + 5 ≠ N + 3 ∧ N + 5 ∉ [N, a] ∧ N + 5 ∉ [N + 1, b] := by
  refine ⟨by omega, by omega, by omega, fun z => ?_, fun z => ?_⟩
  · rcases List.mem_cons.mp z with z | z
    · omega
    · rcases List.mem_cons.mp z with z | z
      · omega
      · cases z
  · rcases List.mem_cons.mp z with z | z
    · omega
    · rcases List.mem_cons.mp z with z | z
      · omega
      · cases z
theorem ez_ne {N a b : Addr} (ha : a < N) (hb : b < N) : N + 5 ≠ N + 4 ∧ N + 5 ≠ N + 2 ∧ N + 5 ≠ N + 3 ∧ N + 5 ∉ [N, a] ∧ N + 5 ∉ [N + 1, b] := ez_ne' N a b ha hb
theorem turn_ez {P : Program} {w : World} {elts : List Expr} {kk : Nat} {tpos : Pos} (k1 k2 : Sk) {a b N : Addr} (ha : a < N) (hb : b < N) (xs ys : List V) :
    Turn P w K (.Tuple elts kk tpos) (ItQ (fun H => k1.sq K H a xs ∧ k2.sq K H b ys) (min xs.length ys.length) (fun i => xs[i]?) (fun i => ys[i]?)) (fp6 N) (N + 5) (ezTn k1 k2 a b N) where
  mem := by simp [fp6]
  obj := fun i h st => ez_live st
  keep := fun i h h' st kp => by
    obtain ⟨⟨old, h0⟩, ⟨p, f, h1, hp⟩, h2, ⟨a1, a2, h3⟩, h4, h5⟩ := st
    exact ⟨⟨old, kp _ (by simp [fp6]) _ h0⟩, ⟨p, f, kp _ (by simp [fp6]) _ h1, hp⟩, kp _ (by simp [fp6]) _ h2, ⟨a1, a2, kp _ (by simp [fp6]) _ h3⟩, k1.keep h4 fun o q => kp _ (by simp [fp6]) o q, k2.keep h5 fun o q => kp _ (by simp [fp6]) o q⟩
  item := by
    intro X hP hw hK hc i pins s σ H E I hf st hg
    subst hP hw hK
    obtain ⟨⟨q1, q2⟩, hi⟩ := hg
    obtain ⟨i1, r1, s1⟩ := k1.there I q1
    obtain ⟨i2, r2, s2⟩ := k2.there I q2
    have st0 := st
    obtain ⟨⟨old, h0⟩, h1, h2, h3, h4, h5⟩ := st
    refine pyNext_ez_item (zip_sep2 (N := N) (fp1 := [a]) (fp2 := [b]) (by simpa using ha) (by simpa using hb)) (k1.draws (A := X.A.in1.in1) (I.ok.hd hc) N a (Nat.ne_of_lt ha) i1.toArray) (k2.draws (A := X.A.in1.in1) (I.ok.hd hc) (N + 1) b (Nat.ne_of_lt (Nat.lt_succ_of_lt hb)) i2.toArray)
      h0 (i := i) ⟨h1, h2, h3, ⟨h4, s1⟩, h5, s2⟩ (by rw [List.size_toArray, ← r1.length]; omega) (by rw [List.size_toArray, ← r2.length]; omega) (ez_ne ha hb) fun x y h' tk ex ey eo st' t1 t2 kp => ⟨_, rfl, ?_⟩
    refine wpAny_letOwnedTupleGo_enum eo fun h2' he2 hs2 => ?_
    have hel : N + 5 < s.heap.objs.size := Heap.lt_size h0
    have gx : xs[i]? = some (xs[i]'(by omega)) := List.getElem?_eq_getElem _
    have gy : ys[i]? = some (ys[i]'(by omega)) := List.getElem?_eq_getElem _
    obtain ⟨u, eu, ru⟩ := r1.get gx
    obtain ⟨v, ev, rv⟩ := r2.get gy
    have e1 : u = x := Option.some.inj (eu.symm.trans (by simpa using ex))
    have e2 : v = y := Option.some.inj (ev.symm.trans (by simpa using ey))
    subst e1 e2
    obtain ⟨g1, g2, g3, ⟨g4, _⟩, g5, _⟩ := st'
    replace hs2 : Heap.SameBut (N + 5) h' h2' := hs2
    have up : ∀ c o, c ≠ N + 5 → h'.get? c = some o → h2'.get? c = some o := fun c o hc e => hs2.extBut c o hc e
    have t1' : h2'.IsTuple s.heap.objs.size #[u, v] := ⟨_, up _ _ (Nat.ne_of_gt hel) t1, rfl, _, rfl⟩
    have t2' : h2'.IsTuple (s.heap.objs.size + 1) #[.int (0 + (i : Int)) tk, .ref s.heap.objs.size] := ⟨_, up _ _ (Nat.ne_of_gt (Nat.lt_succ_of_lt hel)) t2, rfl, _, rfl⟩
    have frT1 : H s.heap.objs.size = none := I.hok.fresh (Nat.le_refl _)
    have frT2 : H (s.heap.objs.size + 1) = none := I.hok.fresh (Nat.le_succ _)
    have J := turned2 (t' := tk + 1) (h' := h2') (ch := fp6 N) (T1 := s.heap.objs.size) (T2 := s.heap.objs.size + 1) (o1 := .tup [xs[i]'(by omega), ys[i]'(by omega)]) (o2 := .tup [.int (0 + (i : Int)), .ref s.heap.objs.size]) I
      (fun c o hc e => up c o (fun z => hc (by simp [fp6, z])) (kp c o (fun z => hc (by simp [fp6, z])) (fun z => hc (by simp [fp6, z])) (fun z => hc (by simp [fp6, z])) (fun z => hc (by simp [fp6, z])) (fun z => hc (by simp [fp6, z])) e)) hf (Nat.le_refl _) (Nat.le_succ _)
      ⟨by show 2 ≤ sizeLine; decide, [u, v], .cons ru (.cons rv .nil), t1'⟩ ⟨by show 2 ≤ sizeLine; decide, [.int (0 + (i : Int)) tk, .ref s.heap.objs.size], .cons ⟨_, rfl⟩ (.cons rfl .nil), t2'⟩
    refine ⟨.ref (s.heap.objs.size + 1), _, J, rfl, ⟨_, _, _, _, rfl, frT1, frT2, Nat.succ_ne_self _, rfl, gx, gy⟩, ⟨⟨.ref s.heap.objs.size, ?_⟩, ?_, ?_, ?_, ?_, ?_⟩, fun c hc => ?_⟩
    · have e1 : (0 : Int) + ((i + 1 : Nat) : Int) = 0 + (i : Int) + 1 := by omega
      rw [e1]
      exact he2
    · obtain ⟨p, f, w1, w2⟩ := g1
      exact ⟨p, f, up _ _ (ad_ne N).1 w1, w2⟩
    · exact up _ _ (ad_ne N).2.1 g2
    · obtain ⟨b1, b2, w⟩ := g3
      exact ⟨b1, b2, up _ _ (ad_ne N).2.2.1 w⟩
    · exact k1.keep g4 fun o q => up _ _ (ad_ne N).2.2.2.1 q
    · exact k2.keep g5 fun o q => up _ _ (ad_ne N).2.2.2.2 q
    · obtain ⟨o, e, _⟩ := ez_live st0 c hc
      have l := Heap.lt_size e
      rw [upd_ne (Nat.ne_of_lt (Nat.lt_succ_of_lt l)), upd_ne (Nat.ne_of_lt l)]
      exact (hf c hc).1
  done := by
    intro X hP hw hK hc i pins s σ H E I hf st hg
    subst hP hw hK
    obtain ⟨⟨q1, q2⟩, hi⟩ := hg
    obtain ⟨i1, r1, s1⟩ := k1.there I q1
    obtain ⟨i2, r2, s2⟩ := k2.there I q2
    obtain ⟨⟨old, h0⟩, h1, h2, h3, h4, h5⟩ := st
    have z1 : i1.toArray.size = xs.length := by rw [List.size_toArray, ← r1.length]
    have z2 : i2.toArray.size = ys.length := by rw [List.size_toArray, ← r2.length]
    refine pyNext_ez_end (zip_sep2 (N := N) (fp1 := [a]) (fp2 := [b]) (by simpa using ha) (by simpa using hb)) (k1.draws (A := X.A.in1.in1) (I.ok.hd hc) N a (Nat.ne_of_lt ha) i1.toArray) (k2.draws (A := X.A.in1.in1) (I.ok.hd hc) (N + 1) b (Nat.ne_of_lt (Nat.lt_succ_of_lt hb)) i2.toArray)
      h0 (i := i) ⟨h1, h2, h3, ⟨h4, s1⟩, h5, s2⟩ (by omega) (by omega) (by omega) fun h' tk kp => ⟨rfl, ?_⟩
    exact I.turnedL (t' := tk) (ch := fp6 N) (fun c o hc e => kp c o (fun z => hc (by simp [fp6, z])) (fun z => hc (by simp [fp6, z])) (fun z => hc (by simp [fp6, z])) (fun z => hc (by simp [fp6, z])) e) hf
  self := fun A i s Q E st h => let ⟨⟨_, he⟩, _⟩ := st; wpAny_pyIter_enum he h
def iEZ (K : PySem.W.Frag) (ta : TA) : TI := fun σ H R => ta σ H fun vs H1 => ∃ a b k1 k2 xs ys, vs = [.ref a, .ref b] ∧ Sk.sq K H1 a xs k1 ∧ Sk.sq K H1 b ys k2 ∧ R (ItQ (fun H => k1.sq K H a xs ∧ k2.sq K H b ys) (min xs.length ys.length) (fun i => xs[i]?) (fun i => ys[i]?)) H1
theorem pi_enumZip {e e2 : Expr} {ta : TA} {p pos p2 pos2 tpos : Pos} {elts : List Expr} {kk : Nat} (hg : Gl X "enumerate") (hm : X.mg "enumerate" = none) (hg2 : Gl X "zip") (hm2 : X.mg "zip" = none) (ha : PA X [e, e2] ta)
    (h0 : starEach [.Call (.Name "zip" p2) [e, e2] [] pos2] X.env = (false, eval (.Call (.Name "zip" p2) [e, e2] [] pos2) X.env) :: starEach [] X.env := by rfl)
    (h1 : starEach [e, e2] X.env = (false, eval e X.env) :: starEach [e2] X.env := by rfl) (h2 : (backTo pos2 (starEach [e2] X.env)).any (·.1) = false := by rfl) :
    PI X (.Tuple elts kk tpos) (.Call (.Name "enumerate" p) [.Call (.Name "zip" p2) [e, e2] [] pos2] [] pos) (iEZ X.K ta) := by
  refine ⟨fun pins s σ H R I h => PyProof.Rows.Call_ (ld_blt I hg hm PyProof.Rows.boot_enumerate (PyProof.Rows.callWith_type1 ?_ h0 rfl))⟩
  rw [h0]
  show wpAny _ _ (spliced ((false, eval (.Call (.Name "zip" p2) [e, e2] [] pos2) X.env) :: backTo pos (starEach [] X.env))) _ _ s
  refine Calls.spliced_cons (PyProof.Rows.Call_ (ld_blt I hg2 hm2 PyProof.Rows.boot_zip (PyProof.Rows.callWith_type1 (thn (ha.run pos2 pins s σ H _ I h) fun us s1 ⟨vs, H1, I1, r1, q1⟩ => ?_) h1 h2)))
  obtain ⟨a, b, k1, k2, xs, ys, rfl, q1, q2, q⟩ := q1
  cases r1 with
  | cons r rr =>
  cases rr with
  | cons r' rr =>
  cases rr; cases r; cases r'
  obtain ⟨i1, r1, s1'⟩ := k1.there I1 q1
  obtain ⟨i2, r2, s2'⟩ := k2.there I1 q2
  refine zip_begins2 (k1.begins a i1.toArray) (k2.begins b i2.toArray) s1' s2' fun h' hz hTI hTO g1 g2 hsz hk => ?_
  refine Calls.spliced_nil ?_
  refine enum_beginsZ (s := { s1 with heap := h' }) hz fun h'' he hk2 => wpAny_pyIter_enum he ?_
  have ez : h'.objs.size = s1.heap.objs.size + 5 := hsz
  have he' : IsEnum h'' (s1.heap.objs.size + 5) (s1.heap.objs.size + 4) 0 .none := by rw [← ez]; exact he
  refine ⟨s1.heap.objs.size + 5, fp6 s1.heap.objs.size, _, _, H1, (by show Value.ref h'.objs.size = _; rw [ez]), I1.kept (t' := s1.toks) fun c o e => hk2 c o (hk c o e), turn_ez k1 k2 (k1.lt s1') (k2.lt s2') xs ys,
    ⟨⟨_, he'⟩, ⟨_, _, hk2 _ _ hz, .inl rfl⟩, hk2 _ _ hTI, ⟨_, _, hk2 _ _ hTO⟩, k1.first (hk2 _ _ g1), k2.first (hk2 _ _ g2)⟩, fun c hc => ?_, q⟩
  have hle : s1.heap.objs.size ≤ c := by
    rcases fp6_cases hc with z | z | z | z | z | z <;> rw [z] <;> first | exact Nat.le_add_right _ _ | exact Nat.le_refl _
  exact I1.fpOk hle (I1.hok.fresh hle)
theorem wk_quad {Z : Hp} {S : Hp → Prop} {n : Nat} {f g : Nat → Option V} {ds : List D} (hS : ∀ H, Same Z H → S H) (hn : ds.length = n) (hd : ∀ i x y, i < n → f i = some x → g i = some y → ∃ a b, ds[i]? = some (.tuple [.int (i : Int), .tuple [a, b]]) ∧ Rp K Z x a ∧ Rp K Z y b) : Wk K (ItQ S n f g) Z ds where
  goes := fun i H hi s => ⟨hS H s, by rw [← hn]; exact hi⟩
  stops := fun H s => ⟨hS H s, hn⟩
  yields := fun i H x H' hi y b0 B Z0 Z' σ ρ ok s => by
    obtain ⟨T1, T2, x, y, rfl, n1, n2, ne, rfl, e1, e2⟩ := y
    obtain ⟨a, b, ed, ra, rb⟩ := hd i x y (by omega) e1 e2
    obtain ⟨ok2, s2⟩ := ok.new (o := .tup [x, y]) n1
    obtain ⟨ok3, s3⟩ := ok2.new (o := .tup [.int (0 + (i : Int)), .ref T1]) (show upd H T1 _ T2 = none by rw [upd_ne ne]; exact n2)
    refine ⟨_, _, ok3, s2.trans s3, ed, .tup (.inl (.inl upd_same)) (.cons (by rw [Int.zero_add]; exact .int _) (.cons ?_ .nil))⟩
    exact .tup (.inl (.inl (s3 _ _ upd_same))) (.cons (((ra.mono s).mono s2).mono s3) (.cons (((rb.mono s).mono s2).mono s3) .nil))
def enumZipD : List D → Option (List D)
  | [a, b] => (zip2D [a, b]).map (enumFrom 0)
  | _ => none
theorem di_enumZip {ga : GA} (h : DA K tas ga) : DI K (iEZ K tas) (eCall enumZipD ga) := fun b0 B Z0 Z H σ ρ ds ρ' W ok e q => by
  obtain ⟨os, as, e1, e2, e3⟩ := call_ok e
  refine h b0 B Z0 Z H σ ρ os ρ' _ ok e1 fun vs H1 Z1 ok1 s1 r1 => ?_
  have ra := valA_ok r1 e2
  unfold enumZipD at e3
  split at e3
  · obtain ⟨zs, e4, rfl⟩ := Option.map_eq_some_iff.mp e3
    unfold zip2D at e4
    dsimp only at e4
    split at e4
    · rename_i k1 xs k2 ys f1 f2
      cases e4
      cases ra with
      | cons r ra =>
      cases ra with
      | cons r' ra =>
      cases ra
      obtain ⟨a, va, rfl, qa, rva⟩ := sk_rp f1 r
      obtain ⟨b, vb, rfl, qb, rvb⟩ := sk_rp f2 r'
      refine ⟨a, b, k1, k2, va, vb, rfl, k1.mono ok1.zh qa, k2.mono ok1.zh qb, q _ H1 Z1 ok1 s1 (wk_quad (fun H s => ⟨k1.mono s qa, k2.mono s qb⟩) ?_ fun i x y hi ex ey => ?_)⟩
      · rw [enumFrom_len]; unfold zipD; rw [List.length_zipWith, rva.length, rvb.length]
      · obtain ⟨d1, g1, rd1⟩ := rva.getV ex
        obtain ⟨d2, g2, rd2⟩ := rvb.getV ey
        refine ⟨d1, d2, ?_, rd1, rd2⟩
        have := enumFrom_get (zipD xs ys) 0 i (.tuple [d1, d2]) (by unfold zipD; rw [List.getElem?_zipWith, g1, g2])
        rw [this, Nat.zero_add]
    · cases e4
  · cases e3
end
end DL

/-! DMj: t[::-1] of a tuple or a list; xs.pop(i) as an expression. -/
namespace DLV
open PySem PySem.Spec PyProof.Rows HT
section
variable {prog : Program} {w : World} {A : Around} {E : Value → Shared → Prop} {s : Shared}
theorem adjust_rev (n : Nat) : Builtin.Slice.sliceAdjust none none (-1) (n : Int) = ((n : Int) - 1, -1) := rfl
theorem places_rev (n : Nat) : Builtin.Slice.slicePlaces ((n : Int) - 1) (-1) (-1) = n := by
  unfold Builtin.Slice.slicePlaces
  have h1 : ¬ ((-1 : Int) > 0) := by decide
  simp only [h1, if_false]
  by_cases h : (n : Int) - 1 > -1
  · rw [if_pos h, show (- -1 : Int) = 1 by decide, Int.ediv_one]
    omega
  · rw [if_neg h]
    have : n = 0 := by omega
    subst this
    rfl
theorem sliceApplied_rev {sl : Addr} {vl vu vs : Value} {n : Nat} {Q : Int × Int × Nat → Shared → Prop} (hs : s.heap.IsSliceOf sl vl vu vs) (pl : IsPart vl none) (pu : IsPart vu none) (ps : IsPart vs (some (-1)))
    (h : Q ((n : Int) - 1, -1, n) s) : wpAny (model prog w) A (Builtin.Slice.sliceApplied (.ref sl) (pure (n : Int))) Q E s := by
  obtain ⟨os, hos, hcs, hds⟩ := id hs
  unfold Builtin.Slice.sliceApplied Builtin.Slice.sliceFields
  refine wpAny_bind (wpAny_bind (wpAny_field hos hds (x := vl) rfl (wpAny_bind (wpAny_field hos hds (x := vu) rfl (wpAny_bind (wpAny_field hos hds (x := vs) rfl (wpAny_pure ?_)))))))
  refine wpAny_bind (slicePart_ ps ?_)
  show wpAny _ _ (if ((-1 : Int) == 0) = true then _ else _) _ _ s
  rw [if_neg (by decide)]
  refine wpAny_bind (slicePart_ pl (wpAny_bind (slicePart_ pu (wpAny_bind (wpAny_pure ?_)))))
  show wpAny _ _ (match Builtin.Slice.sliceAdjust none none (-1) (n : Int) with | (lo, hi) => pure (lo, (-1 : Int), Builtin.Slice.slicePlaces lo hi (-1))) _ _ s
  rw [adjust_rev n]
  show wpAny _ _ (pure ((n : Int) - 1, (-1 : Int), Builtin.Slice.slicePlaces ((n : Int) - 1) (-1) (-1))) _ _ s
  rw [places_rev]
  exact wpAny_pure h
theorem pick_rev (xs : Array Value) : ((List.range xs.size).filterMap fun (m : Nat) => xs[(((xs.size : Int) - 1) + (m : Int) * (-1)).toNat]?).toArray = xs.toList.reverse.toArray := by
  have e := PySem.W.krv_pick xs
  unfold slicePick at e
  rw [PySem.W.krv_bounds] at e
  have e2 : ((sliceRange ((xs.size : Int) - 1) (-1) (-1)).filterMap (xs[·]?)).toArray = xs.toList.reverse.toArray := e
  rw [PySem.W.krv_sliceRange, List.filterMap_map] at e2
  rw [← e2]
  congr 2
  funext m
  have : (((xs.size : Int) - 1) + (m : Int) * (-1)).toNat = xs.size - 1 - m := by omega
  rw [this]
  rfl
theorem getItem_tuple_rev {t sl : Addr} {items : Array Value} {vl vu vs : Value} {Q : Value → Shared → Prop} (ht : IsTup s.heap t items) (hs : s.heap.IsSliceOf sl vl vu vs) (pl : IsPart vl none) (pu : IsPart vu none) (ps : IsPart vs (some (-1)))
    (h : Q (.ref s.heap.objs.size) { s with heap := s.heap.push { cls := .type "tuple", data := .seq items.toList.reverse.toArray } })
    (hsz : items.size ≤ sizeLine) : wpAny (model prog w) A (getItem (.ref t) (.ref sl)) Q E s := by
  have htake : sizeOk (.seq items.toList.reverse.toArray) := by
    show items.toList.reverse.toArray.size ≤ sizeLine
    rw [List.size_toArray, List.length_reverse, Array.length_toList]
    exact hsz
  obtain ⟨os, hos, hcs, hds⟩ := id hs
  have hTs : s.TypeIs (.ref sl) "slice" := ⟨os, hos, hcs⟩
  unfold getItem
  try with_reducible refine wpAny_holding ?_
  first | refine wpAny_bind (wpAny_pure ?_) | skip
  refine wpAny_bind (wpAny_sequenceKey ht.typeIs (by decide) ?_)
  refine wpAny_bind (wpAny_callSpecial?_slot (name := Str.ofString "__getitem__") ht.typeIs PyProof.Rows.slot_tuple_getitem
    (wpAny_call_entry PyProof.Rows.slot_tuple_getitem ht.typeIs entry_tuple_getitem ?_ (args_tuple_getitem _ _)))
  show wpAny _ _ (Builtin.Tuple.tupleItemsOf (.ref t) >>= _) _ _ s
  refine wpAny_bind (tupleItemsOf_ ht ?_)
  refine wpAny_bind (wpAny_typeOf hTs ?_)
  rw [if_pos (by decide)]
  refine wpAny_bind (sliceApplied_rev hs pl pu ps ?_)
  have hno : ¬ ((((items.size : Int) - 1) == 0 && (-1 : Int) == 1 && items.size == items.size) = true) := by
    intro q
    rw [Bool.and_eq_true, Bool.and_eq_true] at q
    exact absurd q.1.2 (by decide)
  show wpAny _ _ (if (((items.size : Int) - 1) == 0 && (-1 : Int) == 1 && items.size == items.size) = true then _ else _) _ _ s
  rw [if_neg hno, pick_rev]
  first
    | exact wpAny_bind (m := Builtin.Tuple.tupleExact _) (wpAny_newObj_type (wpAny_pure ⟨_, rfl, wpAny_pure h⟩) htake)
    | exact wpAny_bind (m := Builtin.Tuple.tupleExact _) (wpAny_newObj_type (wpAny_bind (wpAny_pure (wpAny_pure ⟨_, rfl, wpAny_pure h⟩))) htake)
    | exact wpAny_bind (wpAny_bind (m := Builtin.Tuple.tupleExact _) (wpAny_newObj_type (wpAny_pure (wpAny_pure ⟨_, rfl, wpAny_pure h⟩)) htake))
    | exact wpAny_bind (wpAny_bind (m := Builtin.Tuple.tupleExact _) (wpAny_newObj_type (wpAny_pure ⟨_, rfl, wpAny_pure h⟩) htake))
end
end DLV
namespace DL
open PySem PySem.Spec PyProof.Rows L2 DLV
section
variable {X : Cx} {K : PySem.W.Frag} {te : TE} {Wx : WX}
def tRevT (K : PySem.W.Frag) (te : TE) : TE := fun σ H Q => te σ H fun x H1 => ∃ a xs, x = .ref a ∧ SqT K H1 a xs ∧ ∀ p, H1 p = none → Q (.ref p) (upd H1 p (.tup xs.reverse))
theorem pe_revT {e : Expr} {te : TE} {k : Nat} {p1 p2 p3 pos : Pos} (he : PE X e te) : PE X (.Subscript e (.Slice none none (some (.UnaryOp .USub (.Constant (.int 1) k p1) p2)) p3) pos) (tRevT X.K te) := by
  refine ⟨fun pins s σ H Q I h => ?_⟩
  refine Subscript_ (thn (he.run pins s σ H _ I h) fun v s1 ⟨x, H1, I1, r1, q1⟩ => ?_)
  obtain ⟨a, xs, ex, hx, q⟩ := q1
  subst ex
  cases r1
  have hst : PO X (some (.UnaryOp .USub (.Constant (.int 1) k p1) p2)) (tPart (tUn (rU fun i => .int (-i)) (tC (.int 1)))) := po_some (pe_un un_neg pe_int)
  refine wpAny_Slice (thn (po_none.run pins s1 σ H1 (fun o H2 => o = none ∧ H2 = H1) I1 ⟨rfl, rfl⟩) fun vl s2 ⟨l, H2, I2, pl, el, e2⟩ => ?_)
  subst el e2
  refine thn (po_none.run pins s2 σ H2 (fun o H3 => o = none ∧ H3 = H2) I2 ⟨rfl, rfl⟩) fun vu s3 ⟨u, H3, I3, pu, eu, e3⟩ => ?_
  subst eu e3
  refine thn (hst.run pins s3 σ H3 (fun o H4 => o = some (-1) ∧ H4 = H3) I3 ⟨1, rfl, -1, rfl, rfl, rfl⟩) fun vs s4 ⟨o, H4, I4, ps, eo, e4⟩ => ?_
  subst eo e4
  have I5 : L2.Inv X pins σ H4 { s4 with heap := s4.heap.push { cls := .type "slice", data := .fields #[vl, vu, vs] } } := I4.kept (t' := s4.toks) fun b ob q => Heap.get?_push_of_some _ q
  obtain ⟨its, r, ht, hz⟩ := I5.tuple hx
  have hlen := r.length
  show wpAny (model X.prog X.w) X.A (subscriptTail e (.Slice none none (some (.UnaryOp .USub (.Constant (.int 1) k p1) p2)) p3) (.ref a) (.ref s4.heap.objs.size)) (EP X pins σ Q) X.xe { s4 with heap := s4.heap.push { cls := .type "slice", data := .fields #[vl, vu, vs] } }
  refine tail_any (ops := [.ref a, .ref s4.heap.objs.size]) ht.typeIs (PyProof.Rows.slot_tuple_getitem.lookup) ?_ (by with_unfolding_all rfl)
  refine getItem_tuple_rev ht (Heap.IsSliceOf.new _ vl vu vs) pl pu ps ?_ (by rw [List.size_toArray]; omega)
  refine ⟨.ref _, _, I5.laid (t' := s4.toks) (o := .tup xs.reverse) (fun b ob q => Heap.get?_push_of_some _ q) (Nat.le_refl _) ?_, rfl, q _ (I5.hok.fresh (Nat.le_refl _))⟩
  exact ⟨by rw [List.length_reverse]; exact hz, _, r.reverse, IsTup.new _ _⟩
def tRevU (K : PySem.W.Frag) (te : TE) : TE := fun σ H Q => tRevL K te σ H Q ∨ tRevT K te σ H Q
theorem pe_revU {e : Expr} {te : TE} {k : Nat} {p1 p2 p3 pos : Pos} (he : PE X e te) : PE X (.Subscript e (.Slice none none (some (.UnaryOp .USub (.Constant (.int 1) k p1) p2)) p3) pos) (tRevU X.K te) :=
  ⟨fun pins s σ H Q I h => h.elim ((pe_revL he).run pins s σ H Q I) ((pe_revT he).run pins s σ H Q I)⟩
/-- x[::-1] -/
def revU : D → Option D
  | .list xs => some (.list xs.reverse)
  | .dict [(.list xs, .none)] => some (.list xs.reverse)
  | .tuple xs => some (.tuple xs.reverse)
  | _ => none
def eRevU (g : GE) (ρ : Rho) : R D := (g ρ).bind fun d ρ1 => R.lift (revU d) ρ1
theorem de_revU {g : GE} (h : DE K te g) : DE K (tRevU K te) (eRevU g) := fun b0 B Z0 Z H σ ρ ds ρ' Q ok e q => by
  obtain ⟨d, ρ1, e1, e⟩ := R.bind_ok e
  obtain ⟨e2, rfl⟩ := R.lift_ok e
  unfold revU at e2
  split at e2
  · cases e2
    refine .inl (h b0 B Z0 Z H σ ρ _ _ _ ok e1 fun v H1 Z1 ok1 s1 r1 => ?_)
    cases r1 with
    | lst hs ra =>
      refine ⟨_, _, rfl, .inl (.inl (ok1.zh _ _ hs)), fun p hp => ?_⟩
      obtain ⟨ok2, s2⟩ := ok1.new (o := .lst _) hp
      exact q (.ref p) _ _ ok2 (s1.trans s2) (.lst upd_same (ra.rev.mono s2))
  · cases e2
    refine .inl (h b0 B Z0 Z H σ ρ _ _ _ ok e1 fun v H1 Z1 ok1 s1 r1 => ?_)
    cases r1 with
    | scr hs ra =>
      refine ⟨_, _, rfl, same_l ok1.zh hs, fun p hp => ?_⟩
      obtain ⟨ok2, s2⟩ := ok1.new (o := .lst _) hp
      exact q (.ref p) _ _ ok2 (s1.trans s2) (.lst upd_same (ra.rev.mono s2))
  · cases e2
    refine .inr (h b0 B Z0 Z H σ ρ _ _ _ ok e1 fun v H1 Z1 ok1 s1 r1 => ?_)
    cases r1 with
    | tup hs ra =>
      refine ⟨_, _, rfl, same_t ok1.zh hs, fun p hp => ?_⟩
      obtain ⟨ok2, s2⟩ := ok1.new (o := .tup _) hp
      exact q (.ref p) _ _ ok2 (s1.trans s2) (.tup (.inl (.inl upd_same)) (ra.rev.mono s2))
  · cases e2
/-! ### xs.pop(i) -/
def ePopAt (i : Nat) (g : GE) (ρ : Rho) : R D := if isOw ρ[i]? then (g ρ).bind fun d ρ1 => match d, ρ1[i]? with
    | .int k, some (.ow ds) => (if -(2 ^ 63) ≤ k ∧ k < 2 ^ 63 then (match seqIndex? k ds.length with
      | some j => (match ds[j]? with
        | some y => .ok y (ρ1.set i (.ow (ds.eraseIdx j)))
        | none => .bad)
      | none => .bad) else .bad)
    | _, _ => .bad
  else .bad
theorem RpA.erase {Z : Hp} : ∀ {vs : List V} {ds : List D} (j : Nat), RpA K Z vs ds → RpA K Z (vs.eraseIdx j) (ds.eraseIdx j)
  | _, _, _, .nil => .nil
  | _, _, 0, .cons h t => t
  | _, _, j + 1, .cons h t => .cons h (RpA.erase j t)
theorem RpA.getD {Z : Hp} : ∀ {vs : List V} {ds : List D} {j : Nat} {d : D}, RpA K Z vs ds → ds[j]? = some d → ∃ v, vs[j]? = some v ∧ Rp K Z v d
  | _, _, 0, _, .cons h t, e => by cases e; exact ⟨_, rfl, h⟩
  | _, _, j + 1, _, .cons h t, e => RpA.getD (j := j) t e
theorem de_popAt {i : Nat} {g : GE} (h : DE K te g) : DE K (tBM K "list" rPopAt (tVar i) (tCons te tNil)) (ePopAt i g) := fun b0 B Z0 Z H σ ρ d ρ' Q ok e q => by
  unfold ePopAt at e
  split at e
  · rename_i h0
    obtain ⟨p, vs0, e0, hp0⟩ := ok.isOw h0
    obtain ⟨k, ρ1, e1, e⟩ := R.bind_ok e
    split at e
    · rename_i k ds hi
      split at e
      · rename_i hk
        split at e
        · rename_i j hj
          split at e
          · rename_i y hy
            cases e
            refine ⟨.ref p, e0, .inl ⟨rfl, vs0, .inl (.inl hp0)⟩, ?_⟩
            refine h b0 B Z0 Z H σ ρ _ ρ1 _ ok e1 fun v H1 Z1 ok1 s1 r1 => ?_
            obtain ⟨q', vs, f1, f2, f3, f4, f5⟩ := ok1.ow i ds hi
            rw [e0] at f1
            cases f1
            cases r1
            obtain ⟨v, gv, rv⟩ := f5.getD hy
            exact ⟨p, vs, k, j, v, rfl, rfl, f4, hk.1, hk.2, by rw [f5.length]; exact hj, gv, q v _ Z1 (ok1.rewrite hi e0 (f5.erase j)) s1 rv⟩
          · cases e
        · cases e
      · cases e
    · cases e
  · cases e
end
end DL

/-! DMk: a, b, c = x, y, [..]. -/
namespace DL
open PySem L2
section
variable {K : PySem.W.Frag} {Wx : WX} {ta tb tc : TE} {b0 : Option Addr} {B Z0 Z H : Hp} {σ : L2.St} {ρ : Rho}
theorem apart_put {i : Nat} {v : V} {d : D} {q : Addr} (aq : Apart σ ρ q) : Apart (σ.set i (some v)) (ρ.set i (.sh d)) q := fun j' es hj hqq => by
  rcases set_get hj with ⟨_, z⟩ | ⟨nk, e⟩
  · cases z
  · rw [List.getElem?_set_ne nk] at hqq
    exact aq j' es e hqq
theorem ds_par3f {i j l : Nat} {a b : GE} {c : GF} (ha : DE K ta a) (hb : DE K tb b) (hc : DF K tc c) (hl : l ≠ 0 := by decide) : DS K Wx (tPar3 i j l (tCons ta (tCons tb (tCons tc tNil)))) (sPar3 i j l (nS a) (nS b) (nF c)) := fun b0 B Z0 Z H σ ρ E ok s => by
  obtain ⟨x, ρ1, e1, s⟩ := Sat.to s
  obtain ⟨y, ρ2, e2, s⟩ := Sat.to s
  obtain ⟨z, ρ3, e3, s⟩ := Sat.to s
  obtain ⟨dx, f1, rfl⟩ := R.map_ok e1
  obtain ⟨dy, f2, rfl⟩ := R.map_ok e2
  obtain ⟨dz, f3, rfl⟩ := R.map_ok e3
  refine ha b0 B Z0 Z H σ ρ dx ρ1 _ ok f1 fun v H1 Z1 ok1 s1 r1 => ?_
  refine hb b0 B Z0 Z1 H1 σ ρ1 dy ρ2 _ ok1 f2 fun w H2 Z2 ok2 s2 r2 => ?_
  refine hc b0 B Z0 Z2 H2 σ ρ2 dz ρ3 _ ok2 f3 fun p vs H3 Z3 ok3 s3 zp bp ap hp ra => ?_
  exact ⟨v, w, .ref p, rfl, s _ H3 Z3 (((ok3.put (r1.mono (s2.trans s3))).put (r2.mono s3)).putO zp bp (apart_put (apart_put ap)) hp ra fun _ _ z => absurd z hl)⟩
end
end DL

/-! DMl: repr of any plain value; sizes of what repr shows. -/
namespace DL
open PySem L2
section
variable {X : Cx} {K : PySem.W.Frag}
def rReprU (K : PySem.W.Frag) : List V → Hp → VK → Prop := fun xs H Q => ∃ x d, xs = [x] ∧ Dp K H x d ∧ d.showable = true ∧ d.hasDict = false ∧ d.depth ≤ 30 ∧ d.shown.length ≤ sizeLine ∧ Q (.str d.shown) H
theorem cr_reprU {k : Nat} (gd : X.A.guards = some []) (hr : Room k X.A) : CallR X (.builtin "repr") (rReprU X.K) := by
  intro pins s σ H xs us Q I rx h
  obtain ⟨x, d, rfl, hd, sh, nod, dp, sz, z⟩ := h
  have base : isSq d = true → CallR X (.builtin "repr") (rRepr X.K) → wpAny (model X.prog X.w) X.A (call (.builtin "repr") us) (EP X pins σ Q) X.xe s := fun sq c => c pins s σ H [x] us Q I rx ⟨x, d, rfl, hd, sq, sh, nod, dp, sz, z⟩
  have cr := cr_repr gd hr
  cases rx with
  | cons r rr =>
  cases rr
  cases hd with
  | non =>
    cases (show _ = Value.none from r)
    exact P.repr_of_none ⟨.str _, H, I.tok _, ⟨_, rfl⟩, by simpa only [PyData.shown] using z⟩
  | bl b =>
    cases (show _ = Value.bool b from r)
    exact P.repr_of_bool ⟨.str _, H, I.tok _, ⟨_, rfl⟩, by simpa only [PyData.shown] using z⟩
  | int i =>
    obtain ⟨t, rfl⟩ := r
    exact P.repr_of_int (by simpa [PyData.showable] using sh) ⟨.str _, H, I.tok _, ⟨_, rfl⟩, by simpa only [PyData.shown] using z⟩
  | str x =>
    obtain ⟨t, rfl⟩ := r
    exact P.repr_of_str ⟨.str _, H, I.tok _, ⟨_, rfl⟩, by simpa only [PyData.shown] using z⟩ (by simpa only [PyData.shown] using sz)
  | lst h ra => exact base rfl cr
  | tup h ra => exact base rfl cr
def reprU : List D → Option D
  | [d] => if d.showable = true ∧ d.hasDict = false ∧ d.depth ≤ 30 ∧ d.shown.length ≤ sizeLine then some (.str d.shown) else none
  | _ => none
theorem sn_reprU : SnA K (rReprU K) reprU := fun b0 B Z0 Z H σ ρ xs as c Q ok ha e q => by
  unfold reprU at e
  split at e
  · split at e
    · rename_i hc
      obtain ⟨h2, h3, h4, h5⟩ := hc
      cases e
      cases ha with
      | cons h h' =>
      cases h'
      exact ⟨_, _, rfl, (bd_rp ok.zh h).dp (noD_hd _ h3), h2, h3, h4, h5, q _ H Z ok (Same.refl Z) (.str _)⟩
    · cases e
  · cases e
end
theorem reprU_of {d : D} {h L : Nat} (s : Shw h L d) (hh : h ≤ 30) (hL : L ≤ sizeLine) : reprU [d] = some (.str d.shown) := if_pos ⟨s.sh, s.nd, Nat.le_trans s.dp hh, Nat.le_trans s.ln hL⟩
/-! ### the size of what repr shows -/
mutual
def szZ : D → Nat
  | .list xs => 3 + szZs xs
  | .tuple xs => 3 + szZs xs
  | .none => 5
  | .bool _ => 5
  | .int i => (PyData.int i).shown.length
  | .str x => (PyData.str x).shown.length
  | .dict _ => 0
def szZs : List D → Nat
  | [] => 0
  | x :: xs => szZ x + 2 + szZs xs
end
mutual
def okB (B : Nat) : D → Bool
  | .list xs => okBs B xs
  | .tuple xs => okBs B xs
  | .none => true
  | .bool _ => true
  | .int i => decide (i.natAbs ≤ B)
  | .str _ => true
  | .dict _ => false
def okBs (B : Nat) : List D → Bool
  | [] => true
  | x :: xs => okB B x && okBs B xs
end
theorem okBs_iff {B : Nat} : ∀ {xs : List D}, okBs B xs = true ↔ ∀ x ∈ xs, okB B x = true
  | [] => by simp [okBs]
  | x :: xs => by simp [okBs, okBs_iff (xs := xs)]
theorem szs_append : ∀ xs ys : List D, szZs (xs ++ ys) = szZs xs + szZs ys
  | [], ys => by simp [szZs]
  | x :: xs, ys => by simp only [List.cons_append, szZs, szs_append xs ys]; omega
theorem szs_take : ∀ (xs : List D) (k : Nat), szZs (xs.take k) ≤ szZs xs
  | [], k => by simp [szZs]
  | x :: xs, 0 => by simp [szZs]
  | x :: xs, k + 1 => by
    have := szs_take xs k
    simp only [List.take_succ_cons, szZs]
    omega
theorem szs_drop : ∀ (xs : List D) (k : Nat), szZs (xs.drop k) ≤ szZs xs
  | [], k => by simp [szZs]
  | x :: xs, 0 => by simp
  | x :: xs, k + 1 => by
    have := szs_drop xs k
    simp only [List.drop_succ_cons, szZs]
    omega
theorem szs_set : ∀ (xs : List D) (k : Nat) (x y : D), xs[k]? = some x → szZs (xs.set k y) + szZ x = szZs xs + szZ y
  | [], k, x, y, h => by simp at h
  | z :: xs, 0, x, y, h => by
    cases h
    simp only [List.set_cons_zero, szZs]; omega
  | z :: xs, k + 1, x, y, h => by
    have := szs_set xs k x y (by simpa using h)
    simp only [List.set_cons_succ, szZs]
    omega
theorem szs_mem : ∀ {xs : List D} {x : D}, x ∈ xs → szZ x + 2 ≤ szZs xs
  | y :: xs, x, h => by
    rcases List.mem_cons.mp h with rfl | h
    · simp only [szZs]; omega
    · have := szs_mem h
      simp only [szZs]; omega
theorem szs_rev (xs : List D) : szZs xs.reverse = szZs xs := by
  induction xs with
  | nil => rfl
  | cons x xs ih => rw [List.reverse_cons, szs_append, ih]; simp only [szZs]; omega
theorem szs_len : ∀ xs : List D, 2 * xs.length ≤ szZs xs
  | [] => by simp [szZs]
  | x :: xs => by
    have := szs_len xs
    simp only [List.length_cons, szZs]; omega
theorem szs_le : ∀ {xs : List D} {L : Nat}, (∀ x ∈ xs, szZ x ≤ L) → szZs xs ≤ xs.length * (L + 2)
  | [], L, _ => by simp [szZs]
  | x :: xs, L, h => by
    have := szs_le fun y hy => h y (List.mem_cons_of_mem _ hy)
    have := h x List.mem_cons_self
    simp only [szZs, List.length_cons, Nat.succ_mul]; omega
theorem textFrom_szs : ∀ (xs : List D) (k : Nat) (acc : Str), (∀ x ∈ xs, x.shown.length ≤ szZ x) → (textFrom k acc (PyData.shownAll xs)).length ≤ acc.length + szZs xs
  | [], k, acc, _ => by simp [PyData.shownAll, textFrom, szZs]
  | x :: xs, k, acc, h => by
    have ih := textFrom_szs xs (k + 1) (acc ++ (if k > 0 then ", " else "" : String) ++ x.shown) fun y hy => h y (List.mem_cons_of_mem _ hy)
    have hx := h x List.mem_cons_self
    have e : (acc ++ (if k > 0 then ", " else "" : String) ++ x.shown : Str).length ≤ acc.length + 2 + x.shown.length := by
      rw [Str.length_append, Str.length_append]
      have : (Str.ofString (if k > 0 then ", " else "")).length ≤ 2 := by split <;> decide
      omega
    simp only [PyData.shownAll, szZs]
    show (textFrom (k + 1) _ (PyData.shownAll xs)).length ≤ _
    omega
theorem join_szs : ∀ xs : List D, (∀ x ∈ xs, x.shown.length ≤ szZ x) → (Str.join ", " (PyData.shownAll xs)).length ≤ szZs xs
  | [], _ => by show (Str.ofString "").length ≤ _; exact Nat.le_trans (by decide : _ ≤ 0) (Nat.zero_le _)
  | [x], h => by
    have := h x List.mem_cons_self
    simp only [PyData.shownAll, szZs]; show x.shown.length ≤ _; omega
  | x :: y :: r, h => by
    have ih := join_szs (y :: r) fun z hz => h z (List.mem_cons_of_mem _ hz)
    have hx := h x List.mem_cons_self
    simp only [PyData.shownAll] at ih ⊢
    show (x.shown ++ ", " ++ Str.join ", " (y.shown :: PyData.shownAll r)).length ≤ _
    have e2 : ((", " : String) : Str).length = 2 := rfl
    rw [Str.length_append, Str.length_append, e2]
    simp only [szZs] at ih ⊢
    omega
theorem shown_list {xs : List D} (h : ∀ x ∈ xs, x.shown.length ≤ szZ x) : (PyData.list xs).shown.length ≤ szZ (.list xs) := by
  simp only [PyData.shown, listText, szZ]
  have := textFrom_szs xs 0 "[" h
  rw [Str.length_append]
  have h1 : (Str.ofString "[").length = 1 := by decide
  have h2 : (Str.ofString "]").length = 1 := by decide
  omega
theorem shown_tuple {xs : List D} (h : ∀ x ∈ xs, x.shown.length ≤ szZ x) : (PyData.tuple xs).shown.length ≤ szZ (.tuple xs) := by
  simp only [PyData.shown, tupleText, szZ]
  have := join_szs xs h
  rw [Str.length_append, Str.length_append]
  have h1 : (Str.ofString "(").length = 1 := by decide
  have h2 : (Str.ofString (if (PyData.shownAll xs).length == 1 then ",)" else ")")).length ≤ 2 := by split <;> decide
  omega
mutual
theorem shown_sz {B : Nat} : ∀ d : D, okB B d = true → d.shown.length ≤ szZ d
  | .none, _ => by simp only [PyData.shown, szZ]; decide
  | .bool b, _ => by simp only [PyData.shown, szZ]; cases b <;> decide
  | .int i, _ => by simp only [szZ]; exact Nat.le_refl _
  | .str x, _ => by simp only [szZ]; exact Nat.le_refl _
  | .list xs, h => shown_list (shown_szs xs (by simpa only [okB] using h))
  | .tuple xs, h => shown_tuple (shown_szs xs (by simpa only [okB] using h))
  | .dict _, h => by simp [okB] at h
theorem shown_szs {B : Nat} : ∀ xs : List D, okBs B xs = true → ∀ x ∈ xs, x.shown.length ≤ szZ x
  | [], _ => fun x h => nomatch h
  | y :: xs, h => fun x hx => by
    have h' : okB B y = true ∧ okBs B xs = true := by simpa [okBs] using h
    rcases List.mem_cons.mp hx with e | hx
    · rw [e]; exact shown_sz y h'.1
    · exact shown_szs xs h'.2 x hx
end
theorem log_B {B n : Nat} (hB : B ≤ 10 ^ 70) (h : n ≤ B) : n.log2 < 1920 := by
  by_cases h0 : n = 0
  · subst h0; decide
  · exact Nat.lt_of_lt_of_le ((Nat.log2_lt h0).mpr (Nat.lt_of_le_of_lt (Nat.le_trans h hB) (by decide : 10 ^ 70 < 2 ^ 300))) (by decide)
mutual
theorem ok_sh {B : Nat} (hB : B ≤ 10 ^ 70) : ∀ d : D, okB B d = true → d.showable = true ∧ d.hasDict = false
  | .none, _ => by simp [PyData.showable, PyData.hasDict]
  | .bool b, _ => by simp [PyData.showable, PyData.hasDict]
  | .int i, h => by
    have h' : i.natAbs ≤ B := by simpa [okB] using h
    simpa [PyData.showable, PyData.hasDict] using log_B hB h'
  | .str x, _ => by simp [PyData.showable, PyData.hasDict]
  | .list xs, h => by simpa [PyData.showable, PyData.hasDict] using ok_shs hB xs (by simpa only [okB] using h)
  | .tuple xs, h => by simpa [PyData.showable, PyData.hasDict] using ok_shs hB xs (by simpa only [okB] using h)
  | .dict _, h => by simp [okB] at h
theorem ok_shs {B : Nat} (hB : B ≤ 10 ^ 70) : ∀ xs : List D, okBs B xs = true → PyData.showableAll xs = true ∧ PyData.hasDictAll xs = false
  | [], _ => by simp [PyData.showableAll, PyData.hasDictAll]
  | y :: xs, h => by
    have h' : okB B y = true ∧ okBs B xs = true := by simpa [okBs] using h
    have a := ok_sh hB y h'.1
    have b := ok_shs hB xs h'.2
    simp [PyData.showableAll, PyData.hasDictAll, a.1, a.2, b.1, b.2]
end
theorem depthAll_iff {n : Nat} : ∀ {xs : List D}, PyData.depthAll xs ≤ n ↔ ∀ x ∈ xs, x.depth ≤ n
  | [] => by simp [PyData.depthAll]
  | x :: xs => by
    have := depthAll_iff (n := n) (xs := xs)
    simp only [PyData.depthAll, List.mem_cons, forall_eq_or_imp, ← this]
    omega
/-- a plain value: whole numbers up to B, depth up to n, size up to L -/
structure Vv (B n L : Nat) (d : D) : Prop where
  ok : okB B d = true
  dp : d.depth ≤ n
  sz : szZ d ≤ L
theorem Vv.mono {B n L B' n' L' : Nat} {d : D} (v : Vv B n L d) (b : ∀ d, okB B d = true → okB B' d = true) (hn : n ≤ n') (hL : L ≤ L') : Vv B' n' L' d := ⟨b d v.ok, Nat.le_trans v.dp hn, Nat.le_trans v.sz hL⟩
mutual
theorem okB_mono {B B' : Nat} (h : B ≤ B') : ∀ d : D, okB B d = true → okB B' d = true
  | .none, _ => rfl
  | .bool b, _ => rfl
  | .int i, e => by simp only [okB, decide_eq_true_eq] at e ⊢; omega
  | .str x, _ => rfl
  | .list xs, e => by simp only [okB] at e ⊢; exact okBs_mono h xs e
  | .tuple xs, e => by simp only [okB] at e ⊢; exact okBs_mono h xs e
  | .dict _, e => by simp [okB] at e
theorem okBs_mono {B B' : Nat} (h : B ≤ B') : ∀ xs : List D, okBs B xs = true → okBs B' xs = true
  | [], _ => rfl
  | x :: xs, e => by
    simp only [okBs, Bool.and_eq_true] at e ⊢
    exact ⟨okB_mono h x e.1, okBs_mono h xs e.2⟩
end
theorem Vv.repr {B n L : Nat} {d : D} (v : Vv B n L d) (hB : B ≤ 10 ^ 70) (hn : n ≤ 30) (hL : L ≤ sizeLine) : reprU [d] = some (.str d.shown) := by
  have a := ok_sh hB d v.ok
  exact if_pos ⟨a.1, a.2, Nat.le_trans v.dp hn, Nat.le_trans (shown_sz d v.ok) (Nat.le_trans v.sz hL)⟩
theorem vv_list {B n L : Nat} {xs : List D} : Vv B (n + 1) L (.list xs) ↔ (∀ x ∈ xs, okB B x = true ∧ x.depth ≤ n) ∧ 3 + szZs xs ≤ L := by
  constructor
  · intro ⟨a, b, c⟩
    simp only [okB, PyData.depth, szZ] at a b c
    exact ⟨fun x hx => ⟨okBs_iff.mp a x hx, depthAll_iff.mp (by omega) x hx⟩, c⟩
  · intro ⟨a, c⟩
    have := depthAll_iff.mpr fun x hx => (a x hx).2
    exact ⟨by simp only [okB]; exact okBs_iff.mpr fun x hx => (a x hx).1, by simp only [PyData.depth]; omega, by simp only [szZ]; exact c⟩
theorem vv_tuple {B n L : Nat} {xs : List D} : Vv B (n + 1) L (.tuple xs) ↔ (∀ x ∈ xs, okB B x = true ∧ x.depth ≤ n) ∧ 3 + szZs xs ≤ L := by
  constructor
  · intro ⟨a, b, c⟩
    simp only [okB, PyData.depth, szZ] at a b c
    exact ⟨fun x hx => ⟨okBs_iff.mp a x hx, depthAll_iff.mp (by omega) x hx⟩, c⟩
  · intro ⟨a, c⟩
    have := depthAll_iff.mpr fun x hx => (a x hx).2
    exact ⟨by simp only [okB]; exact okBs_iff.mpr fun x hx => (a x hx).1, by simp only [PyData.depth]; omega, by simp only [szZ]; exact c⟩
end DL

/-! DMm: sorted(set(xs)), xs a list of whole numbers. The walk of set(list) follows the kit's for a tuple (HandS.SetFor). -/
namespace DLS
open PySem PySem.Spec PyProof.Rows L2
section
variable {P : Program} {w : World} {A : Around} {E : Value → Shared → Prop} {s : Shared}
theorem set_listI {l : Addr} {items : Array Value} (ns : List Int) {Q : Value → Shared → Prop} (hh : A.handled = none) (hl : s.heap.IsList l items) (hit : IntsAre items.toList ns) (hb : ns.length + 1 < scanBound)
    (h : ∀ (h' : Heap) (tk c : Nat), SetR w h' s.heap.objs.size (fun j => decide (j ∈ ns)) c → c ≤ ns.length → (∀ b o, s.heap.get? b = some o → h'.get? b = some o) → Q (.ref s.heap.objs.size) { s with heap := h', toks := tk }) :
    wpAny (model P w) A (call (.type "set") [.ref l]) Q E s := by
  have hisz : items.size = ns.length := by
    have q := IntsAre.length hit
    rw [Array.length_toList] at q
    exact q
  obtain ⟨c, tl, hmro⟩ := F.called_set.mro
  have hmade := F.called_set.made
  have hsub := F.called_set.sub
  refine wpAny_call (codeAny_of_tree ?_)
  show wpAny _ _ (callAny (.type "set") _) _ _ _
  refine wpAny_pure ⟨Code.quiet_builtin _ (by decide +kernel), codeAny_builtin F.entry_type_call ?_⟩
  rw [Around.under_plain (weight_type_call_type "set" [.ref l] []) rfl]
  have h1 := F.called_set.notType
  have h2 := F.called_set.canCreate
  have hct := F.typeCall_set_1 (.ref l)
  repeat (any_goals (first | assumption | wp_step))

  refine codeAny_mono (code_set_led1 (.ref l) (E := E) (Q₁ := fun obj s₁ => obj = .ref s.heap.objs.size ∧ s₁ = { s with heap := s.heap.push { cls := .type "set", dict := none, data := .set #[] 0 (.fresh 0 0 (!w.params.followText "set-order")) } }) ⟨rfl, rfl⟩) fun r s₁ hr => ?_
  cases r with
  | error e => exact hr
  | ok fl =>
    cases fl with
    | ret obj =>
      obtain ⟨rfl, rfl⟩ := hr
      have hS : (s.heap.push { cls := .type "set", dict := none, data := .set #[] 0 (.fresh 0 0 (!w.params.followText "set-order")) }).get? s.heap.objs.size = some { cls := .type "set", dict := none, data := .set #[] 0 (.fresh 0 0 (!w.params.followText "set-order")) } := Heap.get?_push_size _ rfl
      have hT : Shared.TypeIs { s with heap := s.heap.push { cls := .type "set", dict := none, data := .set #[] 0 (.fresh 0 0 (!w.params.followText "set-order")) } } (.ref s.heap.objs.size) "set" := ⟨_, hS, rfl⟩
      have hli := F.called_set.init.lookup
      have hbi := F.called_set.init.bind (.ref s.heap.objs.size)
      repeat (any_goals (first | assumption | wp_step))

      refine codeAny_mono (codeAny_call_builtin (R := wants (fun r s₂ => r = .none ∧ ∃ h' tk c, s₂ = { s with heap := h', toks := tk } ∧ SetR w h' s.heap.objs.size (fun j => decide (j ∈ ns)) c ∧ c ≤ ns.length ∧
          (∀ b o, s.heap.get? b = some o → h'.get? b = some o)) E) F.called_set.init.plain F.entry_set_init (check_set_init_1 hT ?_)) fun r₂ s₂ hr₂ => ?_
      · obtain ⟨ol, hol, hcl, nl, hdl⟩ := hl
        obtain ⟨ocls, odict, odata, oslots⟩ := ol
        simp only at hcl hdl
        subst hcl; subst hdl
        have hol' : (s.heap.push { cls := .type "set", dict := none, data := .set #[] 0 (.fresh 0 0 (!w.params.followText "set-order")) }).get? l = some { cls := .type "list", dict := odict, data := .seq items nl, slots := oslots } := Heap.get?_push_of_some _ hol
        have hsls := F.sub_list_set
        have hslf := F.sub_list_frozenset
        have hne : (Value.type "list" == Value.type "dict") = false := by decide
        have hl1 : (s.heap.push { cls := .type "set", dict := none, data := .set #[] 0 (.fresh 0 0 (!w.params.followText "set-order")) }).IsList l items := ⟨_, hol', rfl, nl, rfl⟩
        unfold Builtin.«set.__init__» noKeywords Builtin.Frozenset.updateFrom
        generalize hPI : pyIter = PI
        wp_walk
        subst hPI

        refine wpAny_pyIter_list hl1 ?_
        refine wpAny_bind (wpAny_runValue ?_)
        have hlS : l < s.heap.objs.size := Heap.lt_size hol
        have hh3 : A.in1.in1.in1.handled = none := by simp [hh]
        have hz1 : (s.heap.push { cls := .type "set", dict := none, data := .set #[] 0 (.fresh 0 0 (!w.params.followText "set-order")) }).objs.size = s.heap.objs.size + 1 := Heap.size_push ..
        have hneI : l ≠ (s.heap.push { cls := .type "set", dict := none, data := .set #[] 0 (.fresh 0 0 (!w.params.followText "set-order")) }).objs.size := by
          rw [Heap.size_push]; exact Nat.ne_of_lt (Nat.lt_succ_of_lt hlS)
        have hSf : s.heap.objs.size ∉ [(s.heap.push { cls := .type "set", dict := none, data := .set #[] 0 (.fresh 0 0 (!w.params.followText "set-order")) }).objs.size, l] := by
          rw [Heap.size_push]; simp only [List.mem_cons, List.mem_singleton, List.not_mem_nil, or_false, not_or]
          exact ⟨Nat.ne_of_lt (Nat.lt_succ_self _), Nat.ne_of_gt hlS⟩
        have hval : ∀ (i : Nat) (v : Value), items[i]? = some v → ∃ k t, ns[i]? = some k ∧ v = .int k t := fun i v hv => by
          have hi : i < ns.length := by rw [← hisz]; exact (Array.getElem?_eq_some_iff.mp hv).1
          obtain ⟨t, e⟩ := PyProof.Rows.IntsAre.int_at hit i v (by rw [Array.getElem?_toList]; exact hv)
          refine ⟨ns[i], t, List.getElem?_eq_getElem hi, ?_⟩
          rw [e, List.getD_eq_getElem?_getD, List.getElem?_eq_getElem hi] <;> rfl
        refine set_update_ints ((Walks.list hh3 _ l hneI items).toS) s.heap.objs.size
          hSf ns hisz hb hval (items.size - 0) 0 _ (by omega) (Nat.zero_le _)
          ⟨⟨_, Heap.get?_push_size _ rfl, rfl, rfl⟩, (hl1.push _)⟩ ?hS0 ?hR
        case hS0 =>
          have hget : ((s.heap.push { cls := .type "set", dict := none, data := .set #[] 0 (.fresh 0 0 (!w.params.followText "set-order")) }).push { cls := .type "list_iterator", data := .fields #[.ref l, .int 0 0] }).get? s.heap.objs.size
              = some { cls := .type "set", dict := none, data := .set #[] 0 (.fresh 0 0 (!w.params.followText "set-order")) } := Heap.get?_push_of_some _ hS
          exact ⟨0, Nat.le_refl 0, setR_new_at hget⟩
        case hR =>
          intro s' c' hm hc' hS'
          obtain ⟨h', g2, d', tk', os'⟩ := s'
          have eg : g2 = s.gens := hm.gens
          have ed : d' = s.drawn := hm.drawn
          have eo : os' = s.os := hm.os
          subst eg; subst ed; subst eo
          show wpAny _ _ _ _ _ _
          refine wpAny_pure ?_
          show wpAny _ _ (ret Value.none) _ _ _
          rw [hisz] at hc'
          refine wpAny_pure ⟨rfl, h', tk', c', rfl, hS', hc', fun b o e => ?_⟩
          have hb0 : b < s.heap.objs.size := Heap.lt_size e
          have hb1 : b ≠ s.heap.objs.size := Nat.ne_of_lt hb0
          have hb2 : b ≠ (s.heap.push { cls := .type "set", dict := none, data := .set #[] 0 (.fresh 0 0 (!w.params.followText "set-order")) }).objs.size := by
            rw [Heap.size_push]; exact Nat.ne_of_lt (Nat.lt_succ_of_lt hb0)
          exact hm.heap b o (by simp only [List.mem_cons, List.mem_singleton, List.not_mem_nil, or_false, not_or]; exact ⟨hb1, hb2⟩) (Heap.get?_push_of_some _ (Heap.get?_push_of_some _ e))

      · cases r₂ with
        | error e => exact hr₂
        | ok fl₂ =>
          cases fl₂ with
          | ret r =>
            obtain ⟨rfl, h', tk, c', rfl, hS', hc', hk'⟩ := hr₂
            repeat (any_goals (first | assumption | wp_step))
            exact h _ _ _ hS' hc' hk'
          | _ => exact hr₂.elim
    | _ => exact hr.elim

end
end DLS

/-! DMn: sorted(set(xs)) as a rule and over data. -/
namespace DL
open PySem PySem.Spec PyProof.Rows L2
def insU (k : Int) : List Int → List Int
  | [] => [k]
  | x :: xs => if k < x then k :: x :: xs else if k = x then x :: xs else x :: insU k xs
def srtU (ns : List Int) : List Int := ns.foldr insU []
theorem mem_insU {k j : Int} : ∀ {xs : List Int}, j ∈ insU k xs ↔ j = k ∨ j ∈ xs
  | [] => by simp [insU]
  | x :: xs => by
    have ih := mem_insU (k := k) (j := j) (xs := xs)
    unfold insU
    split
    · simp
    · split
      · rename_i h; subst h; simp
      · simp only [List.mem_cons, ih]
        constructor
        · rintro (h | h | h)
          · exact .inr (.inl h)
          · exact .inl h
          · exact .inr (.inr h)
        · rintro (h | h | h)
          · exact .inr (.inl h)
          · exact .inl h
          · exact .inr (.inr h)
theorem asc_insU {k : Int} : ∀ {xs : List Int}, xs.Pairwise (· < ·) → (insU k xs).Pairwise (· < ·)
  | [], _ => by simp [insU]
  | x :: xs, h => by
    obtain ⟨h1, h2⟩ := List.pairwise_cons.mp h
    unfold insU
    split
    · rename_i hk
      refine List.pairwise_cons.mpr ⟨fun y hy => ?_, h⟩
      rcases List.mem_cons.mp hy with e | hy
      · rw [e]; exact hk
      · exact Int.lt_trans hk (h1 y hy)
    · split
      · exact h
      · rename_i h3 h4
        refine List.pairwise_cons.mpr ⟨fun y hy => ?_, asc_insU h2⟩
        rcases mem_insU.mp hy with e | hy
        · rw [e]; omega
        · exact h1 y hy
theorem mem_srtU {j : Int} : ∀ {ns : List Int}, j ∈ srtU ns ↔ j ∈ ns
  | [] => by simp [srtU]
  | n :: ns => by
    show j ∈ insU n (srtU ns) ↔ _
    rw [mem_insU, mem_srtU, List.mem_cons]
theorem asc_srtU : ∀ {ns : List Int}, (srtU ns).Pairwise (· < ·)
  | [] => by simp [srtU]
  | n :: ns => asc_insU (asc_srtU (ns := ns))
/-- there is just one ascending list with these members -/
theorem asc_unique : ∀ {xs ys : List Int}, xs.Pairwise (· < ·) → ys.Pairwise (· < ·) → (∀ k, k ∈ xs ↔ k ∈ ys) → xs = ys
  | [], [], _, _, _ => rfl
  | [], y :: ys, _, _, h => absurd ((h y).mpr List.mem_cons_self) (by simp)
  | x :: xs, [], _, _, h => absurd ((h x).mp List.mem_cons_self) (by simp)
  | x :: xs, y :: ys, hx, hy, h => by
    obtain ⟨x1, x2⟩ := List.pairwise_cons.mp hx
    obtain ⟨y1, y2⟩ := List.pairwise_cons.mp hy
    have e : x = y := by
      rcases List.mem_cons.mp ((h x).mp List.mem_cons_self) with e | e
      · exact e
      · rcases List.mem_cons.mp ((h y).mpr List.mem_cons_self) with e' | e'
        · exact e'.symm
        · have := y1 x e
          have := x1 y e'
          omega
    subst e
    rw [asc_unique x2 y2 fun k => ?_]
    constructor
    · intro hk
      rcases List.mem_cons.mp ((h k).mp (List.mem_cons_of_mem _ hk)) with e | e
      · have := x1 k hk
        omega
      · exact e
    · intro hk
      rcases List.mem_cons.mp ((h k).mpr (List.mem_cons_of_mem _ hk)) with e | e
      · have := y1 k hk
        omega
      · exact e
section
variable {X : Cx} {K : PySem.W.Frag} {te : TE} {a : Expr}
def tSrtSet (K : PySem.W.Frag) (te : TE) : TE := fun σ H Q => te σ H fun x H1 => ∃ l ns, x = .ref l ∧ SqL K H1 l (ns.map V.int) ∧ ns.length < 64 ∧ ∀ p, H1 p = none → Q (.ref p) (upd H1 p (.lst ((srtU ns).map V.int)))
theorem pe_srtSet {p p2 q pos : Pos} (hg : Gl X "sorted") (hm : X.mg "sorted" = none) (hg2 : Gl X "set") (hm2 : X.mg "set" = none) (ha : PE X a te) (hc : X.calm = true := by rfl)
    (hbt : bootBuiltins "sorted" = some (.builtin "sorted") := by decide +kernel) (na : starEach [a] X.env = (false, eval a X.env) :: starEach [] X.env := by rfl) : PE X (.Call (.Name "sorted" p) [.Call (.Name "set" p2) [a] [] q] [] pos) (tSrtSet X.K te) := by
  refine ⟨fun pins s σ H Q I h => ?_⟩
  refine Call_ (ld_blt I hg hm hbt ?_)
  refine PyProof.Rows.callWith_builtin1 (PyProof.Rows.args_cons ?_ rfl) rfl rfl
  refine Call_ (ld_blt I hg2 hm2 boot_set ?_)
  refine PyProof.Rows.callWith_type1 (PyProof.Rows.args_cons (thn (ha.run pins s σ H _ I h) fun v s1 ⟨x, H1, I1, r1, q1⟩ => PyProof.Rows.args_nil ?_) na) na rfl
  obtain ⟨l, ns, rfl, hq, hl, q1⟩ := q1
  cases r1
  obtain ⟨its, r, pl, hz⟩ := I1.list hq
  refine DLS.set_listI ns (I1.ok.hd hc) pl.isList (by simpa using RZ.intsAre_vals r) (by unfold scanBound; omega) fun h' tk c hS hcn hk => ?_
  refine PyProof.Rows.args_nil ?_
  have I2 : L2.Inv X pins σ H1 { s1 with heap := h', toks := tk } := I1.kept hk
  refine sorted_set hS (I1.ok.hd hc) (by omega) fun s' p out c' ms k g o hp hg' hi hs hm' hl' => ?_
  have em : ms = srtU ns := asc_unique hs asc_srtU fun j => by rw [hm' j, mem_srtU]; simp
  subst em
  have hlen : ((srtU ns).map V.int).length ≤ sizeLine := by rw [List.length_map, hl', sizeLine_eq]; omega
  have hn : H1 p = none := I2.hok.fresh hp
  generalize hs2 : ({ s1 with heap := h', toks := tk } : Shared) = s2 at *
  have J : L2.Inv X pins σ (upd H1 p (.lst ((srtU ns).map V.int))) { s2 with heap := s'.heap, gens := s'.gens, drawn := s'.drawn, toks := s'.toks } :=
    I2.call (ch := []) (Un.laid k hp hn) (I2.hok.laid k hp ⟨hlen, out.toList, c', vals_of_ints hi, hg'⟩) (by rw [g]; exact I2.bare) (fun _ z => nomatch z)
  have e : s' = { s2 with heap := s'.heap, gens := s'.gens, drawn := s'.drawn, toks := s'.toks } := by
    cases s'
    cases s2
    cases o
    rfl
  rw [e]
  exact ⟨.ref p, _, J, rfl, q1 p hn⟩
/-- sorted(set(xs)) -/
def eSrtSet (g : GE) (ρ : Rho) : R (List D) := (g ρ).bind fun d ρ1 => match d with
  | .list ds => (match intsOf ds with
    | some ns => if ns.length < 64 then .ok ((srtU ns).map .int) ρ1 else .bad
    | none => .bad)
  | _ => .bad
theorem df_srtSet {g : GE} (h : DE K te g) : DF K (tSrtSet K te) (eSrtSet g) := fun b0 B Z0 Z H σ ρ ds ρ' Q ok e q => by
  obtain ⟨d, ρ1, e1, e⟩ := R.bind_ok e
  split at e
  · split at e
    · rename_i ds' ns hn
      split at e
      · rename_i hl
        cases e
        refine h b0 B Z0 Z H σ ρ _ _ _ ok e1 fun v H1 Z1 ok1 s1 r1 => ?_
        rw [intsOf_eq hn] at r1
        cases r1 with
        | lst hs ra =>
          rw [RpA.of_ints ra] at hs
          refine ⟨_, ns, rfl, .inl (.inl (ok1.zh _ _ hs)), hl, fun p hp => ?_⟩
          obtain ⟨okf, zf, bf, af⟩ := ok1.fresh (o := .lst _) hp
          exact q p _ _ Z1 okf s1 zf bf af upd_same (RpA.ints _)
      · cases e
    · cases e
  · cases e
end
end DL

/-! DMo: x *= e of ints. -/
namespace DL
open PySem L2
section
variable {X : Cx} {K : PySem.W.Frag}
theorem ip_mulU : PIp X .Mult (rI CMul fun i j => .int (i * j)) := fun pins s σ H x y v u Q I r1 r2 h => iop_mul pins s σ H x y v u Q I r1 r2 h
def iMul : D → D → Option D
  | .int i, .int j => if CMul i j then some (.int (i * j)) else none
  | _, _ => none
theorem sn_ipMul : SnIp K (rI CMul fun i j => .int (i * j)) iMul := fun b0 B Z0 Z H σ ρ x y a b c Q ok ra rb e q => by
  unfold iMul at e
  split at e
  · split at e
    · rename_i hc
      cases e; cases ra; cases rb
      exact ⟨_, _, rfl, rfl, hc, q _ H Z ok (Same.refl Z) (.int _)⟩
    · cases e
  · cases e
end
end DL

/-! DMp: a, b = a new list of two. -/
namespace DL
open PySem L2
section
variable {K : PySem.W.Frag} {ws : List Nat}
def gL (n : Nat) (g : List D → Rho → Option Rho) (d : D) (ρ : Rho) : Option Rho := match d with
  | .list ds => if ds.length = n then g ds ρ else none
  | _ => none
theorem dg_lst {n : Nat} {u : TGs} {g : List D → Rho → Option Rho} (h : DGs K ws u g) : DG K ws (gLst K n u) (gL n g) := fun b0 B Z0 Z H σ ρ v d ρ' Q ok r e q => by
  unfold gL at e
  split at e
  · split at e
    · cases r with
      | lst hs ra => exact ⟨_, _, rfl, .inl (.inl (ok.zh _ _ hs)), by rw [ra.length]; assumption, h b0 B Z0 Z H σ ρ _ _ ρ' Q ok ra e q⟩
    · cases e
  · cases e
end
end DL

/-! DMq: xs.count(True) of bools. -/
namespace DL
open PySem PySem.Spec PyProof.Rows L2
def eqb (k : Bool) (v : Value) : Bool := match v with
  | .bool n => n == k
  | _ => false
section
variable {X : Cx} {K : PySem.W.Frag} {te ta : TE}
theorem eqb_count {k : Bool} : ∀ {us : List Value} {ns : List Bool}, us = ns.map Value.bool → us.countP (eqb k) = ns.count k
  | _, [], rfl => rfl
  | _, n :: ns, rfl => by
    have ih := eqb_count (k := k) (ns := ns) rfl
    rw [List.map_cons, List.countP_cons, List.count_cons, ih] <;> rfl
theorem bools_vals : ∀ {us : List Value} {ns : List Bool}, Vals (ns.map V.bl) us → us = ns.map Value.bool
  | _, [], .nil => rfl
  | _, n :: ns, .cons r t => by
    cases r
    rw [List.map_cons, ← bools_vals t]
def rCntB (K : PySem.W.Frag) : V → List V → Hp → VK → Prop := fun x xs H Q => ∃ (p : Addr) (ns : List Bool) (k : Bool), x = .ref p ∧ xs = [.bl k] ∧ SqL K H p (ns.map V.bl) ∧ Q (.int (ns.count k : Nat)) H
theorem mt_lcountB : MtR X "list.count" (rCntB X.K) := by
  intro pins s σ H x xs v us Q I rx rxs h
  obtain ⟨p, ns, k, rfl, rfl, hs, q⟩ := h
  cases rx
  obtain ⟨u, rfl, ru⟩ := rxs.one
  cases ru
  obtain ⟨its, rv, ⟨⟨cls, dd, data, sl⟩, n, ho, hc, hdn, hd⟩, hlen⟩ := I.list hs
  simp only at hc hd
  subst hc hd
  have hi := bools_vals rv
  refine call_meets PySem.F.slot_list_count ⟨_, ho, rfl⟩ PySem.F.entry_list_count (PySem.F.args_list_count_2 _ _)
    (SeqAt.list_countAt p its.toArray n dd sl (.bool k) (eqb k)) ⟨ho, fun y hy => ?_, ?_⟩
  · have hy : y ∈ its := by simpa using hy
    rw [hi] at hy
    obtain ⟨b, _, rfl⟩ := List.mem_map.mp hy
    exact PySem.SeqAt.EqAt.bool_bool b k
  · have ec : its.toArray.toList.countP (eqb k) = ns.count k := eqb_count hi
    refine ⟨.int (ns.count k : Nat), H, I.tok _, ⟨s.toks, ?_⟩, q⟩
    show Value.int ((its.toArray.toList.countP (eqb k) : Nat) : Int) s.toks = Value.int ((ns.count k : Nat) : Int) s.toks
    rw [ec]
/-- x.count(b) of a list of bools -/
def cntB : D → D → Option D
  | .list ds, .bool k => (boolsOf ds).map fun bs => .int (bs.count k : Nat)
  | _, _ => none
def eCntB (a b : GE) (ρ : Rho) : R D := (a ρ).bind fun x ρ1 => (b ρ1).bind fun y ρ2 => R.lift (cntB x y) ρ2
theorem de_cntB {a b : GE} (ha : DE K ta a) (hb : DE K te b) : DE K (tBM K "list" (rCntB K) ta (tCons te tNil)) (eCntB a b) := fun b0 B Z0 Z H σ ρ d ρ' Q ok e q => by
  obtain ⟨x, ρ1, e1, e⟩ := R.bind_ok e
  obtain ⟨y, ρ2, e2, e⟩ := R.bind_ok e
  obtain ⟨e3, rfl⟩ := R.lift_ok e
  unfold cntB at e3
  split at e3
  · obtain ⟨bs, e4, rfl⟩ := Option.map_eq_some_iff.mp e3
    refine ha b0 B Z0 Z H σ ρ _ _ _ ok e1 fun v H1 Z1 ok1 s1 r1 => ?_
    cases boolsOf_eq e4
    cases r1 with
    | lst hs ra =>
      refine ⟨.inl ⟨rfl, _, .inl (.inl (ok1.zh _ _ hs))⟩, ?_⟩
      refine hb b0 B Z0 Z1 H1 σ ρ1 _ _ _ ok1 e2 fun w H2 Z2 ok2 s2 r2 => ?_
      cases r2
      cases ra.of_bools
      exact ⟨_, bs, _, rfl, rfl, .inl (.inl (ok2.zh _ _ (s2 _ _ hs))), q _ H2 Z2 ok2 (s1.trans s2) (.int _)⟩
  · cases e3
end
end DL

/-! DMr: h = [..]; if not same(h, due): return False; a, b = ..; the tail. -/
namespace DL
open PySem L2
section
variable {K : PySem.W.Frag} {Wx : WX} {ta tb te td : TE} {tt tu : TT} {tas : TA} {t u rest tail : TS} {b0 : Option Addr} {B Bf Z0 Z H : Hp} {σ : L2.St} {ρ : Rho} {p : Addr} {o o' : HO}
def sHeardTA (h : Nat) (gn : Rho → R (List Nw)) (Fs : List D → Option D) (gd : GE) (i j : Nat) (ga gb : GE) (js : List Nat) (m : Rho → Option Rho) (rest : GS) (ρ : Rho) : O := (gn ρ).to fun ns ρ1 => if ns.length ≤ sizeLine ∧ h < ρ1.length ∧ js.length ≤ sizeLine then (gd (ρ1.set h .no)).to fun due ρ2 => match Fs [.list (ns.map Nw.dat), due] with
    | some (.bool true) => if js.all (fun j => isF js.length ns[j]?) then (match ga (ρ2.set h .no) with
      | .ok d ρa => (match gb ρa with
        | .ok e ρb => (match m ((ρb.set i (.sh d)).set j (.sh e)) with | some ρ3 => rest ρ3 | none => .bad)
        | _ => .bad)
      | _ => .bad) else .bad
    | some (.bool false) => .rt (.bool false) (ρ2.set h .no)
    | _ => .bad
  else .bad
theorem ds_heardTA {h i j : Nat} {ga gb : GE} {gn : Rho → R (List Nw)} {Fs : List D → Option D} {gd : GE} {js : List Nat} {m : Rho → Option Rho} {k : GS} {E0 : XK} (hn : DNL K tas gn) (hd : DE K td gd) (hA : DE K ta ga) (hG : DE K tb gb) (hi : i ≠ h) (hj : j ≠ h) (ht : HTail K h js m tail rest) (hr : DS K Wx rest k) :
    DS K Wx (tSeq (tAsg (tLst tas) (gName h)) (tSeq (tIfS (tNot (tB (tCall (spP K 2 Fs) [] E0 (tCons (tVar h) (tCons td tNil))))) (tRet (tC (.bl false))) tNext) (tSeq (tPar i j (tCons ta (tCons tb tNil))) tail))) (sHeardTA h gn Fs gd i j ga gb js m k) := fun b0 B Z0 Z H σ ρ E ok s => by
  unfold sHeardTA at s
  obtain ⟨ns, ρ1, e1, s⟩ := Sat.to s
  refine hn b0 B B Z0 Z H σ ρ ns ρ1 _ (Same.refl B) ok e1 fun vs H1 Z1 Bf1 sb1 ok1 s1 nw => ?_
  split at s
  · rename_i hsz
    obtain ⟨hsz, hh, hlj⟩ := hsz
    refine ⟨by rw [nw.len]; exact hsz, fun a hp => ?_⟩
    obtain ⟨okf, zf, bf, af⟩ := ok1.fresh (o := .lst vs) hp
    have sn : Same Bf1 (upd Bf1 a (.lst vs)) := fun c y ec => by rw [upd_ne (ne_of_none ec bf)]; exact ec
    have ok2 := (okf.frame zf af upd_same).putAny (i := h) (x := some (.ref a))
    have hσ : (σ.set h (some (.ref a)))[h]? = some (some (.ref a)) := List.getElem?_set_self (by rw [ok1.len]; exact hh)
    obtain ⟨due, ρ2, e2, s⟩ := Sat.to s
    refine ⟨.ref a, hσ, ?_⟩
    refine hd b0 _ Z0 Z1 _ _ _ due ρ2 _ ok2 e2 fun vd H3 Z3 ok3 s3 r3 => ?_
    have nw3 := nw.mono s3 sn
    have ha3 : H3 a = some (.lst vs) := ok3.bh _ _ upd_same
    have rpA : RpA K H3 [.ref a, vd] [.list (ns.map Nw.dat), due] := .cons (.lst ha3 (nw3.rp ok3.zh ok3.bh)) (.cons (r3.mono ok3.zh) .nil)
    have fin : ∀ (b : Bool), Fs [.list (ns.map Nw.dat), due] = some (.bool b) → (∀ H4, Same H3 H4 → (tIfS (fun _ H Q => Q (!b) H) (tRet (tC (.bl false))) tNext) { E with nx := tSeq (tPar i j (tCons ta (tCons tb tNil))) tail E } (σ.set h (some (.ref a))) H4) →
        spP K 2 Fs [.ref a, vd] H3 (fun y H1 => ∃ c, y = V.bl c ∧ (if (!c) = true then tRet (tC (.bl false)) { E with nx := tSeq (tPar i j (tCons ta (tCons tb tNil))) tail E } (σ.set h (some (.ref a))) H1 else tNext { E with nx := tSeq (tPar i j (tCons ta (tCons tb tNil))) tail E } (σ.set h (some (.ref a))) H1)) E0 := by
      intro b eb hc
      refine ⟨rfl, H3, _, _, Same.refl H3, rpA, eb, fun v H' Z' hs g r => ?_⟩
      cases r
      exact ⟨b, rfl, hc H' hs⟩
    split at s
    · rename_i eF
      split at s
      · rename_i hjs
        split at s
        · rename_i da ρa eA
          split at s
          · rename_i db ρb eG
            split at s
            · rename_i ρ3 em
              refine fin true eF fun H4 hs => ?_
              have ok5 := (ok3.later hs).forget (i := h)
              refine hA b0 _ Z0 Z3 H4 _ _ da ρa _ ok5 eA fun va H5 Z5 ok6 s6 r6 => ?_
              refine hG b0 _ Z0 Z5 H5 _ ρa db ρb _ ok6 eG fun vb H6 Z6 ok7 s7 r7 => ⟨va, vb, rfl, ?_⟩
              have ok8 := (ok7.put (i := i) (r6.mono s7)).put (i := j) r7
              have hσ6 : (((σ.set h (some (.ref a))).set i (some va)).set j (some vb))[h]? = some (some (.ref a)) := by
                rw [List.getElem?_set_ne hj, List.getElem?_set_ne hi]; exact hσ
              refine ht b0 B _ Z0 Z6 H6 _ _ ρ3 E a vs hσ6 em (fun Bf' H' σ' sb' ok' => hr b0 B Z0 Z6 H' _ _ E (ok'.shrink sb') s) (sb1.trans sn) ok8 upd_same hlj fun j hj => ?_
              have hf := List.all_eq_true.mp hjs j hj
              unfold isF at hf
              split at hf
              · rename_i ds ej
                obtain ⟨q, ws, f1, f2, f3, f4, f5⟩ := nw.get ej
                have nq : q ≠ a := ne_of_none f2 bf
                exact ⟨q, ws, f1, nq, by rw [upd_ne nq]; exact f2, f3, f4, by rw [f5]; exact of_decide_eq_true hf⟩
              · cases hf
            · exact s.elim
          · exact s.elim
        · exact s.elim
      · exact s.elim
    · rename_i eF
      refine fin false eF fun H4 hs => ?_
      exact s (.bl false) _ H4 Z3 ((ok3.later hs).forget.shrink (sb1.trans sn)) (.bl false)
    · exact s.elim
  · exact s.elim
end
theorem heardTA_ok {h i j : Nat} {gn : Rho → R (List Nw)} {Fs : List D → Option D} {gd ga gb : GE} {js : List Nat} {m : Rho → Option Rho} {rest : GS} {ρ ρ1 ρ2 ρ3 ρa ρb : Rho} {ns : List Nw} {due da db : D} {o : O} (h1 : gn ρ = .ok ns ρ1) (h2 : ns.length ≤ sizeLine) (h3 : h < ρ1.length) (h4 : js.length ≤ sizeLine) (h5 : gd (ρ1.set h .no) = .ok due ρ2)
    (h6 : Fs [.list (ns.map Nw.dat), due] = some (.bool true)) (h7 : ∀ j ∈ js, ∃ T, ns[j]? = some (.f T) ∧ T.length + js.length ≤ sizeLine) (ha : ga (ρ2.set h .no) = .ok da ρa) (hk : gb ρa = .ok db ρb) (h8 : m ((ρb.set i (.sh da)).set j (.sh db)) = some ρ3) (h9 : rest ρ3 = o) : sHeardTA h gn Fs gd i j ga gb js m rest ρ = o := by
  have h7 : js.all (fun j => isF js.length ns[j]?) = true := List.all_eq_true.mpr fun j hj => by
    obtain ⟨T, e, z⟩ := h7 j hj
    rw [e]
    exact decide_eq_true z
  unfold sHeardTA
  rw [h1]
  show (if ns.length ≤ sizeLine ∧ h < ρ1.length ∧ js.length ≤ sizeLine then (gd (ρ1.set h .no)).to _ else .bad) = _
  rw [if_pos ⟨h2, h3, h4⟩, h5]
  show (match Fs [.list (ns.map Nw.dat), due] with
    | some (.bool true) => if js.all (fun j => isF js.length ns[j]?) then (match ga (ρ2.set h .no) with | .ok d ρa => (match gb ρa with | .ok e ρb => (match m ((ρb.set i (.sh d)).set j (.sh e)) with | some ρ3 => rest ρ3 | none => .bad) | _ => .bad) | _ => .bad) else .bad
    | some (.bool false) => .rt (.bool false) (ρ2.set h .no)
    | _ => .bad) = _
  rw [h6]
  show (if js.all (fun j => isF js.length ns[j]?) = true then (match ga (ρ2.set h .no) with | .ok d ρa => (match gb ρa with | .ok e ρb => (match m ((ρb.set i (.sh d)).set j (.sh e)) with | some ρ3 => rest ρ3 | none => .bad) | _ => .bad) | _ => .bad) else .bad) = _
  rw [if_pos h7, ha]
  show (match gb ρa with | .ok e ρb => (match m ((ρb.set i (.sh da)).set j (.sh e)) with | some ρ3 => rest ρ3 | none => .bad) | _ => .bad) = _
  rw [hk]
  show (match m ((ρb.set i (.sh da)).set j (.sh db)) with | some ρ3 => rest ρ3 | none => .bad) = _
  rw [h8]
  exact h9
end DL

namespace W
open PySem L2 DL
def perm_1_0 {α : Type} : List α → List α
  | [a, b] => [b, a]
  | x => x
theorem perm_1_0_rel {A C : Type} {rel : A → C → Prop} {zs : List A} {ws : List C} (h : Paired rel zs ws) : Paired rel (perm_1_0 zs) (perm_1_0 ws) := by
  cases h with
  | nil => exact .nil
  | cons h0 r0 =>
    cases r0 with
    | nil => exact .cons h0 (.nil)
    | cons h1 r1 =>
      cases r1 with
      | nil => exact .cons h1 (.cons h0 .nil)
      | cons h2 r2 => exact .cons h0 (.cons h1 (.cons h2 r2))
def topS (i : Nat) : Stmt := PySem.Challenge.pw_middlecall_k05_changed_people_and_parts.main.body.getD i (.Pass ⟨0, 0, 0, 0⟩)
abbrev CsL : List Str := ["OtherPeople", "Barred"]
abbrev UsL : List Str := []
abbrev tl_ValueError : List Value := [.type "ValueError", .type "Exception", .type "BaseException", .type "object"]
abbrev tl_RuntimeError : List Value := [.type "RuntimeError", .type "Exception", .type "BaseException", .type "object"]
abbrev si_OtherPeople : Stmt := inClass (topS 1) 0
theorem sci_OtherPeople : FnScope ["self", "many"] ["self", "many"] (defScope si_OtherPeople) := ⟨rfl, rfl, rfl, by decide +kernel, rfl, by decide +kernel, by decide +kernel⟩
abbrev si_Barred : Stmt := inClass (topS 2) 0
theorem sci_Barred : FnScope ["self", "reason"] ["self", "reason"] (defScope si_Barred) := ⟨rfl, rfl, rfl, by decide +kernel, rfl, by decide +kernel, by decide +kernel⟩
abbrev s__law_box : Stmt := topS 26
abbrev N__law_box : List Str := ["_law_script", "_law_k", "_law_cell"]
theorem sc__law_box : FnScope N__law_box ["_law_script", "_law_k"] (defScope s__law_box) := ⟨rfl, rfl, rfl, by decide +kernel, rfl, by decide +kernel, by decide +kernel⟩
def g__law_box : GS :=
    (sSeq (sSet 2 (eIf (tstE (eOp2 ltD (oE (eV 1)) (oE (eApp lenD (aCons (oE (eV 0)) aNil))))) (eOp2 ixD (oE (eV 0)) (oE (eV 1))) (eC (.int 0))))
    (sRetF (eSeq (aCons (oE (eOp2 mulV (oE (eApp absD (aCons (oE (eV 2)) aNil))) (oE (eApp intD (aCons (oE (eOp2 geD (oE (eApp absD (aCons (oE (eV 2)) aNil))) (oE (eOp2 powD (oE (eC (.int 10))) (oE (eC (.int 18))))))) aNil))))) (aCons (oE (eOp2 addU (oE (eOp2 addU (oE (eOp2 modD (oE (eV 2)) (oE (eC (.int 2305843009213693951))))) (oE (eOp2 mulV (oE (eC (.int 7919))) (oE (eV 1)))))) (oE (eC (.int 65))))) (aCons (oE (eC (.int 0))) aNil))))))
def F__law_box : List D → Option (List D) := callF 2 3 g__law_box
abbrev s__law_cells : Stmt := topS 28
abbrev N__law_cells : List Str := ["_law_script", "_law_most", "_law_cells_here", "_law_k", "_law_cell"]
theorem sc__law_cells : FnScope N__law_cells ["_law_script", "_law_most"] (defScope s__law_cells) := ⟨rfl, rfl, rfl, by decide +kernel, rfl, by decide +kernel, by decide +kernel⟩
def gb__law_cells_1 : GS :=
    (sPutIx 2 (eOp2 modD (oE (eV 3)) (oE (eV 1))) (eOp2 addU (oE (eOp2 ixD (oV 2) (oE (eOp2 modD (oE (eV 3)) (oE (eV 1)))))) (oE (eOp2 mulV (oE (eV 4)) (oE (eOp2 addU (oE (eV 3)) (oE (eC (.int 2)))))))))
def g__law_cells : GS :=
    (sSeq (sSetO 2 (eApp listD (aCons (oE (eSl sliceU (oE (eV 0)) pNo (pSo (eV 1)))) aNil)))
    (sSeq (sFor (eCall enum1D (aCons (oE (eSl sliceU (oE (eV 0)) (pSo (eV 1)) (pSo (eC (.int 63))))) aNil)) (gT 2 (gsCons (gN 3) (gsCons (gN 4) gsNil))) gb__law_cells_1)
    (sFz 2 (sRet (eIf (tstE (eOp2 neW (oE (eV 2)) (oE (eL (eSeq aNil))))) (eV 2) (eL (eSeq (aCons (oE (eC (.int 0))) aNil))))))))
def F__law_cells : List D → Option D := callP 2 5 g__law_cells
abbrev s__law_firsts : Stmt := topS 39
abbrev N__law_firsts : List Str := ["_law_line", "_law_there", "_law_found", "_law_at", "_law_beside", "_law_mate"]
theorem sc__law_firsts : FnScope N__law_firsts ["_law_line", "_law_there"] (defScope s__law_firsts) := ⟨rfl, rfl, rfl, by decide +kernel, rfl, by decide +kernel, by decide +kernel⟩
def ct__law_firsts_1 : GT :=
    (tAndG (tstE (eChain leD ltD (oE (eC (.int 0))) (oE (eV 5)) (oE (eApp lenD (aCons (oE (eV 0)) aNil))))) (tstE (eOp2 eqW (oE (eOp2 ixD (oE (eV 1)) (oE (eV 5)))) (oE (eOp2 ixD (oE (eV 1)) (oE (eV 3)))))))
def ce__law_firsts_2 : GE :=
    (eV 5)
def ct__law_firsts_3 : GT :=
    (tstE (eOp2 eqW (oE (eOp2 ixD (oE (eV 0)) (oE (eV 5)))) (oE (eOp2 ixD (oE (eV 1)) (oE (eV 5))))))
def gb__law_firsts_4 : GS :=
    (sSeq (sSet 4 (eL (eLc [5] (gSeq (eT (eSeq (aCons (oE (eOp2 subD (oE (eV 3)) (oE (eC (.int 1))))) (aCons (oE (eOp2 addU (oE (eV 3)) (oE (eC (.int 1))))) aNil))))) (gN 5) ct__law_firsts_1 ce__law_firsts_2)))
    (sIf (tAndG (tstE (eOp2 neW (oE (eOp2 ixD (oE (eV 0)) (oE (eV 3)))) (oE (eOp2 ixD (oE (eV 1)) (oE (eV 3)))))) (tstE (eOp2 neW (oE (eL (eLc [5] (gSeq (eV 4)) (gN 5) ct__law_firsts_3 ce__law_firsts_2))) (oE (eL (eSeq aNil)))))) (sApp 2 (eV 3))
    sNext))
def g__law_firsts : GS :=
    (sSeq (sSetO 2 (eSeq aNil))
    (sSeq (sFor (eCall rng1 (aCons (oE (eApp lenD (aCons (oE (eV 0)) aNil))) aNil)) (gN 3) gb__law_firsts_4)
    (sRetO 2)))
def F__law_firsts : List D → Option (List D) := callF 2 6 g__law_firsts
abbrev s__law_mid : Stmt := topS 33
abbrev N__law_mid : List Str := ["_law_line", "_law_at"]
theorem sc__law_mid : FnScope N__law_mid ["_law_line", "_law_at"] (defScope s__law_mid) := ⟨rfl, rfl, rfl, by decide +kernel, rfl, by decide +kernel, by decide +kernel⟩
def g__law_mid : GS :=
    (sSeq (sIf (tOrG (tstE (eOp2 eqW (oE (eV 1)) (oE (eC (.int 0))))) (tstE (eOp2 eqW (oE (eV 1)) (oE (eOp2 subD (oE (eApp lenD (aCons (oE (eV 0)) aNil))) (oE (eC (.int 1)))))))) (sRet (eOp2 ixD (oE (eV 0)) (oE (eV 1))))
    sNext)
    (sRet (eOp2 ixD (oE (eL (eApp sortedD (aCons (oE (eSl sliceU (oE (eV 0)) (pSo (eOp2 subD (oE (eV 1)) (oE (eC (.int 1))))) (pSo (eOp2 addU (oE (eV 1)) (oE (eC (.int 2))))))) aNil)))) (oE (eC (.int 1))))))
def F__law_mid : List D → Option D := callP 2 2 g__law_mid
abbrev s__law_call : Stmt := topS 34
abbrev N__law_call : List Str := ["_law_line", "_law_at"]
theorem sc__law_call : FnScope N__law_call ["_law_line", "_law_at"] (defScope s__law_call) := ⟨rfl, rfl, rfl, by decide +kernel, rfl, by decide +kernel, by decide +kernel⟩
def g__law_call : GS :=
    (sRet (eOp2 addU (oE (eOp2 addU (oE (eSl sliceU (oE (eV 0)) pNo (pSo (eV 1)))) (oE (eT (eSeq (aCons (oE (eCall F__law_mid (aCons (oE (eV 0)) (aCons (oE (eV 1)) aNil)))) aNil)))))) (oE (eSl sliceU (oE (eV 0)) (pSo (eOp2 addU (oE (eV 1)) (oE (eC (.int 1))))) pNo))))
def F__law_call : List D → Option D := callP 2 2 g__law_call
abbrev s__law_take : Stmt := topS 27
abbrev N__law_take : List Str := ["_law_box_here", "_law_span", "_law_once", "_law_found"]
theorem sc__law_take : FnScope N__law_take ["_law_box_here", "_law_span"] (defScope s__law_take) := ⟨rfl, rfl, rfl, by decide +kernel, rfl, by decide +kernel, by decide +kernel⟩
def g__law_take (Frec : List D → List D → Option (D × List D)) : GS :=
    (sSeq (sIf (tstE (eOp2 gtD (oE (eOp2 ixD (oV 0) (oE (eC (.int 0))))) (oE (eC (.int 0))))) (sSeq (sSet 3 (eOp2 modD (oE (eOp2 ixD (oV 0) (oE (eC (.int 0))))) (oE (eV 1))))
    (sSeq (sPutIx 0 (eC (.int 0)) (eOp2 fdivD (oE (eOp2 ixD (oV 0) (oE (eC (.int 0))))) (oE (eV 1))))
    (sRet (eV 3))))
    sNext)
    (sSeq (sIf (tstE (eOp2 gtD (oE (eV 1)) (oE (eOp2 powD (oE (eC (.int 10))) (oE (eC (.int 7))))))) (sRet (eOp2 modD (oE (eOp2 addU (oE (eCallB Frec 0 (aCons (oE (eOp2 powD (oE (eC (.int 10))) (oE (eC (.int 7))))) aNil))) (oE (eOp2 mulV (oE (eOp2 powD (oE (eC (.int 10))) (oE (eC (.int 7))))) (oE (eCallB Frec 0 (aCons (oE (eOp2 addU (oE (eOp2 fdivD (oE (eOp2 subD (oE (eV 1)) (oE (eC (.int 1))))) (oE (eOp2 powD (oE (eC (.int 10))) (oE (eC (.int 7))))))) (oE (eC (.int 1))))) aNil))))))) (oE (eV 1))))
    sNext)
    (sSeq (sPutIx 0 (eC (.int 2)) (eOp2 addU (oE (eOp2 ixD (oV 0) (oE (eC (.int 2))))) (oE (eC (.int 1)))))
    (sSeq (sSet 2 (eOp2 modD (oE (eOp2 powD (oE (eOp2 addU (oE (eOp2 ixD (oV 0) (oE (eC (.int 1))))) (oE (eOp2 mulV (oE (eC (.int 39373))) (oE (eOp2 ixD (oV 0) (oE (eC (.int 2))))))))) (oE (eC (.int 5))))) (oE (eC (.int 2147483647)))))
    (sRet (eOp2 modD (oE (eOp2 fdivD (oE (eOp2 modD (oE (eOp2 addU (oE (eOp2 mulV (oE (eV 2)) (oE (eOp2 addU (oE (eOp2 modD (oE (eV 2)) (oE (eC (.int 40009))))) (oE (eC (.int 7))))))) (oE (eOp2 mulV (oE (eOp2 ixD (oV 0) (oE (eC (.int 2))))) (oE (eC (.int 7919))))))) (oE (eC (.int 2147483629))))) (oE (eC (.int 64))))) (oE (eV 1))))))))
def F__law_take : Nat → List D → List D → Option (D × List D)
  | 0 => fun _ _ => none
  | n + 1 => callB 2 4 (g__law_take (F__law_take n))
theorem Fl__law_take : ∀ (n : Nat) b ds d, F__law_take n b ds = some d → ds.length + 1 = 2
  | 0, b, ds, d, h => nomatch h
  | n + 1, b, ds, d, h => callB_len b ds d h
abbrev s__law_strewn : Stmt := topS 30
abbrev N__law_strewn : List Str := ["_law_box_here", "_law_some", "_law_left", "_law_found"]
theorem sc__law_strewn : FnScope N__law_strewn ["_law_box_here", "_law_some"] (defScope s__law_strewn) := ⟨rfl, rfl, rfl, by decide +kernel, rfl, by decide +kernel, by decide +kernel⟩
def wt__law_strewn_1 : GT :=
    (tstE (eOp2 neW (oV 2) (oE (eL (eSeq aNil)))))
def gb__law_strewn_2 : GS :=
    (sApp 3 (ePopAt 2 (eCallB (F__law_take 8) 0 (aCons (oE (eApp lenD (aCons (oV 2) aNil))) aNil))))
def g__law_strewn : GS :=
    (sSeq (sPar 2 3 (nF (eApp listD (aCons (oE (eV 1)) aNil))) (nF (eSeq aNil)))
    (sSeq (whileL wt__law_strewn_1 gb__law_strewn_2 1000)
    (sRetO 3)))
def F__law_strewn : List D → List D → Option (List D × List D) := callBF 2 4 g__law_strewn
abbrev s__law_stroll : Stmt := topS 35
abbrev N__law_stroll : List Str := ["_law_box_here", "_law_line", "_law_most", "_law_tape", "_law_at", "_law_turn"]
theorem sc__law_stroll : FnScope N__law_stroll ["_law_box_here", "_law_line", "_law_most"] (defScope s__law_stroll) := ⟨rfl, rfl, rfl, by decide +kernel, rfl, by decide +kernel, by decide +kernel⟩
def ce__law_stroll_1 : GE :=
    (eCallB (F__law_take 8) 0 (aCons (oE (eApp lenD (aCons (oE (eV 1)) aNil))) aNil))
def gb__law_stroll_2 : GS :=
    (sSet 1 (eCall F__law_call (aCons (oE (eV 1)) (aCons (oE (eV 4)) aNil))))
def g__law_stroll : GS :=
    (sSeq (sSet 3 (eL (eLc [5] (eCall rng1 (aCons (oE (eOp2 mulV (oE (eCallB (F__law_take 8) 0 (aCons (oE (eOp2 addU (oE (eV 2)) (oE (eC (.int 1))))) aNil))) (oE (eApp intD (aCons (oE (eOp2 neW (oE (eV 1)) (oE (eT (eSeq aNil))))) aNil))))) aNil)) (gN 5) gYes ce__law_stroll_1)))
    (sSeq (sFor (gSeq (eV 3)) (gN 4) gb__law_stroll_2)
    (sRet (eT (eSeq (aCons (oE (eV 3)) (aCons (oE (eV 1)) aNil)))))))
def F__law_stroll : List D → List D → Option (D × List D) := callB 3 6 g__law_stroll
abbrev s__law_led : Stmt := topS 38
abbrev N__law_led : List Str := ["_law_box_here", "_law_line", "_law_most", "_law_at"]
theorem sc__law_led : FnScope N__law_led ["_law_box_here", "_law_line", "_law_most"] (defScope s__law_led) := ⟨rfl, rfl, rfl, by decide +kernel, rfl, by decide +kernel, by decide +kernel⟩
def gb__law_led_1 : GS :=
    (sSet 1 (eCall F__law_call (aCons (oE (eV 1)) (aCons (oE (eV 3)) aNil))))
def g__law_led : GS :=
    (sSeq (sIf (tstE (eOp2 eqW (oE (eCallB (F__law_take 8) 0 (aCons (oE (eC (.int 2))) aNil))) (oE (eC (.int 0))))) (sRet (eOp2 ixD (oE (eCallB F__law_stroll 0 (aCons (oE (eV 1)) (aCons (oE (eV 2)) aNil)))) (oE (eC (.int 1)))))
    sNext)
    (sSeq (sFor (gSeq (eL (eCallBF F__law_strewn 0 (aCons (oE (eL (eRg1 (eApp lenD (aCons (oE (eV 1)) aNil))))) aNil)))) (gN 3) gb__law_led_1)
    (sRet (eV 1))))
def F__law_led : List D → List D → Option (D × List D) := callB 3 4 g__law_led
abbrev s__law_of : Stmt := topS 29
abbrev N__law_of : List Str := ["_law_box_here", "_law_some"]
theorem sc__law_of : FnScope N__law_of ["_law_box_here", "_law_some"] (defScope s__law_of) := ⟨rfl, rfl, rfl, by decide +kernel, rfl, by decide +kernel, by decide +kernel⟩
def g__law_of : GS :=
    (sRet (eOp2 ixD (oE (eV 1)) (oE (eCallB (F__law_take 8) 0 (aCons (oE (eApp lenD (aCons (oE (eV 1)) aNil))) aNil)))))
def F__law_of : List D → List D → Option (D × List D) := callB 2 2 g__law_of
abbrev s__law_heaps : Stmt := topS 36
abbrev N__law_heaps : List Str := ["_law_line", "_law_found", "_law_at"]
theorem sc__law_heaps : FnScope N__law_heaps ["_law_line"] (defScope s__law_heaps) := ⟨rfl, rfl, rfl, by decide +kernel, rfl, by decide +kernel, by decide +kernel⟩
def gb__law_heaps_1 : GS :=
    (sIf (tAndG (tstE (eOp2 gtD (oE (eV 2)) (oE (eC (.int 0))))) (tstE (eOp2 eqW (oE (eOp2 ixD (oE (eV 0)) (oE (eV 2)))) (oE (eOp2 ixD (oE (eV 0)) (oE (eOp2 subD (oE (eV 2)) (oE (eC (.int 1)))))))))) (sPutIx 1 (eOp1 negD (oE (eC (.int 1)))) (eT (eSeq (aCons (oE (eOp2 ixD (oE (eOp2 ixD (oV 1) (oE (eOp1 negD (oE (eC (.int 1))))))) (oE (eC (.int 0))))) (aCons (oE (eV 2)) aNil)))))
    (sApp 1 (eT (eSeq (aCons (oE (eV 2)) (aCons (oE (eV 2)) aNil))))))
def g__law_heaps : GS :=
    (sSeq (sSetO 1 (eSeq aNil))
    (sSeq (sFor (eCall rng1 (aCons (oE (eApp lenD (aCons (oE (eV 0)) aNil))) aNil)) (gN 2) gb__law_heaps_1)
    (sRetO 1)))
def F__law_heaps : List D → Option (List D) := callF 1 3 g__law_heaps
abbrev s__law_pieces : Stmt := topS 37
abbrev N__law_pieces : List Str := ["_law_line", "_law_there", "_law_found", "_law_first", "_law_last", "_law_own", "_law_at"]
theorem sc__law_pieces : FnScope N__law_pieces ["_law_line", "_law_there"] (defScope s__law_pieces) := ⟨rfl, rfl, rfl, by decide +kernel, rfl, by decide +kernel, by decide +kernel⟩
def gb__law_pieces_1 : GS :=
    (sIf (tAndG (tstE (eOp2 leD (oE (eV 6)) (oE (eV 4)))) (tstE (eOp2 neW (oE (eOp2 ixD (oE (eV 0)) (oE (eV 6)))) (oE (eOp2 ixD (oE (eV 1)) (oE (eV 6))))))) (sApp 5 (eV 6))
    (sIf (tstE (eOp2 neW (oV 5) (oE (eL (eSeq aNil))))) (sSeq (sApp 2 (eT (eSeq (aCons (oE (eApp tupleD (aCons (oV 5) aNil))) (aCons (oE (eOp2 gtD (oE (eOp2 ixD (oV 5) (oE (eC (.int 0))))) (oE (eV 3)))) (aCons (oE (eOp2 ltD (oE (eOp2 ixD (oV 5) (oE (eOp1 negD (oE (eC (.int 1))))))) (oE (eV 4)))) aNil))))))
    (sSetO 5 (eSeq aNil)))
    sNext))
def gb__law_pieces_2 : GS :=
    (sSeq (sSetO 5 (eSeq aNil))
    (sFor (eCall rng2 (aCons (oE (eV 3)) (aCons (oE (eOp2 addU (oE (eV 4)) (oE (eC (.int 2))))) aNil))) (gN 6) gb__law_pieces_1))
def g__law_pieces : GS :=
    (sSeq (sSetO 2 (eSeq aNil))
    (sSeq (sFor (gSeq (eL (eCall F__law_heaps (aCons (oE (eV 1)) aNil)))) (gT 2 (gsCons (gN 3) (gsCons (gN 4) gsNil))) gb__law_pieces_2)
    (sRetO 2)))
def F__law_pieces : List D → Option (List D) := callF 2 7 g__law_pieces
abbrev s__law_random_line : Stmt := topS 32
abbrev N__law_random_line : List Str := ["_law_box_here", "_law_most", "_law_top", "_law_way", "_law_found", "_law_turn", "_law_spot"]
theorem sc__law_random_line : FnScope N__law_random_line ["_law_box_here", "_law_most", "_law_top"] (defScope s__law_random_line) := ⟨rfl, rfl, rfl, by decide +kernel, rfl, by decide +kernel, by decide +kernel⟩
def gb__law_random_line_1 : GS :=
    (sSeq (sSet 6 (eOp2 subD (oE (eCallB (F__law_take 8) 0 (aCons (oE (eOp2 addU (oE (eOp2 mulV (oE (eC (.int 2))) (oE (eV 2)))) (oE (eC (.int 1))))) aNil))) (oE (eV 2))))
    (sSeq (sIf (tstE (eOp2 ltD (oE (eV 3)) (oE (eC (.int 2))))) (sSet 6 (eOp2 addU (oE (eOp2 mulV (oE (eCallB (F__law_take 8) 0 (aCons (oE (eApp max2D (aCons (oE (eC (.int 2))) (aCons (oE (eV 2)) aNil)))) aNil))) (oE (eOp2 subD (oE (eC (.int 1))) (oE (eOp2 mulV (oE (eC (.int 2))) (oE (eOp2 modD (oE (eV 5)) (oE (eC (.int 2))))))))))) (oE (eV 3))))
    sNext)
    (sSeq (sIf (tAndG (tstE (eOp2 eqW (oE (eV 3)) (oE (eC (.int 2))))) (tAndG (tstE (eOp2 neW (oV 4) (oE (eL (eSeq aNil))))) (tstE (eOp2 eqW (oE (eCallB (F__law_take 8) 0 (aCons (oE (eC (.int 3))) aNil))) (oE (eC (.int 0))))))) (sSet 6 (eOp2 ixD (oV 4) (oE (eCallB (F__law_take 8) 0 (aCons (oE (eApp lenD (aCons (oV 4) aNil))) aNil)))))
    sNext)
    (sApp 4 (eV 6)))))
def g__law_random_line : GS :=
    (sSeq (sPar 3 4 (nS (eCallB (F__law_take 8) 0 (aCons (oE (eC (.int 4))) aNil))) (nF (eSeq aNil)))
    (sSeq (sFor (eCall rng1 (aCons (oE (eCallB (F__law_take 8) 0 (aCons (oE (eOp2 addU (oE (eV 1)) (oE (eC (.int 1))))) aNil))) aNil)) (gN 5) gb__law_random_line_1)
    (sRet (eApp tupleD (aCons (oV 4) aNil)))))
def F__law_random_line : List D → List D → Option (D × List D) := callB 3 7 g__law_random_line
abbrev s__law_same : Stmt := topS 31
abbrev N__law_same : List Str := ["_law_found", "_law_due", "_law_mine", "_law_its"]
theorem sc__law_same : FnScope N__law_same ["_law_found", "_law_due"] (defScope s__law_same) := ⟨rfl, rfl, rfl, by decide +kernel, rfl, by decide +kernel, by decide +kernel⟩
def ce__law_same_1 (Frec : List D → Option D) : GE :=
    (eCall Frec (aCons (oE (eV 2)) (aCons (oE (eV 3)) aNil)))
def g__law_same (Frec : List D → Option D) : GS :=
    (sSeq (sIf (tstE (eOp1 (isiTD ["list", "tuple"]) (oE (eV 1)))) (sSeq (sIf (tOrG (tstE (eOp2 neW (oE (eOp1 (isiD "list") (oE (eV 0)))) (oE (eOp1 (isiD "list") (oE (eV 1)))))) (tstE (eOp2 neW (oE (eOp1 (isiD "tuple") (oE (eV 0)))) (oE (eOp1 (isiD "tuple") (oE (eV 1))))))) (sRet (eC (.bool false)))
    sNext)
    (sRet (eAndG (eOp2 eqW (oE (eApp lenD (aCons (oE (eV 0)) aNil))) (oE (eApp lenD (aCons (oE (eV 1)) aNil)))) (eApp allD (aCons (oE (eL (eLc [2, 3] (eCall zip2D (aCons (oE (eV 0)) (aCons (oE (eV 1)) aNil))) (gT 2 (gsCons (gN 2) (gsCons (gN 3) gsNil))) gYes (ce__law_same_1 Frec)))) aNil)))))
    sNext)
    (sSeq (sIf (tOrG (tstE (eOp2 isD (oE (eV 1)) (oE (eC .none)))) (tstE (eOp1 (isiTD ["str", "bool"]) (oE (eV 1))))) (sRet (eAndG (eOp2 eqW (oE (eV 0)) (oE (eV 1))) (eAndG (eOp2 eqW (oE (eOp1 (isiD "bool") (oE (eV 0)))) (oE (eOp1 (isiD "bool") (oE (eV 1))))) (eOp2 eqW (oE (eOp2 isD (oE (eV 0)) (oE (eC .none)))) (oE (eOp2 isD (oE (eV 1)) (oE (eC .none))))))))
    sNext)
    (sRet (eAndG (eOp1 (isiD "int") (oE (eV 0))) (eAndG (eNotG (eOp1 (isiD "bool") (oE (eV 0)))) (eOp2 eqW (oE (eV 0)) (oE (eV 1))))))))
def F__law_same : Nat → List D → Option D
  | 0 => fun _ => none
  | n + 1 => callP 2 4 (g__law_same (F__law_same n))
theorem Fl__law_same : ∀ (n : Nat) ds d, F__law_same n ds = some d → ds.length = 2
  | 0, ds, d, h => nomatch h
  | n + 1, ds, d, h => callP_len ds d h
abbrev s_look_many : Stmt := topS 12
abbrev N_look_many : List Str := ["one", "other"]
theorem sc_look_many : FnScope N_look_many ["one", "other"] (defScope s_look_many) := ⟨rfl, rfl, rfl, by decide +kernel, rfl, by decide +kernel, by decide +kernel⟩
def g_look_many : GS :=
    (sIf (tstE (eOp2 neW (oE (eApp lenD (aCons (oE (eV 0)) aNil))) (oE (eApp lenD (aCons (oE (eV 1)) aNil))))) (sRaise "OtherPeople" (eApp lenD (aCons (oE (eV 1)) aNil)))
    sNext)
def F_look_many : List D → RX D := callX 2 2 g_look_many
abbrev s_inner : Stmt := topS 4
abbrev N_inner : List Str := ["row"]
theorem sc_inner : FnScope N_inner ["row"] (defScope s_inner) := ⟨rfl, rfl, rfl, by decide +kernel, rfl, by decide +kernel, by decide +kernel⟩
def g_inner : GS :=
    (sRetF (eRg2 (eC (.int 1)) (eOp2 subD (oE (eApp lenD (aCons (oE (eV 0)) aNil))) (oE (eC (.int 1))))))
def F_inner : List D → Option (List D) := callF 1 1 g_inner
abbrev s_dips : Stmt := topS 6
abbrev N_dips : List Str := ["row", "person"]
theorem sc_dips : FnScope N_dips ["row"] (defScope s_dips) := ⟨rfl, rfl, rfl, by decide +kernel, rfl, by decide +kernel, by decide +kernel⟩
def ct_dips_1 : GT :=
    (tstE (eChain gtD ltD (oE (eOp2 ixD (oE (eV 0)) (oE (eOp2 subD (oE (eV 1)) (oE (eC (.int 1))))))) (oE (eOp2 ixD (oE (eV 0)) (oE (eV 1)))) (oE (eOp2 ixD (oE (eV 0)) (oE (eOp2 addU (oE (eV 1)) (oE (eC (.int 1)))))))))
def ce_dips_2 : GE :=
    (eV 1)
def g_dips : GS :=
    (sRetF (eLc [1] (gSeq (eL (eCall F_inner (aCons (oE (eV 0)) aNil)))) (gN 1) ct_dips_1 ce_dips_2))
def F_dips : List D → Option (List D) := callF 1 2 g_dips
abbrev s_tops : Stmt := topS 5
abbrev N_tops : List Str := ["row", "person"]
theorem sc_tops : FnScope N_tops ["row"] (defScope s_tops) := ⟨rfl, rfl, rfl, by decide +kernel, rfl, by decide +kernel, by decide +kernel⟩
def ct_tops_1 : GT :=
    (tstE (eChain ltD gtD (oE (eOp2 ixD (oE (eV 0)) (oE (eOp2 subD (oE (eV 1)) (oE (eC (.int 1))))))) (oE (eOp2 ixD (oE (eV 0)) (oE (eV 1)))) (oE (eOp2 ixD (oE (eV 0)) (oE (eOp2 addU (oE (eV 1)) (oE (eC (.int 1)))))))))
def ce_tops_2 : GE :=
    (eV 1)
def g_tops : GS :=
    (sRetF (eLc [1] (gSeq (eL (eCall F_inner (aCons (oE (eV 0)) aNil)))) (gN 1) ct_tops_1 ce_tops_2))
def F_tops : List D → Option (List D) := callF 1 2 g_tops
abbrev s_wrong_changes : Stmt := topS 13
abbrev N_wrong_changes : List Str := ["one", "other", "high", "low", "found", "person", "mine", "its"]
theorem sc_wrong_changes : FnScope N_wrong_changes ["one", "other"] (defScope s_wrong_changes) := ⟨rfl, rfl, rfl, by decide +kernel, rfl, by decide +kernel, by decide +kernel⟩
def gb_wrong_changes_1 : GS :=
    (sIf (tNotG (tOrG (tstE (eOp2 eqW (oE (eV 6)) (oE (eV 7)))) (tOrG (tAndG (tstE (eOp2 inD (oE (eV 5)) (oE (eV 2)))) (tstE (eOp2 ltD (oE (eV 7)) (oE (eV 6))))) (tAndG (tstE (eOp2 inD (oE (eV 5)) (oE (eV 3)))) (tstE (eOp2 gtD (oE (eV 7)) (oE (eV 6)))))))) (sApp 4 (eV 5))
    sNext)
def g_wrong_changes : GS :=
    (sSeq (sPar3 2 3 4 (nS (eL (eCall F_tops (aCons (oE (eV 0)) aNil)))) (nS (eL (eCall F_dips (aCons (oE (eV 0)) aNil)))) (nF (eSeq aNil)))
    (sSeq (sFor (eCall enumZipD (aCons (oE (eV 0)) (aCons (oE (eV 1)) aNil))) (gT 2 (gsCons (gN 5) (gsCons (gT 2 (gsCons (gN 6) (gsCons (gN 7) gsNil))) gsNil))) gb_wrong_changes_1)
    (sRetO 4)))
def F_wrong_changes : List D → Option (List D) := callF 2 8 g_wrong_changes
abbrev s_wrong_orders : Stmt := topS 14
abbrev N_wrong_orders : List Str := ["one", "other", "found", "person", "mine", "its"]
theorem sc_wrong_orders : FnScope N_wrong_orders ["one", "other"] (defScope s_wrong_orders) := ⟨rfl, rfl, rfl, by decide +kernel, rfl, by decide +kernel, by decide +kernel⟩
def gb_wrong_orders_1 : GS :=
    (sSeq (sPar 4 5 (nS (eOp2 subD (oE (eOp2 ixD (oE (eV 0)) (oE (eOp2 addU (oE (eV 3)) (oE (eC (.int 1))))))) (oE (eOp2 ixD (oE (eV 0)) (oE (eV 3)))))) (nS (eOp2 subD (oE (eOp2 ixD (oE (eV 1)) (oE (eOp2 addU (oE (eV 3)) (oE (eC (.int 1))))))) (oE (eOp2 ixD (oE (eV 1)) (oE (eV 3)))))))
    (sIf (tOrG (tstE (eChain ltD ltD (oE (eV 4)) (oE (eC (.int 0))) (oE (eV 5)))) (tOrG (tstE (eChain gtD gtD (oE (eV 4)) (oE (eC (.int 0))) (oE (eV 5)))) (tstE (eChain eqW neW (oE (eV 4)) (oE (eC (.int 0))) (oE (eV 5)))))) (sApp 2 (eV 3))
    sNext))
def g_wrong_orders : GS :=
    (sSeq (sSetO 2 (eSeq aNil))
    (sSeq (sFor (eCall rng1 (aCons (oE (eOp2 subD (oE (eApp lenD (aCons (oE (eV 0)) aNil))) (oE (eC (.int 1))))) aNil)) (gN 3) gb_wrong_orders_1)
    (sRetO 2)))
def F_wrong_orders : List D → Option (List D) := callF 2 6 g_wrong_orders
abbrev s_runs : Stmt := topS 7
abbrev N_runs : List Str := ["row", "begins", "person", "first", "last"]
theorem sc_runs : FnScope N_runs ["row"] (defScope s_runs) := ⟨rfl, rfl, rfl, by decide +kernel, rfl, by decide +kernel, by decide +kernel⟩
def ct_runs_1 : GT :=
    (tOrG (tstE (eOp2 eqW (oE (eV 2)) (oE (eC (.int 0))))) (tstE (eOp2 neW (oE (eOp2 ixD (oE (eV 0)) (oE (eV 2)))) (oE (eOp2 ixD (oE (eV 0)) (oE (eOp2 subD (oE (eV 2)) (oE (eC (.int 1))))))))))
def ce_runs_2 : GE :=
    (eV 2)
def ce_runs_3 : GE :=
    (eT (eSeq (aCons (oE (eV 3)) (aCons (oE (eOp2 subD (oE (eV 4)) (oE (eC (.int 1))))) aNil))))
def g_runs : GS :=
    (sSeq (sSet 1 (eL (eLc [2] (eCall rng1 (aCons (oE (eApp lenD (aCons (oE (eV 0)) aNil))) aNil)) (gN 2) ct_runs_1 ce_runs_2)))
    (sRetF (eLc [3, 4] (eCall zip2D (aCons (oE (eV 1)) (aCons (oE (eOp2 addU (oE (eSl sliceU (oE (eV 1)) (pSo (eC (.int 1))) pNo)) (oE (eL (eSeq (aCons (oE (eApp lenD (aCons (oE (eV 0)) aNil))) aNil)))))) aNil))) (gT 2 (gsCons (gN 3) (gsCons (gN 4) gsNil))) gYes ce_runs_3)))
def F_runs : List D → Option (List D) := callF 1 5 g_runs
abbrev s_stayed : Stmt := topS 15
abbrev N_stayed : List Str := ["one", "other", "first", "last", "person"]
theorem sc_stayed : FnScope N_stayed ["one", "other", "first", "last"] (defScope s_stayed) := ⟨rfl, rfl, rfl, by decide +kernel, rfl, by decide +kernel, by decide +kernel⟩
def ct_stayed_1 : GT :=
    (tstE (eOp2 eqW (oE (eOp2 ixD (oE (eV 0)) (oE (eV 4)))) (oE (eOp2 ixD (oE (eV 1)) (oE (eV 4))))))
def ce_stayed_2 : GE :=
    (eV 4)
def g_stayed : GS :=
    (sRetF (eLc [4] (eCall rng2 (aCons (oE (eV 2)) (aCons (oE (eOp2 addU (oE (eV 3)) (oE (eC (.int 1))))) aNil))) (gN 4) ct_stayed_1 ce_stayed_2))
def F_stayed : List D → Option (List D) := callF 4 5 g_stayed
abbrev s_wrong_runs : Stmt := topS 16
abbrev N_wrong_runs : List Str := ["one", "other", "first", "last"]
theorem sc_wrong_runs : FnScope N_wrong_runs ["one", "other"] (defScope s_wrong_runs) := ⟨rfl, rfl, rfl, by decide +kernel, rfl, by decide +kernel, by decide +kernel⟩
def ct_wrong_runs_1 : GT :=
    (tstE (eOp2 eqW (oE (eApp lenD (aCons (oE (eL (eCall F_stayed (aCons (oE (eV 0)) (aCons (oE (eV 1)) (aCons (oE (eV 2)) (aCons (oE (eV 3)) aNil))))))) aNil))) (oE (eC (.int 0)))))
def ce_wrong_runs_2 : GE :=
    (eV 2)
def g_wrong_runs : GS :=
    (sRetF (eLc [2, 3] (gSeq (eL (eCall F_runs (aCons (oE (eV 1)) aNil)))) (gT 2 (gsCons (gN 2) (gsCons (gN 3) gsNil))) ct_wrong_runs_1 ce_wrong_runs_2))
def F_wrong_runs : List D → Option (List D) := callF 2 4 g_wrong_runs
abbrev s_bar : Stmt := topS 17
abbrev N_bar : List Str := ["one", "other", "word", "found"]
theorem sc_bar : FnScope N_bar ["one", "other"] (defScope s_bar) := ⟨rfl, rfl, rfl, by decide +kernel, rfl, by decide +kernel, by decide +kernel⟩
def gb_bar_1 : GS :=
    (sIf (tstE (eOp2 gtD (oE (eApp lenD (aCons (oE (eV 3)) aNil))) (oE (eC (.int 0))))) (sRet (eT (eSeq (aCons (oE (eV 2)) (aCons (oE (eOp2 ixD (oE (eV 3)) (oE (eC (.int 0))))) aNil)))))
    sNext)
def g_bar : GS :=
    (sSeq (sDropX (eCallX F_look_many (aCons (oE (eV 0)) (aCons (oE (eV 1)) aNil))))
    (sSeq (sFor (gSeq (eT (eSeq (aCons (oE (eT (eSeq (aCons (oE (eC (.str "change"))) (aCons (oE (eL (eCall F_wrong_changes (aCons (oE (eV 0)) (aCons (oE (eV 1)) aNil))))) aNil))))) (aCons (oE (eT (eSeq (aCons (oE (eC (.str "order"))) (aCons (oE (eL (eCall F_wrong_orders (aCons (oE (eV 0)) (aCons (oE (eV 1)) aNil))))) aNil))))) aNil))))) (gT 2 (gsCons (gN 2) (gsCons (gN 3) gsNil))) gb_bar_1)
    (sSeq (sSet 3 (eL (eCall F_wrong_runs (aCons (oE (eV 0)) (aCons (oE (eV 1)) aNil)))))
    (sRet (eIf (tstE (eOp2 gtD (oE (eApp lenD (aCons (oE (eV 3)) aNil))) (oE (eC (.int 0))))) (eT (eSeq (aCons (oE (eC (.str "run"))) (aCons (oE (eOp2 ixD (oE (eV 3)) (oE (eC (.int 0))))) aNil)))) (eC .none))))))
def F_bar : List D → RX D := callX 2 4 g_bar
abbrev s_look_leads : Stmt := topS 18
abbrev N_look_leads : List Str := ["one", "other", "reason"]
theorem sc_look_leads : FnScope N_look_leads ["one", "other"] (defScope s_look_leads) := ⟨rfl, rfl, rfl, by decide +kernel, rfl, by decide +kernel, by decide +kernel⟩
def g_look_leads : GS :=
    (sSeq (sSetX 2 (eCallX F_bar (aCons (oE (eV 0)) (aCons (oE (eV 1)) aNil))))
    (sIf (tstE (eOp2 isNotD (oE (eV 2)) (oE (eC .none)))) (sRaise "Barred" (eV 2))
    sNext))
def F_look_leads : List D → RX D := callX 2 3 g_look_leads
abbrev s_changed : Stmt := topS 19
abbrev N_changed : List Str := ["one", "other", "person", "mine", "its"]
theorem sc_changed : FnScope N_changed ["one", "other"] (defScope s_changed) := ⟨rfl, rfl, rfl, by decide +kernel, rfl, by decide +kernel, by decide +kernel⟩
def ct_changed_1 : GT :=
    (tstE (eOp2 neW (oE (eV 3)) (oE (eV 4))))
def ce_changed_2 : GE :=
    (eV 2)
def g_changed : GS :=
    (sSeq (sDropX (eCallX F_look_leads (aCons (oE (eV 0)) (aCons (oE (eV 1)) aNil))))
    (sRetF (eLc [2, 3, 4] (eCall enumZipD (aCons (oE (eV 0)) (aCons (oE (eV 1)) aNil))) (gT 2 (gsCons (gN 2) (gsCons (gT 2 (gsCons (gN 3) (gsCons (gN 4) gsNil))) gsNil))) ct_changed_1 ce_changed_2)))
def F_changed : List D → RX (List D) := callXF 2 5 g_changed
abbrev s_distance : Stmt := topS 20
abbrev N_distance : List Str := ["one", "other"]
theorem sc_distance : FnScope N_distance ["one", "other"] (defScope s_distance) := ⟨rfl, rfl, rfl, by decide +kernel, rfl, by decide +kernel, by decide +kernel⟩
def g_distance : GS :=
    (sRetX (xCb1 lenD (xL (eCallX F_changed (aCons (oE (eV 0)) (aCons (oE (eV 1)) aNil))))))
def F_distance : List D → RX D := callX 2 2 g_distance
abbrev s_next_calls : Stmt := topS 23
abbrev N_next_calls : List Str := ["some", "found", "first", "last", "left", "right"]
theorem sc_next_calls : FnScope N_next_calls ["some"] (defScope s_next_calls) := ⟨rfl, rfl, rfl, by decide +kernel, rfl, by decide +kernel, by decide +kernel⟩
def ct_next_calls_1 : GT :=
    (tstE (eV 4))
def ce_next_calls_2 : GE :=
    (eV 2)
def ct_next_calls_3 : GT :=
    (tstE (eV 5))
def ce_next_calls_4 : GE :=
    (eV 3)
def g_next_calls : GS :=
    (sSeq (sSet 1 (eL (eLc [2, 3, 4, 5] (gSeq (eV 0)) (gT 4 (gsCons (gN 2) (gsCons (gN 3) (gsCons (gN 4) (gsCons (gN 5) gsNil))))) ct_next_calls_1 ce_next_calls_2)))
    (sRetF (eSrtSet (eOp2 addU (oE (eV 1)) (oE (eL (eLc [2, 3, 4, 5] (gSeq (eV 0)) (gT 4 (gsCons (gN 2) (gsCons (gN 3) (gsCons (gN 4) (gsCons (gN 5) gsNil))))) ct_next_calls_3 ce_next_calls_4)))))))
def F_next_calls : List D → Option (List D) := callF 1 6 g_next_calls
abbrev s_open_parts : Stmt := topS 21
abbrev N_open_parts : List Str := ["one", "other", "found", "first", "last", "edges", "left", "right"]
theorem sc_open_parts : FnScope N_open_parts ["one", "other"] (defScope s_open_parts) := ⟨rfl, rfl, rfl, by decide +kernel, rfl, by decide +kernel, by decide +kernel⟩
def gb_open_parts_1 : GS :=
    (sIf (tstE (eOp2 gtD (oE (eOp2 subD (oE (eV 7)) (oE (eV 6)))) (oE (eC (.int 1))))) (sApp 2 (eT (eSeq (aCons (oE (eOp2 addU (oE (eV 6)) (oE (eC (.int 1))))) (aCons (oE (eOp2 subD (oE (eV 7)) (oE (eC (.int 1))))) (aCons (oE (eOp2 geD (oE (eV 6)) (oE (eV 3)))) (aCons (oE (eOp2 leD (oE (eV 7)) (oE (eV 4)))) aNil)))))))
    sNext)
def gb_open_parts_2 : GS :=
    (sSeq (sSet 5 (eOp2 addU (oE (eOp2 addU (oE (eL (eSeq (aCons (oE (eOp2 subD (oE (eV 3)) (oE (eC (.int 1))))) aNil)))) (oE (eL (eCall F_stayed (aCons (oE (eV 0)) (aCons (oE (eV 1)) (aCons (oE (eV 3)) (aCons (oE (eV 4)) aNil))))))))) (oE (eL (eSeq (aCons (oE (eOp2 addU (oE (eV 4)) (oE (eC (.int 1))))) aNil))))))
    (sFor (eCall zip2D (aCons (oE (eV 5)) (aCons (oE (eSl sliceU (oE (eV 5)) (pSo (eC (.int 1))) pNo)) aNil))) (gT 2 (gsCons (gN 6) (gsCons (gN 7) gsNil))) gb_open_parts_1))
def g_open_parts : GS :=
    (sSeq (sSetO 2 (eSeq aNil))
    (sSeq (sFor (gSeq (eL (eCall F_runs (aCons (oE (eV 1)) aNil)))) (gT 2 (gsCons (gN 3) (gsCons (gN 4) gsNil))) gb_open_parts_2)
    (sRetO 2)))
def F_open_parts : List D → Option (List D) := callF 2 8 g_open_parts
abbrev s_firsts : Stmt := topS 24
abbrev N_firsts : List Str := ["one", "other"]
theorem sc_firsts : FnScope N_firsts ["one", "other"] (defScope s_firsts) := ⟨rfl, rfl, rfl, by decide +kernel, rfl, by decide +kernel, by decide +kernel⟩
def g_firsts : GS :=
    (sSeq (sDropX (eCallX F_look_leads (aCons (oE (eV 0)) (aCons (oE (eV 1)) aNil))))
    (sRetF (eCall F_next_calls (aCons (oE (eL (eCall F_open_parts (aCons (oE (eV 0)) (aCons (oE (eV 1)) aNil))))) aNil))))
def F_firsts : List D → RX (List D) := callXF 2 2 g_firsts
abbrev s_parts : Stmt := topS 22
abbrev N_parts : List Str := ["one", "other", "first", "last", "left", "right"]
theorem sc_parts : FnScope N_parts ["one", "other"] (defScope s_parts) := ⟨rfl, rfl, rfl, by decide +kernel, rfl, by decide +kernel, by decide +kernel⟩
def ce_parts_1 : GE :=
    (eT (eRg2 (eV 2) (eOp2 addU (oE (eV 3)) (oE (eC (.int 1))))))
def g_parts : GS :=
    (sSeq (sDropX (eCallX F_look_leads (aCons (oE (eV 0)) (aCons (oE (eV 1)) aNil))))
    (sRetF (eLc [2, 3, 4, 5] (gSeq (eL (eCall F_open_parts (aCons (oE (eV 0)) (aCons (oE (eV 1)) aNil))))) (gT 4 (gsCons (gN 2) (gsCons (gN 3) (gsCons (gN 4) (gsCons (gN 5) gsNil))))) gYes ce_parts_1)))
def F_parts : List D → RX (List D) := callXF 2 6 g_parts
abbrev s__law_right : Stmt := topS 40
abbrev N__law_right : List Str := ["_law_box_here", "_law_line", "_law_there", "_law_kept", "_law_others", "_law_due", "_law_heard", "_law_soft", "_law_its", "_law_more", "_law_at", "_law_piece"]
theorem sc__law_right : FnScope N__law_right ["_law_box_here"] (defScope s__law_right) := ⟨rfl, rfl, rfl, by decide +kernel, rfl, by decide +kernel, by decide +kernel⟩
def ct__law_right_1 : GT :=
    (tstE (eOp2 neW (oE (eOp2 ixD (oE (eV 1)) (oE (eV 10)))) (oE (eOp2 ixD (oE (eV 2)) (oE (eV 10))))))
def ce__law_right_2 : GE :=
    (eV 10)
def ce__law_right_3 : GE :=
    (eOp2 ixD (oE (eV 11)) (oE (eC (.int 0))))
def gr__law_right_4 : GS :=
    (sSeq (sSetO 9 (eSeq (aCons (oE (eL (eCallWX F_changed 2 @perm_1_0 (aCons (oE (eV 8)) (aCons (oE (eV 7)) aNil))))) (aCons (oE (eCallWX F_distance 2 @perm_1_0 (aCons (oE (eV 8)) (aCons (oE (eV 7)) aNil)))) (aCons (oE (eL (eCallWX F_parts 2 @perm_1_0 (aCons (oE (eV 8)) (aCons (oE (eV 7)) aNil))))) aNil)))))
    (sSeq (sApp 9 (eL (eCallWX F_firsts 2 @perm_1_0 (aCons (oE (eV 8)) (aCons (oE (eV 7)) aNil)))))
    (sSeq (sIf (tOrG (tNotG (tstE (eCallO (F__law_same 6) (aCons (oV 9) (aCons (oE (eV 5)) aNil))))) (tNotG (tstE (eCall (F__law_same 6) (aCons (oE (eL (eSeq (aCons (oE (eL (eCallX F_changed (aCons (oE (eV 1)) (aCons (oE (eV 8)) aNil))))) (aCons (oE (eCallX F_distance (aCons (oE (eV 7)) (aCons (oE (eV 2)) aNil)))) aNil))))) (aCons (oE (eSl sliceU (oE (eV 5)) pNo (pSo (eC (.int 2))))) aNil)))))) (sRet (eC (.bool false)))
    sNext)
    (sIf (tstE (eOp2 neW (oE (eApp reprD (aCons (oE (eL (eSeq (aCons (oE (eV 1)) (aCons (oE (eV 2)) aNil))))) aNil))) (oE (eV 3)))) (sRet (eC (.bool false)))
    sNext))))
def gb__law_right_5 : GS :=
    (sSeq (sPar 3 4 (nS (eApp reprD (aCons (oE (eL (eSeq (aCons (oE (eV 1)) (aCons (oE (eV 2)) aNil))))) aNil))) (nS (eL (eLc [10] (eCall rng1 (aCons (oE (eApp lenD (aCons (oE (eV 1)) aNil))) aNil)) (gN 10) ct__law_right_1 ce__law_right_2))))
    (sSeq (sSet 5 (eL (eSeq (aCons (oE (eV 4)) (aCons (oE (eApp lenD (aCons (oE (eV 4)) aNil))) (aCons (oE (eL (eLc [11] (gSeq (eL (eCall F__law_pieces (aCons (oE (eV 1)) (aCons (oE (eV 2)) aNil))))) (gN 11) gYes ce__law_right_3))) (aCons (oE (eL (eCall F__law_firsts (aCons (oE (eV 1)) (aCons (oE (eV 2)) aNil))))) aNil)))))))
    (sHeardTA 6 (nlCons (nF (eCallX F_changed (aCons (oE (eV 1)) (aCons (oE (eV 2)) aNil)))) (nlCons (nS (eCallX F_distance (aCons (oE (eV 1)) (aCons (oE (eV 2)) aNil)))) (nlCons (nF (eCallX F_parts (aCons (oE (eV 1)) (aCons (oE (eV 2)) aNil)))) (nlCons (nF (eCallX F_firsts (aCons (oE (eV 1)) (aCons (oE (eV 2)) aNil)))) nlNil)))) (F__law_same 6) (eV 5) 7 8 (eL (eApp listD (aCons (oE (eV 1)) aNil))) (eL (eApp listD (aCons (oE (eV 2)) aNil))) [0, 2, 3] some
    gr__law_right_4)))
def g__law_right : GS :=
    (sSeq (sSet 1 (eCallB F__law_random_line 0 (aCons (oE (eC (.int 16))) (aCons (oE (eCallB F__law_of 0 (aCons (oE (eL (eSeq (aCons (oE (eC (.int 2))) (aCons (oE (eC (.int 9))) (aCons (oE (eOp2 powD (oE (eC (.int 10))) (oE (eC (.int 40))))) aNil)))))) aNil))) aNil))))
    (sSeq (sFor (gSeq (eT (eSeq (aCons (oE (eV 1)) (aCons (oE (eCallB F__law_led 0 (aCons (oE (eV 1)) (aCons (oE (eC (.int 6))) aNil)))) (aCons (oE (eCallB F__law_led 0 (aCons (oE (eV 1)) (aCons (oE (eC (.int 60))) aNil)))) aNil)))))) (gN 2) gb__law_right_5)
    (sRet (eC (.bool true)))))
def F__law_right : List D → List D → Option (D × List D) := callB 1 12 g__law_right
abbrev s_law : Stmt := topS 41
abbrev N_law : List Str := ["_law_script", "_law_cells_here", "_law_k", "_law_box_here", "_law_turn"]
theorem sc_law : FnScope N_law ["_law_script"] (defScope s_law) := ⟨rfl, rfl, rfl, by decide +kernel, rfl, by decide +kernel, by decide +kernel⟩
def ce_law_1 : GE :=
    (eCallB F__law_right 3 aNil)
def gb_law_2 : GS :=
    (sSeq (sSetO 3 (eCall F__law_box (aCons (oE (eV 1)) (aCons (oE (eV 2)) aNil))))
    (sIf (tNotG (tstE (eApp allD (aCons (oE (eL (eLc [4] (eCall rng1 (aCons (oE (eC (.int 3))) aNil)) (gN 4) gYes ce_law_1))) aNil)))) (sRet (eC (.bool false)))
    sNext))
def g_law : GS :=
    (sSeq (sSet 1 (eCall F__law_cells (aCons (oE (eV 0)) (aCons (oE (eC (.int 3))) aNil))))
    (sSeq (sFor (eCall rng1 (aCons (oE (eApp lenD (aCons (oE (eV 1)) aNil))) aNil)) (gN 2) gb_law_2)
    (sRet (eC (.bool true)))))
def F_law : List D → Option D := callP 1 5 g_law
structure Tx (K : PySem.W.Frag) (mg : Str → Option Value) where
  a__law_box : Addr
  d__law_box : FuncData
  F__law_box : Fun K "_law_box" "_law_box" s__law_box a__law_box d__law_box
  m__law_box : mg "_law_box" = some (.ref a__law_box)
  b__law_box : Binds K d__law_box ["_law_script", "_law_k"] []
  a__law_cells : Addr
  d__law_cells : FuncData
  F__law_cells : Fun K "_law_cells" "_law_cells" s__law_cells a__law_cells d__law_cells
  m__law_cells : mg "_law_cells" = some (.ref a__law_cells)
  b__law_cells : Binds K d__law_cells ["_law_script", "_law_most"] []
  a__law_firsts : Addr
  d__law_firsts : FuncData
  F__law_firsts : Fun K "_law_firsts" "_law_firsts" s__law_firsts a__law_firsts d__law_firsts
  m__law_firsts : mg "_law_firsts" = some (.ref a__law_firsts)
  b__law_firsts : Binds K d__law_firsts ["_law_line", "_law_there"] []
  a__law_mid : Addr
  d__law_mid : FuncData
  F__law_mid : Fun K "_law_mid" "_law_mid" s__law_mid a__law_mid d__law_mid
  m__law_mid : mg "_law_mid" = some (.ref a__law_mid)
  b__law_mid : Binds K d__law_mid ["_law_line", "_law_at"] []
  a__law_call : Addr
  d__law_call : FuncData
  F__law_call : Fun K "_law_call" "_law_call" s__law_call a__law_call d__law_call
  m__law_call : mg "_law_call" = some (.ref a__law_call)
  b__law_call : Binds K d__law_call ["_law_line", "_law_at"] []
  a__law_take : Addr
  d__law_take : FuncData
  F__law_take : Fun K "_law_take" "_law_take" s__law_take a__law_take d__law_take
  m__law_take : mg "_law_take" = some (.ref a__law_take)
  b__law_take : Binds K d__law_take ["_law_box_here", "_law_span"] []
  a__law_strewn : Addr
  d__law_strewn : FuncData
  F__law_strewn : Fun K "_law_strewn" "_law_strewn" s__law_strewn a__law_strewn d__law_strewn
  m__law_strewn : mg "_law_strewn" = some (.ref a__law_strewn)
  b__law_strewn : Binds K d__law_strewn ["_law_box_here", "_law_some"] []
  a__law_stroll : Addr
  d__law_stroll : FuncData
  F__law_stroll : Fun K "_law_stroll" "_law_stroll" s__law_stroll a__law_stroll d__law_stroll
  m__law_stroll : mg "_law_stroll" = some (.ref a__law_stroll)
  b__law_stroll : Binds K d__law_stroll ["_law_box_here", "_law_line", "_law_most"] []
  a__law_led : Addr
  d__law_led : FuncData
  F__law_led : Fun K "_law_led" "_law_led" s__law_led a__law_led d__law_led
  m__law_led : mg "_law_led" = some (.ref a__law_led)
  b__law_led : Binds K d__law_led ["_law_box_here", "_law_line", "_law_most"] []
  a__law_of : Addr
  d__law_of : FuncData
  F__law_of : Fun K "_law_of" "_law_of" s__law_of a__law_of d__law_of
  m__law_of : mg "_law_of" = some (.ref a__law_of)
  b__law_of : Binds K d__law_of ["_law_box_here", "_law_some"] []
  a__law_heaps : Addr
  d__law_heaps : FuncData
  F__law_heaps : Fun K "_law_heaps" "_law_heaps" s__law_heaps a__law_heaps d__law_heaps
  m__law_heaps : mg "_law_heaps" = some (.ref a__law_heaps)
  b__law_heaps : Binds K d__law_heaps ["_law_line"] []
  a__law_pieces : Addr
  d__law_pieces : FuncData
  F__law_pieces : Fun K "_law_pieces" "_law_pieces" s__law_pieces a__law_pieces d__law_pieces
  m__law_pieces : mg "_law_pieces" = some (.ref a__law_pieces)
  b__law_pieces : Binds K d__law_pieces ["_law_line", "_law_there"] []
  a__law_random_line : Addr
  d__law_random_line : FuncData
  F__law_random_line : Fun K "_law_random_line" "_law_random_line" s__law_random_line a__law_random_line d__law_random_line
  m__law_random_line : mg "_law_random_line" = some (.ref a__law_random_line)
  b__law_random_line : Binds K d__law_random_line ["_law_box_here", "_law_most", "_law_top"] []
  a__law_same : Addr
  d__law_same : FuncData
  F__law_same : Fun K "_law_same" "_law_same" s__law_same a__law_same d__law_same
  m__law_same : mg "_law_same" = some (.ref a__law_same)
  b__law_same : Binds K d__law_same ["_law_found", "_law_due"] []
  a_look_many : Addr
  d_look_many : FuncData
  F_look_many : Fun K "look_many" "look_many" s_look_many a_look_many d_look_many
  m_look_many : mg "look_many" = some (.ref a_look_many)
  b_look_many : Binds K d_look_many ["one", "other"] []
  a_inner : Addr
  d_inner : FuncData
  F_inner : Fun K "inner" "inner" s_inner a_inner d_inner
  m_inner : mg "inner" = some (.ref a_inner)
  b_inner : Binds K d_inner ["row"] []
  a_dips : Addr
  d_dips : FuncData
  F_dips : Fun K "dips" "dips" s_dips a_dips d_dips
  m_dips : mg "dips" = some (.ref a_dips)
  b_dips : Binds K d_dips ["row"] []
  a_tops : Addr
  d_tops : FuncData
  F_tops : Fun K "tops" "tops" s_tops a_tops d_tops
  m_tops : mg "tops" = some (.ref a_tops)
  b_tops : Binds K d_tops ["row"] []
  a_wrong_changes : Addr
  d_wrong_changes : FuncData
  F_wrong_changes : Fun K "wrong_changes" "wrong_changes" s_wrong_changes a_wrong_changes d_wrong_changes
  m_wrong_changes : mg "wrong_changes" = some (.ref a_wrong_changes)
  b_wrong_changes : Binds K d_wrong_changes ["one", "other"] []
  a_wrong_orders : Addr
  d_wrong_orders : FuncData
  F_wrong_orders : Fun K "wrong_orders" "wrong_orders" s_wrong_orders a_wrong_orders d_wrong_orders
  m_wrong_orders : mg "wrong_orders" = some (.ref a_wrong_orders)
  b_wrong_orders : Binds K d_wrong_orders ["one", "other"] []
  a_runs : Addr
  d_runs : FuncData
  F_runs : Fun K "runs" "runs" s_runs a_runs d_runs
  m_runs : mg "runs" = some (.ref a_runs)
  b_runs : Binds K d_runs ["row"] []
  a_stayed : Addr
  d_stayed : FuncData
  F_stayed : Fun K "stayed" "stayed" s_stayed a_stayed d_stayed
  m_stayed : mg "stayed" = some (.ref a_stayed)
  b_stayed : Binds K d_stayed ["one", "other", "first", "last"] []
  a_wrong_runs : Addr
  d_wrong_runs : FuncData
  F_wrong_runs : Fun K "wrong_runs" "wrong_runs" s_wrong_runs a_wrong_runs d_wrong_runs
  m_wrong_runs : mg "wrong_runs" = some (.ref a_wrong_runs)
  b_wrong_runs : Binds K d_wrong_runs ["one", "other"] []
  a_bar : Addr
  d_bar : FuncData
  F_bar : Fun K "bar" "bar" s_bar a_bar d_bar
  m_bar : mg "bar" = some (.ref a_bar)
  b_bar : Binds K d_bar ["one", "other"] []
  a_look_leads : Addr
  d_look_leads : FuncData
  F_look_leads : Fun K "look_leads" "look_leads" s_look_leads a_look_leads d_look_leads
  m_look_leads : mg "look_leads" = some (.ref a_look_leads)
  b_look_leads : Binds K d_look_leads ["one", "other"] []
  a_changed : Addr
  d_changed : FuncData
  F_changed : Fun K "changed" "changed" s_changed a_changed d_changed
  m_changed : mg "changed" = some (.ref a_changed)
  b_changed : Binds K d_changed ["one", "other"] []
  a_distance : Addr
  d_distance : FuncData
  F_distance : Fun K "distance" "distance" s_distance a_distance d_distance
  m_distance : mg "distance" = some (.ref a_distance)
  b_distance : Binds K d_distance ["one", "other"] []
  a_next_calls : Addr
  d_next_calls : FuncData
  F_next_calls : Fun K "next_calls" "next_calls" s_next_calls a_next_calls d_next_calls
  m_next_calls : mg "next_calls" = some (.ref a_next_calls)
  b_next_calls : Binds K d_next_calls ["some"] []
  a_open_parts : Addr
  d_open_parts : FuncData
  F_open_parts : Fun K "open_parts" "open_parts" s_open_parts a_open_parts d_open_parts
  m_open_parts : mg "open_parts" = some (.ref a_open_parts)
  b_open_parts : Binds K d_open_parts ["one", "other"] []
  a_firsts : Addr
  d_firsts : FuncData
  F_firsts : Fun K "firsts" "firsts" s_firsts a_firsts d_firsts
  m_firsts : mg "firsts" = some (.ref a_firsts)
  b_firsts : Binds K d_firsts ["one", "other"] []
  a_parts : Addr
  d_parts : FuncData
  F_parts : Fun K "parts" "parts" s_parts a_parts d_parts
  m_parts : mg "parts" = some (.ref a_parts)
  b_parts : Binds K d_parts ["one", "other"] []
  a__law_right : Addr
  d__law_right : FuncData
  F__law_right : Fun K "_law_right" "_law_right" s__law_right a__law_right d__law_right
  m__law_right : mg "_law_right" = some (.ref a__law_right)
  b__law_right : Binds K d__law_right ["_law_box_here"] []
  a_law : Addr
  d_law : FuncData
  F_law : Fun K "law" "law" s_law a_law d_law
  m_law : mg "law" = some (.ref a_law)
  b_law : Binds K d_law ["_law_script"] []
  k_parts_other_one : KwB K d_parts ["one", "other"] ["other", "one"] @perm_1_0
  k_distance_other_one : KwB K d_distance ["one", "other"] ["other", "one"] @perm_1_0
  k_changed_other_one : KwB K d_changed ["one", "other"] ["other", "one"] @perm_1_0
  k_firsts_other_one : KwB K d_firsts ["one", "other"] ["other", "one"] @perm_1_0
  n_len : mg "len" = none
  n_abs : mg "abs" = none
  n_int : mg "int" = none
  n_list : mg "list" = none
  n_enumerate : mg "enumerate" = none
  n_range : mg "range" = none
  n_sorted : mg "sorted" = none
  n_tuple : mg "tuple" = none
  n_max : mg "max" = none
  n_isinstance : mg "isinstance" = none
  n_zip : mg "zip" = none
  n_all : mg "all" = none
  n_bool : mg "bool" = none
  n_str : mg "str" = none
  n_ValueError : mg "ValueError" = none
  n_RuntimeError : mg "RuntimeError" = none
  n_set : mg "set" = none
  n_repr : mg "repr" = none
  c_OtherPeople : Addr
  cc_OtherPeople : Cls K "OtherPeople" c_OtherPeople
  m_OtherPeople : mg "OtherPeople" = some (.ref c_OtherPeople)
  c_Barred : Addr
  cc_Barred : Cls K "Barred" c_Barred
  m_Barred : mg "Barred" = some (.ref c_Barred)
  oc_OtherPeople : OxC K "ValueError.__new__" tl_ValueError c_OtherPeople
  no_OtherPeople : PySem.W.findIn K (.ref c_OtherPeople) "many" = some none
  fi_OtherPeople : Addr
  fd_OtherPeople : FuncData
  Fi_OtherPeople : Fun K "__init__" "OtherPeople.__init__" si_OtherPeople fi_OtherPeople fd_OtherPeople
  iC_OtherPeople : PySem.W.findIn K (.ref c_OtherPeople) "__init__" = some (some (.ref fi_OtherPeople))
  ti_OtherPeople : PySem.W.typeIn K (.ref fi_OtherPeople) = some (.type "function")
  bi_OtherPeople : Binds K fd_OtherPeople ["self", "many"] []
  oc_Barred : OxC K "RuntimeError.__new__" tl_RuntimeError c_Barred
  no_Barred : PySem.W.findIn K (.ref c_Barred) "reason" = some none
  fi_Barred : Addr
  fd_Barred : FuncData
  Fi_Barred : Fun K "__init__" "Barred.__init__" si_Barred fi_Barred fd_Barred
  iC_Barred : PySem.W.findIn K (.ref c_Barred) "__init__" = some (some (.ref fi_Barred))
  ti_Barred : PySem.W.typeIn K (.ref fi_Barred) = some (.type "function")
  bi_Barred : Binds K fd_Barred ["self", "reason"] []
  vB_ValueError : PySem.W.findCls K (.type "ValueError") (.type "type") "__init__" = some (.val (.builtin "ValueError.__init__"))
  vB_RuntimeError : PySem.W.findCls K (.type "RuntimeError") (.type "type") "__init__" = some (.val (.builtin "RuntimeError.__init__"))
  et : etB K CsL UsL = true
  t_ORDER : Tok
  c_ORDER : mg "ORDER" = some (.str "order" t_ORDER)
  t_CHANGE : Tok
  c_CHANGE : mg "CHANGE" = some (.str "change" t_CHANGE)
  t_RUN : Tok
  c_RUN : mg "RUN" = some (.str "run" t_RUN)
section
variable {P : Program} {w : World} {K : PySem.W.Frag} {mg : Str → Option Value} {base : Heap}
theorem oki_OtherPeople (T : Tx K mg) : FnOk P w K mg base CX0 1 T.fi_OtherPeople T.fd_OtherPeople ["self", "many"] (spIni K "ValueError.__new__" tl_ValueError "many") := by
  refine T.Fi_OtherPeople.ok sci_OtherPeople (fun vs H Q E h => ?_) (fun cdv A outer s H vs Q E hr h => ⟨_, pss_cons (ps_expr (pe_bini DLX.bs_V (by rfl) T.n_ValueError (by decide +kernel) (by decide) (by decide) T.vB_ValueError (pa_cons (pv 0) (pa_cons (pv 1) pa_nil)))) (pss_one (ps_fld DLX.bs_V (pv 0) (pv 1))), ini_run h rfl⟩)
  obtain ⟨a, C, v, rfl, _⟩ := h
  rfl
theorem ox_OtherPeople (T : Tx K mg) : OxI P w K mg base "ValueError.__new__" tl_ValueError T.c_OtherPeople "many" := ⟨T.oc_OtherPeople, T.no_OtherPeople, T.fi_OtherPeople, T.fd_OtherPeople, T.iC_OtherPeople, T.ti_OtherPeople, oki_OtherPeople T, T.bi_OtherPeople⟩
theorem oki_Barred (T : Tx K mg) : FnOk P w K mg base CX0 1 T.fi_Barred T.fd_Barred ["self", "reason"] (spIni K "RuntimeError.__new__" tl_RuntimeError "reason") := by
  refine T.Fi_Barred.ok sci_Barred (fun vs H Q E h => ?_) (fun cdv A outer s H vs Q E hr h => ⟨_, pss_cons (ps_expr (pe_bini DLX.bs_R (by rfl) T.n_RuntimeError (by decide +kernel) (by decide) (by decide) T.vB_RuntimeError (pa_cons (pv 0) (pa_cons (pv 1) pa_nil)))) (pss_one (ps_fld DLX.bs_R (pv 0) (pv 1))), ini_run h rfl⟩)
  obtain ⟨a, C, v, rfl, _⟩ := h
  rfl
theorem ox_Barred (T : Tx K mg) : OxI P w K mg base "RuntimeError.__new__" tl_RuntimeError T.c_Barred "reason" := ⟨T.oc_Barred, T.no_Barred, T.fi_Barred, T.fd_Barred, T.iC_Barred, T.ti_Barred, oki_Barred T, T.bi_Barred⟩
theorem ok__law_box (T : Tx K mg) : FnOk P w K mg base CX0 1 T.a__law_box T.d__law_box ["_law_script", "_law_k"] (spF K 2 F__law_box) := by
    refine T.F__law_box.ok sc__law_box (fun vs H Q E h => h.1) (fun cdv A outer s H vs Q E hr h => ?_)
    have nd := sc__law_box.nd
    exact ⟨_, (pss_cons (ps_set (i := 2) nd rfl (Or.inl rfl) (pe_ifExp (pt_cmpR op_lt (pv 1) (pe_callB call_lenU (by rfl) T.n_len (by decide +kernel) (pa_cons (pv 0) pa_nil)) (nomark _)) (pe_ix ix_seq (pv 0) (pv 1) (fun _ _ => rfl)) pe_int)) (pss_one (ps_ret (pe_lst (pa_cons (pe_op op_mulT (pe_callB call_absU (by rfl) T.n_abs (by decide +kernel) (pa_cons (pv 2) pa_nil)) (pe_callTy call_intU (by rfl) T.n_int (by decide +kernel) (pa_cons (pe_cmpR op_ge (pe_callB call_absU (by rfl) T.n_abs (by decide +kernel) (pa_cons (pv 2) pa_nil)) (pe_op op_pow pe_int pe_int) (nomark _)) pa_nil))) (pa_cons (pe_op op_addU (pe_op op_addU (pe_op op_mod (pv 2) pe_int) (pe_op op_mulT pe_int (pv 1))) pe_int) (pa_cons pe_int pa_nil))))))),
      run_F (N := N__law_box) (ds_seq (ds_set (i := 2) (de_if (dt_test (de_op sn_lt (do_e de_v) (do_e (de_cb sn_len (da_cons (do_e de_v) da_nil))))) (de_op sn_ix (do_e de_v) (do_e de_v)) de_int)) (ds_retF (df_lst (da_cons (do_e (de_op sn_mulV (do_e (de_cb sn_abs (da_cons (do_e de_v) da_nil))) (do_e (de_cb sn_int (da_cons (do_e (de_op sn_ge (do_e (de_cb sn_abs (da_cons (do_e de_v) da_nil))) (do_e (de_op sn_pow (do_e de_int) (do_e de_int))))) da_nil))))) (da_cons (do_e (de_op sn_addU (do_e (de_op sn_addU (do_e (de_op sn_mod (do_e de_v) (do_e de_int))) (do_e (de_op sn_mulV (do_e de_int) (do_e de_v))))) (do_e de_int))) (da_cons (do_e de_int) da_nil)))))) (by decide) h⟩
theorem ok__law_cells (T : Tx K mg) : FnOk P w K mg base CX0 1 T.a__law_cells T.d__law_cells ["_law_script", "_law_most"] (spP K 2 F__law_cells) := by
    refine T.F__law_cells.ok sc__law_cells (fun vs H Q E h => h.1) (fun cdv A outer s H vs Q E hr h => ?_)
    have nd := sc__law_cells.nd
    exact ⟨_, (pss_cons (ps_set (i := 2) nd rfl (Or.inl rfl) (pe_callTy call_listU (by rfl) T.n_list (by decide +kernel) (pa_cons (pe_slice sl_U (pv 0) po_none (po_some (pv 1))) pa_nil))) (pss_cons (ps_for PassesOwn.never rfl (pi_enumU (by rfl) T.n_enumerate (pa_cons (pe_slice sl_U (pv 0) (po_some (pv 1)) (po_some pe_int)) pa_nil)) (pg_tup rfl (pgs_cons (pg_name (i := 3) nd rfl (Or.inl rfl)) (pgs_cons (pg_name (i := 4) nd rfl (Or.inl rfl)) pgs_nil))) (pss_one (ps_asg (pe_op op_addU (pe_ix ix_seq (pv 2) (pe_op op_mod (pv 3) (pv 1)) (fun _ _ => rfl)) (pe_op op_mulT (pv 4) (pe_op op_addU (pv 3) pe_int))) (pg_sub (pv 2) (pe_op op_mod (pv 3) (pv 1)) set_list)))) (pss_one (ps_ret (pe_ifExp (pt_cmpR (op_neU hr) (pv 2) (pe_lst pa_nil) (nomark _)) (pv 2) (pe_lst (pa_cons pe_int pa_nil))))))),
      run_P (N := N__law_cells) (ds_seq (ds_setO (i := 2) (df_cb sn_list (da_cons (do_e (de_sl sn_sliceU (do_e de_v) dp_no (dp_so de_v))) da_nil))) (ds_seq (ds_for (ws := [3, 4]) (di_enum (da_cons (do_e (de_sl sn_sliceU (do_e de_v) (dp_so de_v) (dp_so de_int))) da_nil)) (dg_tup (dgs_cons (dg_name (by decide)) (dgs_cons (dg_name (by decide)) dgs_nil))) (ds_putIx (de_op sn_addU (do_e (de_op sn_ix do_v (do_e (de_op sn_mod (do_e de_v) (do_e de_v))))) (do_e (de_op sn_mulV (do_e de_v) (do_e (de_op sn_addU (do_e de_v) (do_e de_int)))))) (de_op sn_mod (do_e de_v) (do_e de_v)))) (ds_fz (i := 2) (ds_ret (de_if (dt_test (de_op sn_neW (do_e de_v) (do_e (de_l (df_lst da_nil))))) de_v (de_l (df_lst (da_cons (do_e de_int) da_nil)))))))) (by decide) h⟩
theorem ok__law_firsts (T : Tx K mg) : FnOk P w K mg base CX0 1 T.a__law_firsts T.d__law_firsts ["_law_line", "_law_there"] (spF K 2 F__law_firsts) := by
    refine T.F__law_firsts.ok sc__law_firsts (fun vs H Q E h => h.1) (fun cdv A outer s H vs Q E hr h => ?_)
    have nd := sc__law_firsts.nd
    exact ⟨_, (pss_cons (ps_set (i := 2) nd rfl (Or.inl rfl) (pe_lst pa_nil)) (pss_cons (ps_for PassesOwn.never rfl (pi_range1 (by rfl) T.n_range (pa_cons (pe_callB call_lenU (by rfl) T.n_len (by decide +kernel) (pa_cons (pv 0) pa_nil)) pa_nil)) (pg_name (i := 3) nd rfl (Or.inr rfl)) (pss_cons (ps_setLc (i := 4) (own := [("_law_mate", 5)]) (by rfl) nd rfl rfl (sw_true rfl rfl rfl (by decide +kernel)) (pi_seqU (pe_tup (pa_cons (pe_op op_sub (pv 3) pe_int) (pa_cons (pe_op op_addU (pv 3) pe_int) pa_nil)))) (blkOk_by (own := [("_law_mate", 5)]) (N := N__law_firsts) (sc := defScope s__law_firsts) (by decide +kernel)) (fun _ _ _ _ _ => (pg_name (i := 5) nd rfl (Or.inl rfl))) (fun _ _ _ _ _ => (pts_one (PW.pt (pw_and (pt_chain op_le op_lt pe_int (pv 5) (pe_callB call_lenU (by rfl) T.n_len (by decide +kernel) (pa_cons (pv 0) pa_nil))) (pw_and1 (pt_cmpR (op_eqU hr) (pe_ix ix_seq (pv 1) (pv 5) (fun _ _ => rfl)) (pe_ix ix_seq (pv 1) (pv 3) (fun _ _ => rfl)) (nomark _))))))) (fun _ _ _ _ _ => (pv 5))) (pss_one (ps_if (PW.pt (pw_and (pt_cmpR (op_neU hr) (pe_ix ix_seq (pv 0) (pv 3) (fun _ _ => rfl)) (pe_ix ix_seq (pv 1) (pv 3) (fun _ _ => rfl)) (nomark _)) (pw_and1 (pt_cmpR (op_neU hr) (pe_lc (own := [("_law_mate", 5)]) (by rfl) nd (pi_seqU (pv 4)) (blkOk_by (own := [("_law_mate", 5)]) (N := N__law_firsts) (sc := defScope s__law_firsts) (by decide +kernel)) (fun _ _ _ _ _ => (pg_name (i := 5) nd rfl (Or.inl rfl))) (fun _ _ _ _ _ => (pts_one (pt_cmpR (op_eqU hr) (pe_ix ix_seq (pv 0) (pv 5) (fun _ _ => rfl)) (pe_ix ix_seq (pv 1) (pv 5) (fun _ _ => rfl)) (nomark _)))) (fun _ _ _ _ _ => (pv 5))) (pe_lst pa_nil) (nomark _))))) (pss_one (ps_expr (pe_bm PySem.F.plainAttrs_list PySem.F.slot_list_append PySem.F.type_list_append mt_append (pv 2) (pa_cons (pv 3) pa_nil)))) pss_nil)))) (pss_one (ps_ret (pv 2))))),
      run_F (N := N__law_firsts) (ds_seq (ds_setO (i := 2) (df_lst da_nil)) (ds_seq (ds_for (ws := [3]) (di_rng1 (da_cons (do_e (de_cb sn_len (da_cons (do_e de_v) da_nil))) da_nil)) (dg_name (by decide)) (ds_seq (ds_set (i := 4) (de_l (df_lc (di_seq (de_tup (da_cons (do_e (de_op sn_sub (do_e de_v) (do_e de_int))) (da_cons (do_e (de_op sn_addU (do_e de_v) (do_e de_int))) da_nil)))) (dg_name (by decide)) (dt_and (dt_test (de_chain sn_le sn_lt (do_e de_int) (do_e de_v) (do_e (de_cb sn_len (da_cons (do_e de_v) da_nil))))) (dt_test (de_op sn_eqW (do_e (de_op sn_ix (do_e de_v) (do_e de_v))) (do_e (de_op sn_ix (do_e de_v) (do_e de_v)))))) de_v))) (ds_if (dt_and (dt_test (de_op sn_neW (do_e (de_op sn_ix (do_e de_v) (do_e de_v))) (do_e (de_op sn_ix (do_e de_v) (do_e de_v))))) (dt_test (de_op sn_neW (do_e (de_l (df_lc (di_seq de_v) (dg_name (by decide)) (dt_test (de_op sn_eqW (do_e (de_op sn_ix (do_e de_v) (do_e de_v))) (do_e (de_op sn_ix (do_e de_v) (do_e de_v))))) de_v))) (do_e (de_l (df_lst da_nil)))))) (ds_app de_v) ds_next))) ds_retO)) (by decide) h⟩
theorem ok__law_mid (T : Tx K mg) : FnOk P w K mg base CX0 1 T.a__law_mid T.d__law_mid ["_law_line", "_law_at"] (spP K 2 F__law_mid) := by
    refine T.F__law_mid.ok sc__law_mid (fun vs H Q E h => h.1) (fun cdv A outer s H vs Q E hr h => ?_)
    have nd := sc__law_mid.nd
    exact ⟨_, (pss_cons (ps_if (PW.pt (pw_or (pt_cmpR (op_eqU hr) (pv 1) pe_int (nomark _)) (pw_or1 (pt_cmpR (op_eqU hr) (pv 1) (pe_op op_sub (pe_callB call_lenU (by rfl) T.n_len (by decide +kernel) (pa_cons (pv 0) pa_nil)) pe_int) (nomark _))))) (pss_one (ps_ret (pe_ix ix_seq (pv 0) (pv 1) (fun _ _ => rfl)))) pss_nil) (pss_one (ps_ret (pe_ix ix_seq (pe_callB cr_sortedU (by rfl) T.n_sorted (by decide +kernel) (pa_cons (pe_slice sl_U (pv 0) (po_some (pe_op op_sub (pv 1) pe_int)) (po_some (pe_op op_addU (pv 1) pe_int))) pa_nil)) pe_int (fun _ _ => rfl))))),
      run_P (N := N__law_mid) (ds_seq (ds_if (dt_or (dt_test (de_op sn_eqW (do_e de_v) (do_e de_int))) (dt_test (de_op sn_eqW (do_e de_v) (do_e (de_op sn_sub (do_e (de_cb sn_len (da_cons (do_e de_v) da_nil))) (do_e de_int)))))) (ds_ret (de_op sn_ix (do_e de_v) (do_e de_v))) ds_next) (ds_ret (de_op sn_ix (do_e (de_l (df_cb sn_sorted (da_cons (do_e (de_sl sn_sliceU (do_e de_v) (dp_so (de_op sn_sub (do_e de_v) (do_e de_int))) (dp_so (de_op sn_addU (do_e de_v) (do_e de_int))))) da_nil)))) (do_e de_int)))) (by decide) h⟩
theorem ok__law_call (T : Tx K mg) : FnOk P w K mg base CX0 2 T.a__law_call T.d__law_call ["_law_line", "_law_at"] (spP K 2 F__law_call) := by
    refine T.F__law_call.ok sc__law_call (fun vs H Q E h => h.1) (fun cdv A outer s H vs Q E hr h => ?_)
    have nd := sc__law_call.nd
    exact ⟨_, (pss_one (ps_ret (pe_op op_addU (pe_op op_addU (pe_slice sl_U (pv 0) po_none (po_some (pv 1))) (pe_tup (pa_cons (pe_call (ok__law_mid T) (hr.mono (by decide)) (by rfl) T.m__law_mid T.F__law_mid.kp T.b__law_mid .nil pass0 (pa_cons (pv 0) (pa_cons (pv 1) pa_nil))) pa_nil))) (pe_slice sl_U (pv 0) (po_some (pe_op op_addU (pv 1) pe_int)) po_none)))),
      run_P (N := N__law_call) (ds_ret (de_op sn_addU (do_e (de_op sn_addU (do_e (de_sl sn_sliceU (do_e de_v) dp_no (dp_so de_v))) (do_e (de_tup (da_cons (do_e (de_call callP_len (da_cons (do_e de_v) (da_cons (do_e de_v) da_nil)))) da_nil))))) (do_e (de_sl sn_sliceU (do_e de_v) (dp_so (de_op sn_addU (do_e de_v) (do_e de_int))) dp_no)))) (by decide) h⟩
theorem ok__law_take (T : Tx K mg) : ∀ n : Nat, FnOk P w K mg base CX0 (0 + n) T.a__law_take T.d__law_take ["_law_box_here", "_law_span"] (spB K 2 (F__law_take n))
  | 0 => fn_noneB rfl
  | n + 1 => by
    have ih := ok__law_take T n
    have hFl := Fl__law_take n
    refine T.F__law_take.ok sc__law_take (fun vs H Q E h => h.1) (fun cdv A outer s H vs Q E hr h => ?_)
    have nd := sc__law_take.nd
    exact ⟨_, (pss_cons (ps_if (pt_cmpR op_gt (pe_ix ix_seq (pv 0) pe_int (fun _ _ => rfl)) pe_int (nomark _)) (pss_cons (ps_set (i := 3) nd rfl (Or.inl rfl) (pe_op op_mod (pe_ix ix_seq (pv 0) pe_int (fun _ _ => rfl)) (pv 1))) (pss_cons (ps_asg (pe_op op_fdivW (pe_ix ix_seq (pv 0) pe_int (fun _ _ => rfl)) (pv 1)) (pg_sub (pv 0) pe_int set_list)) (pss_one (ps_ret (pv 3))))) pss_nil) (pss_cons (ps_if (pt_cmpR op_gt (pv 1) (pe_op op_pow pe_int pe_int) (nomark _)) (pss_one (ps_ret (pe_op op_mod (pe_op op_addU (pe_call ih (hr.mono (Nat.le_refl _)) (by rfl) T.m__law_take T.F__law_take.kp T.b__law_take .nil pass0 (pa_cons (pv 0) (pa_cons (pe_op op_pow pe_int pe_int) pa_nil))) (pe_op op_mulT (pe_op op_pow pe_int pe_int) (pe_call ih (hr.mono (Nat.le_refl _)) (by rfl) T.m__law_take T.F__law_take.kp T.b__law_take .nil pass0 (pa_cons (pv 0) (pa_cons (pe_op op_addU (pe_op op_fdivW (pe_op op_sub (pv 1) pe_int) (pe_op op_pow pe_int pe_int)) pe_int) pa_nil))))) (pv 1)))) pss_nil) (pss_cons (ps_asg (pe_op op_addU (pe_ix ix_seq (pv 0) pe_int (fun _ _ => rfl)) pe_int) (pg_sub (pv 0) pe_int set_list)) (pss_cons (ps_set (i := 2) nd rfl (Or.inl rfl) (pe_op op_mod (pe_op op_pow (pe_op op_addU (pe_ix ix_seq (pv 0) pe_int (fun _ _ => rfl)) (pe_op op_mulT pe_int (pe_ix ix_seq (pv 0) pe_int (fun _ _ => rfl)))) pe_int) pe_int)) (pss_one (ps_ret (pe_op op_mod (pe_op op_fdivW (pe_op op_mod (pe_op op_addU (pe_op op_mulT (pv 2) (pe_op op_addU (pe_op op_mod (pv 2) pe_int) pe_int)) (pe_op op_mulT (pe_ix ix_seq (pv 0) pe_int (fun _ _ => rfl)) pe_int)) pe_int) pe_int) (pv 1)))))))),
      run_B (N := N__law_take) (ds_seq (ds_if (dt_test (de_op sn_gt (do_e (de_op sn_ix do_v (do_e de_int))) (do_e de_int))) (ds_seq (ds_set (i := 3) (de_op sn_mod (do_e (de_op sn_ix do_v (do_e de_int))) (do_e de_v))) (ds_seq (ds_putIx (de_op sn_fdiv (do_e (de_op sn_ix do_v (do_e de_int))) (do_e de_v)) de_int) (ds_ret de_v))) ds_next) (ds_seq (ds_if (dt_test (de_op sn_gt (do_e de_v) (do_e (de_op sn_pow (do_e de_int) (do_e de_int))))) (ds_ret (de_op sn_mod (do_e (de_op sn_addU (do_e (de_callB hFl (da_cons (do_e (de_op sn_pow (do_e de_int) (do_e de_int))) da_nil))) (do_e (de_op sn_mulV (do_e (de_op sn_pow (do_e de_int) (do_e de_int))) (do_e (de_callB hFl (da_cons (do_e (de_op sn_addU (do_e (de_op sn_fdiv (do_e (de_op sn_sub (do_e de_v) (do_e de_int))) (do_e (de_op sn_pow (do_e de_int) (do_e de_int))))) (do_e de_int))) da_nil))))))) (do_e de_v))) ds_next) (ds_seq (ds_putIx (de_op sn_addU (do_e (de_op sn_ix do_v (do_e de_int))) (do_e de_int)) de_int) (ds_seq (ds_set (i := 2) (de_op sn_mod (do_e (de_op sn_pow (do_e (de_op sn_addU (do_e (de_op sn_ix do_v (do_e de_int))) (do_e (de_op sn_mulV (do_e de_int) (do_e (de_op sn_ix do_v (do_e de_int))))))) (do_e de_int))) (do_e de_int))) (ds_ret (de_op sn_mod (do_e (de_op sn_fdiv (do_e (de_op sn_mod (do_e (de_op sn_addU (do_e (de_op sn_mulV (do_e de_v) (do_e (de_op sn_addU (do_e (de_op sn_mod (do_e de_v) (do_e de_int))) (do_e de_int))))) (do_e (de_op sn_mulV (do_e (de_op sn_ix do_v (do_e de_int))) (do_e de_int))))) (do_e de_int))) (do_e de_int))) (do_e de_v))))))) (by decide) h⟩
theorem ok__law_strewn (T : Tx K mg) : FnOk P w K mg base CX0 9 T.a__law_strewn T.d__law_strewn ["_law_box_here", "_law_some"] (spBF K 2 F__law_strewn) := by
    refine T.F__law_strewn.ok sc__law_strewn (fun vs H Q E h => h.1) (fun cdv A outer s H vs Q E hr h => ?_)
    have nd := sc__law_strewn.nd
    exact ⟨_, (pss_cons (ps_par (i := 2) (j := 3) (by rfl) nd rfl rfl (by decide) rfl rfl (pa_cons (pe_callTy call_listU (by rfl) T.n_list (by decide +kernel) (pa_cons (pv 1) pa_nil)) (pa_cons (pe_lst pa_nil) pa_nil)) (by rfl)) (pss_cons (ps_while PassesOwn.never (pt_cmpR (op_neU hr) (pv 2) (pe_lst pa_nil) (nomark _)) (pss_one (ps_expr (pe_bm PySem.F.plainAttrs_list PySem.F.slot_list_append PySem.F.type_list_append mt_append (pv 3) (pa_cons (pe_bm PySem.F.plainAttrs_list PySem.F.slot_list_pop PySem.F.type_list_pop mt_popAt (pv 2) (pa_cons (pe_call (ok__law_take T 8) (hr.mono (by decide)) (by rfl) T.m__law_take T.F__law_take.kp T.b__law_take .nil pass0 (pa_cons (pv 0) (pa_cons (pe_callB call_lenU (by rfl) T.n_len (by decide +kernel) (pa_cons (pv 2) pa_nil)) pa_nil))) pa_nil)) pa_nil))))) (pss_one (ps_ret (pv 3))))),
      run_BF (N := N__law_strewn) (ds_seq (ds_par (dn_f (df_cb sn_list (da_cons (do_e de_v) da_nil))) (dn_f (df_lst da_nil))) (ds_seq (ds_while (n := 1000) (dt_test (de_op sn_neW do_v (do_e (de_l (df_lst da_nil))))) (ds_app (de_popAt (de_callB (Fl__law_take _) (da_cons (do_e (de_cb sn_len (da_cons do_v da_nil))) da_nil))))) ds_retO)) (by decide) h⟩
theorem ok__law_stroll (T : Tx K mg) : FnOk P w K mg base CX0 9 T.a__law_stroll T.d__law_stroll ["_law_box_here", "_law_line", "_law_most"] (spB K 3 F__law_stroll) := by
    refine T.F__law_stroll.ok sc__law_stroll (fun vs H Q E h => h.1) (fun cdv A outer s H vs Q E hr h => ?_)
    have nd := sc__law_stroll.nd
    exact ⟨_, (pss_cons (ps_setLc (i := 3) (own := [("_law_turn", 5)]) (by rfl) nd rfl rfl (sw_true rfl rfl rfl (by decide +kernel)) (pi_range1 (by rfl) T.n_range (pa_cons (pe_op op_mulT (pe_call (ok__law_take T 8) (hr.mono (by decide)) (by rfl) T.m__law_take T.F__law_take.kp T.b__law_take .nil pass0 (pa_cons (pv 0) (pa_cons (pe_op op_addU (pv 2) pe_int) pa_nil))) (pe_callTy call_intU (by rfl) T.n_int (by decide +kernel) (pa_cons (pe_cmpR (op_neU hr) (pv 1) (pe_tup pa_nil) (nomark _)) pa_nil))) pa_nil)) (blkOk_by (own := [("_law_turn", 5)]) (N := N__law_stroll) (sc := defScope s__law_stroll) (by decide +kernel)) (fun _ _ _ _ _ => (pg_name (i := 5) nd rfl (Or.inl rfl))) (fun _ _ _ _ _ => pts_nil) (fun _ _ _ _ _ => (pe_call (ok__law_take T 8) (hr.mono (by decide)) (by rfl) T.m__law_take T.F__law_take.kp T.b__law_take .nil pass0 (pa_cons (pv 0) (pa_cons (pe_callB call_lenU (by rfl) T.n_len (by decide +kernel) (pa_cons (pv 1) pa_nil)) pa_nil))))) (pss_cons (ps_for PassesOwn.never rfl (pi_seqU (pv 3)) (pg_name (i := 4) nd rfl (Or.inl rfl)) (pss_one (ps_set (i := 1) nd rfl (Or.inr rfl) (pe_call (ok__law_call T) (hr.mono (by decide)) (by rfl) T.m__law_call T.F__law_call.kp T.b__law_call .nil pass0 (pa_cons (pv 1) (pa_cons (pv 4) pa_nil)))))) (pss_one (ps_ret (pe_tup (pa_cons (pv 3) (pa_cons (pv 1) pa_nil))))))),
      run_B (N := N__law_stroll) (ds_seq (ds_set (i := 3) (de_l (df_lc (di_rng1 (da_cons (do_e (de_op sn_mulV (do_e (de_callB (Fl__law_take _) (da_cons (do_e (de_op sn_addU (do_e de_v) (do_e de_int))) da_nil))) (do_e (de_cb sn_int (da_cons (do_e (de_op sn_neW (do_e de_v) (do_e (de_tup da_nil)))) da_nil))))) da_nil)) (dg_name (by decide)) dt_yes (de_callB (Fl__law_take _) (da_cons (do_e (de_cb sn_len (da_cons (do_e de_v) da_nil))) da_nil))))) (ds_seq (ds_for (ws := [4]) (di_seq de_v) (dg_name (by decide)) (ds_set (i := 1) (de_call callP_len (da_cons (do_e de_v) (da_cons (do_e de_v) da_nil))))) (ds_ret (de_tup (da_cons (do_e de_v) (da_cons (do_e de_v) da_nil)))))) (by decide) h⟩
theorem ok__law_led (T : Tx K mg) : FnOk P w K mg base CX0 10 T.a__law_led T.d__law_led ["_law_box_here", "_law_line", "_law_most"] (spB K 3 F__law_led) := by
    refine T.F__law_led.ok sc__law_led (fun vs H Q E h => h.1) (fun cdv A outer s H vs Q E hr h => ?_)
    have nd := sc__law_led.nd
    exact ⟨_, (pss_cons (ps_if (pt_cmpR (op_eqU hr) (pe_call (ok__law_take T 8) (hr.mono (by decide)) (by rfl) T.m__law_take T.F__law_take.kp T.b__law_take .nil pass0 (pa_cons (pv 0) (pa_cons pe_int pa_nil))) pe_int (nomark _)) (pss_one (ps_ret (pe_ix ix_seq (pe_call (ok__law_stroll T) (hr.mono (by decide)) (by rfl) T.m__law_stroll T.F__law_stroll.kp T.b__law_stroll .nil pass0 (pa_cons (pv 0) (pa_cons (pv 1) (pa_cons (pv 2) pa_nil)))) pe_int (fun _ _ => rfl)))) pss_nil) (pss_cons (ps_for PassesOwn.never rfl (pi_seqU (pe_call (ok__law_strewn T) (hr.mono (by decide)) (by rfl) T.m__law_strewn T.F__law_strewn.kp T.b__law_strewn .nil pass0 (pa_cons (pv 0) (pa_cons (pe_listRg (by rfl) (by rfl) T.n_list (prg_1 (by rfl) T.n_range (pe_callB call_lenU (by rfl) T.n_len (by decide +kernel) (pa_cons (pv 1) pa_nil)))) pa_nil)))) (pg_name (i := 3) nd rfl (Or.inl rfl)) (pss_one (ps_set (i := 1) nd rfl (Or.inl rfl) (pe_call (ok__law_call T) (hr.mono (by decide)) (by rfl) T.m__law_call T.F__law_call.kp T.b__law_call .nil pass0 (pa_cons (pv 1) (pa_cons (pv 3) pa_nil)))))) (pss_one (ps_ret (pv 1))))),
      run_B (N := N__law_led) (ds_seq (ds_if (dt_test (de_op sn_eqW (do_e (de_callB (Fl__law_take _) (da_cons (do_e de_int) da_nil))) (do_e de_int))) (ds_ret (de_op sn_ix (do_e (de_callB callB_len (da_cons (do_e de_v) (da_cons (do_e de_v) da_nil)))) (do_e de_int))) ds_next) (ds_seq (ds_for (ws := [3]) (di_seq (de_l (df_callBF callBF_len (da_cons (do_e (de_l (df_listRg1 (de_cb sn_len (da_cons (do_e de_v) da_nil))))) da_nil)))) (dg_name (by decide)) (ds_set (i := 1) (de_call callP_len (da_cons (do_e de_v) (da_cons (do_e de_v) da_nil))))) (ds_ret de_v))) (by decide) h⟩
theorem ok__law_of (T : Tx K mg) : FnOk P w K mg base CX0 9 T.a__law_of T.d__law_of ["_law_box_here", "_law_some"] (spB K 2 F__law_of) := by
    refine T.F__law_of.ok sc__law_of (fun vs H Q E h => h.1) (fun cdv A outer s H vs Q E hr h => ?_)
    have nd := sc__law_of.nd
    exact ⟨_, (pss_one (ps_ret (pe_ix ix_seq (pv 1) (pe_call (ok__law_take T 8) (hr.mono (by decide)) (by rfl) T.m__law_take T.F__law_take.kp T.b__law_take .nil pass0 (pa_cons (pv 0) (pa_cons (pe_callB call_lenU (by rfl) T.n_len (by decide +kernel) (pa_cons (pv 1) pa_nil)) pa_nil))) (fun _ _ => rfl)))),
      run_B (N := N__law_of) (ds_ret (de_op sn_ix (do_e de_v) (do_e (de_callB (Fl__law_take _) (da_cons (do_e (de_cb sn_len (da_cons (do_e de_v) da_nil))) da_nil))))) (by decide) h⟩
theorem ok__law_heaps (T : Tx K mg) : FnOk P w K mg base CX0 1 T.a__law_heaps T.d__law_heaps ["_law_line"] (spF K 1 F__law_heaps) := by
    refine T.F__law_heaps.ok sc__law_heaps (fun vs H Q E h => h.1) (fun cdv A outer s H vs Q E hr h => ?_)
    have nd := sc__law_heaps.nd
    exact ⟨_, (pss_cons (ps_set (i := 1) nd rfl (Or.inl rfl) (pe_lst pa_nil)) (pss_cons (ps_for PassesOwn.never rfl (pi_range1 (by rfl) T.n_range (pa_cons (pe_callB call_lenU (by rfl) T.n_len (by decide +kernel) (pa_cons (pv 0) pa_nil)) pa_nil)) (pg_name (i := 2) nd rfl (Or.inl rfl)) (pss_one (ps_if (PW.pt (pw_and (pt_cmpR op_gt (pv 2) pe_int (nomark _)) (pw_and1 (pt_cmpR (op_eqU hr) (pe_ix ix_seq (pv 0) (pv 2) (fun _ _ => rfl)) (pe_ix ix_seq (pv 0) (pe_op op_sub (pv 2) pe_int) (fun _ _ => rfl)) (nomark _))))) (pss_one (ps_asg (pe_tup (pa_cons (pe_ix ix_seq (pe_ix ix_seq (pv 1) (pe_un un_neg pe_int) (fun _ _ => rfl)) pe_int (fun _ _ => rfl)) (pa_cons (pv 2) pa_nil))) (pg_sub (pv 1) (pe_un un_neg pe_int) set_list))) (pss_one (ps_expr (pe_bm PySem.F.plainAttrs_list PySem.F.slot_list_append PySem.F.type_list_append mt_append (pv 1) (pa_cons (pe_tup (pa_cons (pv 2) (pa_cons (pv 2) pa_nil))) pa_nil))))))) (pss_one (ps_ret (pv 1))))),
      run_F (N := N__law_heaps) (ds_seq (ds_setO (i := 1) (df_lst da_nil)) (ds_seq (ds_for (ws := [2]) (di_rng1 (da_cons (do_e (de_cb sn_len (da_cons (do_e de_v) da_nil))) da_nil)) (dg_name (by decide)) (ds_if (dt_and (dt_test (de_op sn_gt (do_e de_v) (do_e de_int))) (dt_test (de_op sn_eqW (do_e (de_op sn_ix (do_e de_v) (do_e de_v))) (do_e (de_op sn_ix (do_e de_v) (do_e (de_op sn_sub (do_e de_v) (do_e de_int)))))))) (ds_putIx (de_tup (da_cons (do_e (de_op sn_ix (do_e (de_op sn_ix do_v (do_e (de_un sn_neg (do_e de_int))))) (do_e de_int))) (da_cons (do_e de_v) da_nil))) (de_un sn_neg (do_e de_int))) (ds_app (de_tup (da_cons (do_e de_v) (da_cons (do_e de_v) da_nil)))))) ds_retO)) (by decide) h⟩
theorem ok__law_pieces (T : Tx K mg) : FnOk P w K mg base CX0 2 T.a__law_pieces T.d__law_pieces ["_law_line", "_law_there"] (spF K 2 F__law_pieces) := by
    refine T.F__law_pieces.ok sc__law_pieces (fun vs H Q E h => h.1) (fun cdv A outer s H vs Q E hr h => ?_)
    have nd := sc__law_pieces.nd
    exact ⟨_, (pss_cons (ps_set (i := 2) nd rfl (Or.inl rfl) (pe_lst pa_nil)) (pss_cons (ps_for PassesOwn.never rfl (pi_seqU (pe_call (ok__law_heaps T) (hr.mono (by decide)) (by rfl) T.m__law_heaps T.F__law_heaps.kp T.b__law_heaps .nil pass0 (pa_cons (pv 1) pa_nil))) (pg_tup rfl (pgs_cons (pg_name (i := 3) nd rfl (Or.inl rfl)) (pgs_cons (pg_name (i := 4) nd rfl (Or.inl rfl)) pgs_nil))) (pss_cons (ps_set (i := 5) nd rfl (Or.inl rfl) (pe_lst pa_nil)) (pss_one (ps_for PassesOwn.never rfl (pi_range2 (by rfl) T.n_range (pa_cons (pv 3) (pa_cons (pe_op op_addU (pv 4) pe_int) pa_nil))) (pg_name (i := 6) nd rfl (Or.inl rfl)) (pss_one (ps_if (PW.pt (pw_and (pt_cmpR op_le (pv 6) (pv 4) (nomark _)) (pw_and1 (pt_cmpR (op_neU hr) (pe_ix ix_seq (pv 0) (pv 6) (fun _ _ => rfl)) (pe_ix ix_seq (pv 1) (pv 6) (fun _ _ => rfl)) (nomark _))))) (pss_one (ps_expr (pe_bm PySem.F.plainAttrs_list PySem.F.slot_list_append PySem.F.type_list_append mt_append (pv 5) (pa_cons (pv 6) pa_nil)))) (pss_one (ps_if (pt_cmpR (op_neU hr) (pv 5) (pe_lst pa_nil) (nomark _)) (pss_cons (ps_expr (pe_bm PySem.F.plainAttrs_list PySem.F.slot_list_append PySem.F.type_list_append mt_append (pv 2) (pa_cons (pe_tup (pa_cons (pe_callTy call_tupleU (by rfl) T.n_tuple (by decide +kernel) (pa_cons (pv 5) pa_nil)) (pa_cons (pe_cmpR op_gt (pe_ix ix_seq (pv 5) pe_int (fun _ _ => rfl)) (pv 3) (nomark _)) (pa_cons (pe_cmpR op_lt (pe_ix ix_seq (pv 5) (pe_un un_neg pe_int) (fun _ _ => rfl)) (pv 4) (nomark _)) pa_nil)))) pa_nil))) (pss_one (ps_set (i := 5) nd rfl (Or.inl rfl) (pe_lst pa_nil)))) pss_nil)))))))) (pss_one (ps_ret (pv 2))))),
      run_F (N := N__law_pieces) (ds_seq (ds_setO (i := 2) (df_lst da_nil)) (ds_seq (ds_for (ws := [3, 4]) (di_seq (de_l (df_call callF_len (da_cons (do_e de_v) da_nil)))) (dg_tup (dgs_cons (dg_name (by decide)) (dgs_cons (dg_name (by decide)) dgs_nil))) (ds_seq (ds_setO (i := 5) (df_lst da_nil)) (ds_for (ws := [6]) (di_rng2 (da_cons (do_e de_v) (da_cons (do_e (de_op sn_addU (do_e de_v) (do_e de_int))) da_nil))) (dg_name (by decide)) (ds_if (dt_and (dt_test (de_op sn_le (do_e de_v) (do_e de_v))) (dt_test (de_op sn_neW (do_e (de_op sn_ix (do_e de_v) (do_e de_v))) (do_e (de_op sn_ix (do_e de_v) (do_e de_v)))))) (ds_app de_v) (ds_if (dt_test (de_op sn_neW do_v (do_e (de_l (df_lst da_nil))))) (ds_seq (ds_app (de_tup (da_cons (do_e (de_cb sn_tuple (da_cons do_v da_nil))) (da_cons (do_e (de_op sn_gt (do_e (de_op sn_ix do_v (do_e de_int))) (do_e de_v))) (da_cons (do_e (de_op sn_lt (do_e (de_op sn_ix do_v (do_e (de_un sn_neg (do_e de_int))))) (do_e de_v))) da_nil))))) (ds_setO (i := 5) (df_lst da_nil))) ds_next))))) ds_retO)) (by decide) h⟩
theorem ok__law_random_line (T : Tx K mg) : FnOk P w K mg base CX0 9 T.a__law_random_line T.d__law_random_line ["_law_box_here", "_law_most", "_law_top"] (spB K 3 F__law_random_line) := by
    refine T.F__law_random_line.ok sc__law_random_line (fun vs H Q E h => h.1) (fun cdv A outer s H vs Q E hr h => ?_)
    have nd := sc__law_random_line.nd
    exact ⟨_, (pss_cons (ps_par (i := 3) (j := 4) (by rfl) nd rfl rfl (by decide) rfl rfl (pa_cons (pe_call (ok__law_take T 8) (hr.mono (by decide)) (by rfl) T.m__law_take T.F__law_take.kp T.b__law_take .nil pass0 (pa_cons (pv 0) (pa_cons pe_int pa_nil))) (pa_cons (pe_lst pa_nil) pa_nil)) (by rfl)) (pss_cons (ps_for PassesOwn.never rfl (pi_range1 (by rfl) T.n_range (pa_cons (pe_call (ok__law_take T 8) (hr.mono (by decide)) (by rfl) T.m__law_take T.F__law_take.kp T.b__law_take .nil pass0 (pa_cons (pv 0) (pa_cons (pe_op op_addU (pv 1) pe_int) pa_nil))) pa_nil)) (pg_name (i := 5) nd rfl (Or.inl rfl)) (pss_cons (ps_set (i := 6) nd rfl (Or.inl rfl) (pe_op op_sub (pe_call (ok__law_take T 8) (hr.mono (by decide)) (by rfl) T.m__law_take T.F__law_take.kp T.b__law_take .nil pass0 (pa_cons (pv 0) (pa_cons (pe_op op_addU (pe_op op_mulT pe_int (pv 2)) pe_int) pa_nil))) (pv 2))) (pss_cons (ps_if (pt_cmpR op_lt (pv 3) pe_int (nomark _)) (pss_one (ps_set (i := 6) nd rfl (Or.inl rfl) (pe_op op_addU (pe_op op_mulT (pe_call (ok__law_take T 8) (hr.mono (by decide)) (by rfl) T.m__law_take T.F__law_take.kp T.b__law_take .nil pass0 (pa_cons (pv 0) (pa_cons (pe_callB (call_max2U rfl) (by rfl) T.n_max (by decide +kernel) (pa_cons pe_int (pa_cons (pv 2) pa_nil))) pa_nil))) (pe_op op_sub pe_int (pe_op op_mulT pe_int (pe_op op_mod (pv 5) pe_int)))) (pv 3)))) pss_nil) (pss_cons (ps_if (PW.pt (pw_and (pt_cmpR (op_eqU hr) (pv 3) pe_int (nomark _)) (pw_and (pt_cmpR (op_neU hr) (pv 4) (pe_lst pa_nil) (nomark _)) (pw_and1 (pt_cmpR (op_eqU hr) (pe_call (ok__law_take T 8) (hr.mono (by decide)) (by rfl) T.m__law_take T.F__law_take.kp T.b__law_take .nil pass0 (pa_cons (pv 0) (pa_cons pe_int pa_nil))) pe_int (nomark _)))))) (pss_one (ps_set (i := 6) nd rfl (Or.inl rfl) (pe_ix ix_seq (pv 4) (pe_call (ok__law_take T 8) (hr.mono (by decide)) (by rfl) T.m__law_take T.F__law_take.kp T.b__law_take .nil pass0 (pa_cons (pv 0) (pa_cons (pe_callB call_lenU (by rfl) T.n_len (by decide +kernel) (pa_cons (pv 4) pa_nil)) pa_nil))) (fun _ _ => rfl)))) pss_nil) (pss_one (ps_expr (pe_bm PySem.F.plainAttrs_list PySem.F.slot_list_append PySem.F.type_list_append mt_append (pv 4) (pa_cons (pv 6) pa_nil)))))))) (pss_one (ps_ret (pe_callTy call_tupleU (by rfl) T.n_tuple (by decide +kernel) (pa_cons (pv 4) pa_nil)))))),
      run_B (N := N__law_random_line) (ds_seq (ds_par (dn_s (de_callB (Fl__law_take _) (da_cons (do_e de_int) da_nil))) (dn_f (df_lst da_nil))) (ds_seq (ds_for (ws := [5]) (di_rng1 (da_cons (do_e (de_callB (Fl__law_take _) (da_cons (do_e (de_op sn_addU (do_e de_v) (do_e de_int))) da_nil))) da_nil)) (dg_name (by decide)) (ds_seq (ds_set (i := 6) (de_op sn_sub (do_e (de_callB (Fl__law_take _) (da_cons (do_e (de_op sn_addU (do_e (de_op sn_mulV (do_e de_int) (do_e de_v))) (do_e de_int))) da_nil))) (do_e de_v))) (ds_seq (ds_if (dt_test (de_op sn_lt (do_e de_v) (do_e de_int))) (ds_set (i := 6) (de_op sn_addU (do_e (de_op sn_mulV (do_e (de_callB (Fl__law_take _) (da_cons (do_e (de_cb sn_max2 (da_cons (do_e de_int) (da_cons (do_e de_v) da_nil)))) da_nil))) (do_e (de_op sn_sub (do_e de_int) (do_e (de_op sn_mulV (do_e de_int) (do_e (de_op sn_mod (do_e de_v) (do_e de_int))))))))) (do_e de_v))) ds_next) (ds_seq (ds_if (dt_and (dt_test (de_op sn_eqW (do_e de_v) (do_e de_int))) (dt_and (dt_test (de_op sn_neW do_v (do_e (de_l (df_lst da_nil))))) (dt_test (de_op sn_eqW (do_e (de_callB (Fl__law_take _) (da_cons (do_e de_int) da_nil))) (do_e de_int))))) (ds_set (i := 6) (de_op sn_ix do_v (do_e (de_callB (Fl__law_take _) (da_cons (do_e (de_cb sn_len (da_cons do_v da_nil))) da_nil))))) ds_next) (ds_app de_v))))) (ds_ret (de_cb sn_tuple (da_cons do_v da_nil))))) (by decide) h⟩
theorem ok__law_same (T : Tx K mg) : ∀ n : Nat, FnOk P w K mg base CX0 (0 + n) T.a__law_same T.d__law_same ["_law_found", "_law_due"] (spP K 2 (F__law_same n))
  | 0 => fn_noneP rfl
  | n + 1 => by
    have ih := ok__law_same T n
    have hFl := Fl__law_same n
    refine T.F__law_same.ok sc__law_same (fun vs H Q E h => h.1) (fun cdv A outer s H vs Q E hr h => ?_)
    have nd := sc__law_same.nd
    exact ⟨_, (pss_cons (ps_if (pt_val (pe_callB call_isiT (by rfl) T.n_isinstance (by decide +kernel) (pa_cons (pv 1) (pa_cons (pe_tup (pa_cons (pe_bltn (v := .ty "list") (by rfl) T.n_list (by decide +kernel) rfl) (pa_cons (pe_bltn (v := .ty "tuple") (by rfl) T.n_tuple (by decide +kernel) rfl) pa_nil))) pa_nil)))) (pss_cons (ps_if (PW.pt (pw_or (pt_cmpR (op_neU hr) (pe_callB call_isi (by rfl) T.n_isinstance (by decide +kernel) (pa_cons (pv 0) (pa_cons (pe_bltn (v := .ty "list") (by rfl) T.n_list (by decide +kernel) rfl) pa_nil))) (pe_callB call_isi (by rfl) T.n_isinstance (by decide +kernel) (pa_cons (pv 1) (pa_cons (pe_bltn (v := .ty "list") (by rfl) T.n_list (by decide +kernel) rfl) pa_nil))) (nomark _)) (pw_or1 (pt_cmpR (op_neU hr) (pe_callB call_isi (by rfl) T.n_isinstance (by decide +kernel) (pa_cons (pv 0) (pa_cons (pe_bltn (v := .ty "tuple") (by rfl) T.n_tuple (by decide +kernel) rfl) pa_nil))) (pe_callB call_isi (by rfl) T.n_isinstance (by decide +kernel) (pa_cons (pv 1) (pa_cons (pe_bltn (v := .ty "tuple") (by rfl) T.n_tuple (by decide +kernel) rfl) pa_nil))) (nomark _))))) (pss_one (ps_ret pe_bl)) pss_nil) (pss_one (ps_ret (pe_and (pe_cmpR (op_eqU hr) (pe_callB call_lenU (by rfl) T.n_len (by decide +kernel) (pa_cons (pv 0) pa_nil)) (pe_callB call_lenU (by rfl) T.n_len (by decide +kernel) (pa_cons (pv 1) pa_nil)) (nomark _)) (pe_one (pe_callB (cr_all rfl) (by rfl) T.n_all (by decide +kernel) (pa_cons (pe_lc (own := [("_law_mine", 2), ("_law_its", 3)]) (by rfl) nd (pi_zipU (by rfl) T.n_zip (pa_cons (pv 0) (pa_cons (pv 1) pa_nil))) (blkOk_by (own := [("_law_mine", 2), ("_law_its", 3)]) (N := N__law_same) (sc := defScope s__law_same) (by decide +kernel)) (fun _ _ _ _ _ => (pg_tup rfl (pgs_cons (pg_name (i := 2) nd rfl (Or.inl rfl)) (pgs_cons (pg_name (i := 3) nd rfl (Or.inl rfl)) pgs_nil)))) (fun _ _ _ _ _ => pts_nil) (fun _ _ _ _ _ => (pe_call ih (hr.mono (Nat.le_refl _)) (by rfl) T.m__law_same T.F__law_same.kp T.b__law_same .nil pass0 (pa_cons (pv 2) (pa_cons (pv 3) pa_nil))))) pa_nil))))))) pss_nil) (pss_cons (ps_if (PW.pt (pw_or (pt_cmpR op_isU (pv 1) pe_non (nomark _)) (pw_or1 (pt_val (pe_callB call_isiT (by rfl) T.n_isinstance (by decide +kernel) (pa_cons (pv 1) (pa_cons (pe_tup (pa_cons (pe_bltn (v := .ty "str") (by rfl) T.n_str (by decide +kernel) rfl) (pa_cons (pe_bltn (v := .ty "bool") (by rfl) T.n_bool (by decide +kernel) rfl) pa_nil))) pa_nil))))))) (pss_one (ps_ret (pe_and (pe_cmpR (op_eqU hr) (pv 0) (pv 1) (nomark _)) (pe_and (pe_cmpR (op_eqU hr) (pe_callB call_isi (by rfl) T.n_isinstance (by decide +kernel) (pa_cons (pv 0) (pa_cons (pe_bltn (v := .ty "bool") (by rfl) T.n_bool (by decide +kernel) rfl) pa_nil))) (pe_callB call_isi (by rfl) T.n_isinstance (by decide +kernel) (pa_cons (pv 1) (pa_cons (pe_bltn (v := .ty "bool") (by rfl) T.n_bool (by decide +kernel) rfl) pa_nil))) (nomark _)) (pe_one (pe_cmpR (op_eqU hr) (pe_cmpR op_isU (pv 0) pe_non (nomark _)) (pe_cmpR op_isU (pv 1) pe_non (nomark _)) (nomark _))))))) pss_nil) (pss_one (ps_ret (pe_and (pe_callB call_isi (by rfl) T.n_isinstance (by decide +kernel) (pa_cons (pv 0) (pa_cons (pe_bltn (v := .ty "int") (by rfl) T.n_int (by decide +kernel) rfl) pa_nil))) (pe_and (pe_not (pe_callB call_isi (by rfl) T.n_isinstance (by decide +kernel) (pa_cons (pv 0) (pa_cons (pe_bltn (v := .ty "bool") (by rfl) T.n_bool (by decide +kernel) rfl) pa_nil)))) (pe_one (pe_cmpR (op_eqU hr) (pv 0) (pv 1) (nomark _))))))))),
      run_P (N := N__law_same) (ds_seq (ds_if (dt_B (de_isiT (Ts := ["list", "tuple"]) (by decide) (do_e de_v))) (ds_seq (ds_if (dt_or (dt_test (de_op sn_neW (do_e (de_isi (do_e de_v))) (do_e (de_isi (do_e de_v))))) (dt_test (de_op sn_neW (do_e (de_isi (do_e de_v))) (do_e (de_isi (do_e de_v)))))) (ds_ret de_bl) ds_next) (ds_ret (de_and (de_op sn_eqW (do_e (de_cb sn_len (da_cons (do_e de_v) da_nil))) (do_e (de_cb sn_len (da_cons (do_e de_v) da_nil)))) (de_cb sn_all (da_cons (do_e (de_l (df_lc (di_zip (da_cons (do_e de_v) (da_cons (do_e de_v) da_nil))) (dg_tup (dgs_cons (dg_name (by decide)) (dgs_cons (dg_name (by decide)) dgs_nil))) dt_yes (de_call hFl (da_cons (do_e de_v) (da_cons (do_e de_v) da_nil)))))) da_nil))))) ds_next) (ds_seq (ds_if (dt_or (dt_test (de_op sn_is (do_e de_v) (do_e de_non))) (dt_B (de_isiT (Ts := ["str", "bool"]) (by decide) (do_e de_v)))) (ds_ret (de_and (de_op sn_eqW (do_e de_v) (do_e de_v)) (de_and (de_op sn_eqW (do_e (de_isi (do_e de_v))) (do_e (de_isi (do_e de_v)))) (de_op sn_eqW (do_e (de_op sn_is (do_e de_v) (do_e de_non))) (do_e (de_op sn_is (do_e de_v) (do_e de_non))))))) ds_next) (ds_ret (de_and (de_isi (do_e de_v)) (de_and (de_not (de_isi (do_e de_v))) (de_op sn_eqW (do_e de_v) (do_e de_v))))))) (by decide) h⟩
theorem ok_look_many (T : Tx K mg) : FnOk P w K mg base (L2.CX P w) 3 T.a_look_many T.d_look_many ["one", "other"] (spX K 2 F_look_many) := by
    refine T.F_look_many.okX sc_look_many (fun vs H Q E h => h.1) (fun cdv A outer s H vs Q E hr h => ?_)
    have nd := sc_look_many.nd
    exact ⟨_, (pss_one (ps_if (pt_cmpR (op_neU hr) (pe_callB call_lenU (by rfl) T.n_len (by decide +kernel) (pa_cons (pv 0) pa_nil)) (pe_callB call_lenU (by rfl) T.n_len (by decide +kernel) (pa_cons (pv 1) pa_nil)) (nomark _)) (pss_one (ps_raise rfl (takes_of rfl rfl rfl rfl) (pmk_ox DLX.bs_V (ox_OtherPeople T) (hr.mono (by decide)) (by rfl) T.m_OtherPeople (pa_cons (pe_callB call_lenU (by rfl) T.n_len (by decide +kernel) (pa_cons (pv 1) pa_nil)) pa_nil)))) pss_nil)),
      run_X (N := N_look_many) (ds_if (dt_test (de_op sn_neW (do_e (de_cb sn_len (da_cons (do_e de_v) da_nil))) (do_e (de_cb sn_len (da_cons (do_e de_v) da_nil))))) (ds_raise T.cc_OtherPeople rfl (de_cb sn_len (da_cons (do_e de_v) da_nil))) ds_next) (by decide) h⟩
theorem ok_inner (T : Tx K mg) : FnOk P w K mg base CX0 1 T.a_inner T.d_inner ["row"] (spF K 1 F_inner) := by
    refine T.F_inner.ok sc_inner (fun vs H Q E h => h.1) (fun cdv A outer s H vs Q E hr h => ?_)
    have nd := sc_inner.nd
    exact ⟨_, (pss_one (ps_ret (pe_listRg (by rfl) (by rfl) T.n_list (prg_2 (by rfl) T.n_range pe_int (pe_op op_sub (pe_callB call_lenU (by rfl) T.n_len (by decide +kernel) (pa_cons (pv 0) pa_nil)) pe_int))))),
      run_F (N := N_inner) (ds_retF (df_listRg2 de_int (de_op sn_sub (do_e (de_cb sn_len (da_cons (do_e de_v) da_nil))) (do_e de_int)))) (by decide) h⟩
theorem ok_dips (T : Tx K mg) : FnOk P w K mg base CX0 2 T.a_dips T.d_dips ["row"] (spF K 1 F_dips) := by
    refine T.F_dips.ok sc_dips (fun vs H Q E h => h.1) (fun cdv A outer s H vs Q E hr h => ?_)
    have nd := sc_dips.nd
    exact ⟨_, (pss_one (ps_ret (pe_lc (own := [("person", 1)]) (by rfl) nd (pi_seqU (pe_call (ok_inner T) (hr.mono (by decide)) (by rfl) T.m_inner T.F_inner.kp T.b_inner .nil pass0 (pa_cons (pv 0) pa_nil))) (blkOk_by (own := [("person", 1)]) (N := N_dips) (sc := defScope s_dips) (by decide +kernel)) (fun _ _ _ _ _ => (pg_name (i := 1) nd rfl (Or.inl rfl))) (fun _ _ _ _ _ => (pts_one (pt_chain op_gt op_lt (pe_ix ix_seq (pv 0) (pe_op op_sub (pv 1) pe_int) (fun _ _ => rfl)) (pe_ix ix_seq (pv 0) (pv 1) (fun _ _ => rfl)) (pe_ix ix_seq (pv 0) (pe_op op_addU (pv 1) pe_int) (fun _ _ => rfl))))) (fun _ _ _ _ _ => (pv 1))))),
      run_F (N := N_dips) (ds_retF (df_lc (di_seq (de_l (df_call callF_len (da_cons (do_e de_v) da_nil)))) (dg_name (by decide)) (dt_test (de_chain sn_gt sn_lt (do_e (de_op sn_ix (do_e de_v) (do_e (de_op sn_sub (do_e de_v) (do_e de_int))))) (do_e (de_op sn_ix (do_e de_v) (do_e de_v))) (do_e (de_op sn_ix (do_e de_v) (do_e (de_op sn_addU (do_e de_v) (do_e de_int))))))) de_v)) (by decide) h⟩
theorem ok_tops (T : Tx K mg) : FnOk P w K mg base CX0 2 T.a_tops T.d_tops ["row"] (spF K 1 F_tops) := by
    refine T.F_tops.ok sc_tops (fun vs H Q E h => h.1) (fun cdv A outer s H vs Q E hr h => ?_)
    have nd := sc_tops.nd
    exact ⟨_, (pss_one (ps_ret (pe_lc (own := [("person", 1)]) (by rfl) nd (pi_seqU (pe_call (ok_inner T) (hr.mono (by decide)) (by rfl) T.m_inner T.F_inner.kp T.b_inner .nil pass0 (pa_cons (pv 0) pa_nil))) (blkOk_by (own := [("person", 1)]) (N := N_tops) (sc := defScope s_tops) (by decide +kernel)) (fun _ _ _ _ _ => (pg_name (i := 1) nd rfl (Or.inl rfl))) (fun _ _ _ _ _ => (pts_one (pt_chain op_lt op_gt (pe_ix ix_seq (pv 0) (pe_op op_sub (pv 1) pe_int) (fun _ _ => rfl)) (pe_ix ix_seq (pv 0) (pv 1) (fun _ _ => rfl)) (pe_ix ix_seq (pv 0) (pe_op op_addU (pv 1) pe_int) (fun _ _ => rfl))))) (fun _ _ _ _ _ => (pv 1))))),
      run_F (N := N_tops) (ds_retF (df_lc (di_seq (de_l (df_call callF_len (da_cons (do_e de_v) da_nil)))) (dg_name (by decide)) (dt_test (de_chain sn_lt sn_gt (do_e (de_op sn_ix (do_e de_v) (do_e (de_op sn_sub (do_e de_v) (do_e de_int))))) (do_e (de_op sn_ix (do_e de_v) (do_e de_v))) (do_e (de_op sn_ix (do_e de_v) (do_e (de_op sn_addU (do_e de_v) (do_e de_int))))))) de_v)) (by decide) h⟩
theorem ok_wrong_changes (T : Tx K mg) : FnOk P w K mg base CX0 3 T.a_wrong_changes T.d_wrong_changes ["one", "other"] (spF K 2 F_wrong_changes) := by
    refine T.F_wrong_changes.ok sc_wrong_changes (fun vs H Q E h => h.1) (fun cdv A outer s H vs Q E hr h => ?_)
    have nd := sc_wrong_changes.nd
    exact ⟨_, (pss_cons (ps_par3 (i := 2) (j := 3) (l := 4) (by rfl) nd rfl rfl rfl (by decide) (by decide) (by decide) rfl rfl rfl (pa_cons (pe_call (ok_tops T) (hr.mono (by decide)) (by rfl) T.m_tops T.F_tops.kp T.b_tops .nil pass0 (pa_cons (pv 0) pa_nil)) (pa_cons (pe_call (ok_dips T) (hr.mono (by decide)) (by rfl) T.m_dips T.F_dips.kp T.b_dips .nil pass0 (pa_cons (pv 0) pa_nil)) (pa_cons (pe_lst pa_nil) pa_nil))) (by rfl)) (pss_cons (ps_for PassesOwn.never rfl (pi_enumZip (by rfl) T.n_enumerate (by rfl) T.n_zip (pa_cons (pv 0) (pa_cons (pv 1) pa_nil))) (pg_tup rfl (pgs_cons (pg_name (i := 5) nd rfl (Or.inl rfl)) (pgs_cons (pg_tup rfl (pgs_cons (pg_name (i := 6) nd rfl (Or.inl rfl)) (pgs_cons (pg_name (i := 7) nd rfl (Or.inl rfl)) pgs_nil))) pgs_nil))) (pss_one (ps_if (pt_not (PW.pt (pw_or (pt_cmpR (op_eqU hr) (pv 6) (pv 7) (nomark _)) (pw_or (PW.pt (pw_and (pt_cmpR op_in_seq (pv 5) (pv 2) (by rfl)) (pw_and1 (pt_cmpR op_lt (pv 7) (pv 6) (nomark _))))) (pw_or1 (PW.pt (pw_and (pt_cmpR op_in_seq (pv 5) (pv 3) (by rfl)) (pw_and1 (pt_cmpR op_gt (pv 7) (pv 6) (nomark _)))))))))) (pss_one (ps_expr (pe_bm PySem.F.plainAttrs_list PySem.F.slot_list_append PySem.F.type_list_append mt_append (pv 4) (pa_cons (pv 5) pa_nil)))) pss_nil))) (pss_one (ps_ret (pv 4))))),
      run_F (N := N_wrong_changes) (ds_seq (ds_par3f (de_l (df_call callF_len (da_cons (do_e de_v) da_nil))) (de_l (df_call callF_len (da_cons (do_e de_v) da_nil))) (df_lst da_nil)) (ds_seq (ds_for (ws := [5, 6, 7]) (di_enumZip (da_cons (do_e de_v) (da_cons (do_e de_v) da_nil))) (dg_tup (dgs_cons (dg_name (by decide)) (dgs_cons (dg_tup (dgs_cons (dg_name (by decide)) (dgs_cons (dg_name (by decide)) dgs_nil))) dgs_nil))) (ds_if (dt_not (dt_or (dt_test (de_op sn_eqW (do_e de_v) (do_e de_v))) (dt_or (dt_and (dt_test (de_op sn_in (do_e de_v) (do_e de_v))) (dt_test (de_op sn_lt (do_e de_v) (do_e de_v)))) (dt_and (dt_test (de_op sn_in (do_e de_v) (do_e de_v))) (dt_test (de_op sn_gt (do_e de_v) (do_e de_v))))))) (ds_app de_v) ds_next)) ds_retO)) (by decide) h⟩
theorem ok_wrong_orders (T : Tx K mg) : FnOk P w K mg base CX0 1 T.a_wrong_orders T.d_wrong_orders ["one", "other"] (spF K 2 F_wrong_orders) := by
    refine T.F_wrong_orders.ok sc_wrong_orders (fun vs H Q E h => h.1) (fun cdv A outer s H vs Q E hr h => ?_)
    have nd := sc_wrong_orders.nd
    exact ⟨_, (pss_cons (ps_set (i := 2) nd rfl (Or.inl rfl) (pe_lst pa_nil)) (pss_cons (ps_for PassesOwn.never rfl (pi_range1 (by rfl) T.n_range (pa_cons (pe_op op_sub (pe_callB call_lenU (by rfl) T.n_len (by decide +kernel) (pa_cons (pv 0) pa_nil)) pe_int) pa_nil)) (pg_name (i := 3) nd rfl (Or.inl rfl)) (pss_cons (ps_par (i := 4) (j := 5) (by rfl) nd rfl rfl (by decide) rfl rfl (pa_cons (pe_op op_sub (pe_ix ix_seq (pv 0) (pe_op op_addU (pv 3) pe_int) (fun _ _ => rfl)) (pe_ix ix_seq (pv 0) (pv 3) (fun _ _ => rfl))) (pa_cons (pe_op op_sub (pe_ix ix_seq (pv 1) (pe_op op_addU (pv 3) pe_int) (fun _ _ => rfl)) (pe_ix ix_seq (pv 1) (pv 3) (fun _ _ => rfl))) pa_nil)) (by rfl)) (pss_one (ps_if (PW.pt (pw_or (pt_chain op_lt op_lt (pv 4) pe_int (pv 5)) (pw_or (pt_chain op_gt op_gt (pv 4) pe_int (pv 5)) (pw_or1 (pt_chain (op_eqU hr) (op_neU hr) (pv 4) pe_int (pv 5)))))) (pss_one (ps_expr (pe_bm PySem.F.plainAttrs_list PySem.F.slot_list_append PySem.F.type_list_append mt_append (pv 2) (pa_cons (pv 3) pa_nil)))) pss_nil)))) (pss_one (ps_ret (pv 2))))),
      run_F (N := N_wrong_orders) (ds_seq (ds_setO (i := 2) (df_lst da_nil)) (ds_seq (ds_for (ws := [3]) (di_rng1 (da_cons (do_e (de_op sn_sub (do_e (de_cb sn_len (da_cons (do_e de_v) da_nil))) (do_e de_int))) da_nil)) (dg_name (by decide)) (ds_seq (ds_par (dn_s (de_op sn_sub (do_e (de_op sn_ix (do_e de_v) (do_e (de_op sn_addU (do_e de_v) (do_e de_int))))) (do_e (de_op sn_ix (do_e de_v) (do_e de_v))))) (dn_s (de_op sn_sub (do_e (de_op sn_ix (do_e de_v) (do_e (de_op sn_addU (do_e de_v) (do_e de_int))))) (do_e (de_op sn_ix (do_e de_v) (do_e de_v)))))) (ds_if (dt_or (dt_test (de_chain sn_lt sn_lt (do_e de_v) (do_e de_int) (do_e de_v))) (dt_or (dt_test (de_chain sn_gt sn_gt (do_e de_v) (do_e de_int) (do_e de_v))) (dt_test (de_chain sn_eqW sn_neW (do_e de_v) (do_e de_int) (do_e de_v))))) (ds_app de_v) ds_next))) ds_retO)) (by decide) h⟩
theorem ok_runs (T : Tx K mg) : FnOk P w K mg base CX0 1 T.a_runs T.d_runs ["row"] (spF K 1 F_runs) := by
    refine T.F_runs.ok sc_runs (fun vs H Q E h => h.1) (fun cdv A outer s H vs Q E hr h => ?_)
    have nd := sc_runs.nd
    exact ⟨_, (pss_cons (ps_setLc (i := 1) (own := [("person", 2)]) (by rfl) nd rfl rfl (sw_true rfl rfl rfl (by decide +kernel)) (pi_range1 (by rfl) T.n_range (pa_cons (pe_callB call_lenU (by rfl) T.n_len (by decide +kernel) (pa_cons (pv 0) pa_nil)) pa_nil)) (blkOk_by (own := [("person", 2)]) (N := N_runs) (sc := defScope s_runs) (by decide +kernel)) (fun _ _ _ _ _ => (pg_name (i := 2) nd rfl (Or.inl rfl))) (fun _ _ _ _ _ => (pts_one (PW.pt (pw_or (pt_cmpR (op_eqU hr) (pv 2) pe_int (nomark _)) (pw_or1 (pt_cmpR (op_neU hr) (pe_ix ix_seq (pv 0) (pv 2) (fun _ _ => rfl)) (pe_ix ix_seq (pv 0) (pe_op op_sub (pv 2) pe_int) (fun _ _ => rfl)) (nomark _))))))) (fun _ _ _ _ _ => (pv 2))) (pss_one (ps_ret (pe_lc (own := [("first", 3), ("last", 4)]) (by rfl) nd (pi_zipU (by rfl) T.n_zip (pa_cons (pv 1) (pa_cons (pe_op op_addU (pe_slice sl_U (pv 1) (po_some pe_int) po_none) (pe_lst (pa_cons (pe_callB call_lenU (by rfl) T.n_len (by decide +kernel) (pa_cons (pv 0) pa_nil)) pa_nil))) pa_nil))) (blkOk_by (own := [("first", 3), ("last", 4)]) (N := N_runs) (sc := defScope s_runs) (by decide +kernel)) (fun _ _ _ _ _ => (pg_tup rfl (pgs_cons (pg_name (i := 3) nd rfl (Or.inl rfl)) (pgs_cons (pg_name (i := 4) nd rfl (Or.inl rfl)) pgs_nil)))) (fun _ _ _ _ _ => pts_nil) (fun _ _ _ _ _ => (pe_tup (pa_cons (pv 3) (pa_cons (pe_op op_sub (pv 4) pe_int) pa_nil)))))))),
      run_F (N := N_runs) (ds_seq (ds_set (i := 1) (de_l (df_lc (di_rng1 (da_cons (do_e (de_cb sn_len (da_cons (do_e de_v) da_nil))) da_nil)) (dg_name (by decide)) (dt_or (dt_test (de_op sn_eqW (do_e de_v) (do_e de_int))) (dt_test (de_op sn_neW (do_e (de_op sn_ix (do_e de_v) (do_e de_v))) (do_e (de_op sn_ix (do_e de_v) (do_e (de_op sn_sub (do_e de_v) (do_e de_int)))))))) de_v))) (ds_retF (df_lc (di_zip (da_cons (do_e de_v) (da_cons (do_e (de_op sn_addU (do_e (de_sl sn_sliceU (do_e de_v) (dp_so de_int) dp_no)) (do_e (de_l (df_lst (da_cons (do_e (de_cb sn_len (da_cons (do_e de_v) da_nil))) da_nil)))))) da_nil))) (dg_tup (dgs_cons (dg_name (by decide)) (dgs_cons (dg_name (by decide)) dgs_nil))) dt_yes (de_tup (da_cons (do_e de_v) (da_cons (do_e (de_op sn_sub (do_e de_v) (do_e de_int))) da_nil)))))) (by decide) h⟩
theorem ok_stayed (T : Tx K mg) : FnOk P w K mg base CX0 1 T.a_stayed T.d_stayed ["one", "other", "first", "last"] (spF K 4 F_stayed) := by
    refine T.F_stayed.ok sc_stayed (fun vs H Q E h => h.1) (fun cdv A outer s H vs Q E hr h => ?_)
    have nd := sc_stayed.nd
    exact ⟨_, (pss_one (ps_ret (pe_lc (own := [("person", 4)]) (by rfl) nd (pi_range2 (by rfl) T.n_range (pa_cons (pv 2) (pa_cons (pe_op op_addU (pv 3) pe_int) pa_nil))) (blkOk_by (own := [("person", 4)]) (N := N_stayed) (sc := defScope s_stayed) (by decide +kernel)) (fun _ _ _ _ _ => (pg_name (i := 4) nd rfl (Or.inl rfl))) (fun _ _ _ _ _ => (pts_one (pt_cmpR (op_eqU hr) (pe_ix ix_seq (pv 0) (pv 4) (fun _ _ => rfl)) (pe_ix ix_seq (pv 1) (pv 4) (fun _ _ => rfl)) (nomark _)))) (fun _ _ _ _ _ => (pv 4))))),
      run_F (N := N_stayed) (ds_retF (df_lc (di_rng2 (da_cons (do_e de_v) (da_cons (do_e (de_op sn_addU (do_e de_v) (do_e de_int))) da_nil))) (dg_name (by decide)) (dt_test (de_op sn_eqW (do_e (de_op sn_ix (do_e de_v) (do_e de_v))) (do_e (de_op sn_ix (do_e de_v) (do_e de_v))))) de_v)) (by decide) h⟩
theorem ok_wrong_runs (T : Tx K mg) : FnOk P w K mg base CX0 2 T.a_wrong_runs T.d_wrong_runs ["one", "other"] (spF K 2 F_wrong_runs) := by
    refine T.F_wrong_runs.ok sc_wrong_runs (fun vs H Q E h => h.1) (fun cdv A outer s H vs Q E hr h => ?_)
    have nd := sc_wrong_runs.nd
    exact ⟨_, (pss_one (ps_ret (pe_lc (own := [("first", 2), ("last", 3)]) (by rfl) nd (pi_seqU (pe_call (ok_runs T) (hr.mono (by decide)) (by rfl) T.m_runs T.F_runs.kp T.b_runs .nil pass0 (pa_cons (pv 1) pa_nil))) (blkOk_by (own := [("first", 2), ("last", 3)]) (N := N_wrong_runs) (sc := defScope s_wrong_runs) (by decide +kernel)) (fun _ _ _ _ _ => (pg_tup rfl (pgs_cons (pg_name (i := 2) nd rfl (Or.inl rfl)) (pgs_cons (pg_name (i := 3) nd rfl (Or.inl rfl)) pgs_nil)))) (fun _ _ _ _ _ => (pts_one (pt_cmpR (op_eqU hr) (pe_callB call_lenU (by rfl) T.n_len (by decide +kernel) (pa_cons (pe_call (ok_stayed T) (hr.mono (by decide)) (by rfl) T.m_stayed T.F_stayed.kp T.b_stayed .nil pass0 (pa_cons (pv 0) (pa_cons (pv 1) (pa_cons (pv 2) (pa_cons (pv 3) pa_nil))))) pa_nil)) pe_int (nomark _)))) (fun _ _ _ _ _ => (pv 2))))),
      run_F (N := N_wrong_runs) (ds_retF (df_lc (di_seq (de_l (df_call callF_len (da_cons (do_e de_v) da_nil)))) (dg_tup (dgs_cons (dg_name (by decide)) (dgs_cons (dg_name (by decide)) dgs_nil))) (dt_test (de_op sn_eqW (do_e (de_cb sn_len (da_cons (do_e (de_l (df_call callF_len (da_cons (do_e de_v) (da_cons (do_e de_v) (da_cons (do_e de_v) (da_cons (do_e de_v) da_nil))))))) da_nil))) (do_e de_int))) de_v)) (by decide) h⟩
theorem ok_bar (T : Tx K mg) : FnOk P w K mg base (L2.CX P w) 4 T.a_bar T.d_bar ["one", "other"] (spX K 2 F_bar) := by
    refine T.F_bar.okX sc_bar (fun vs H Q E h => h.1) (fun cdv A outer s H vs Q E hr h => ?_)
    have nd := sc_bar.nd
    exact ⟨_, (pss_cons (ps_expr (pe_callS (ok_look_many T) (hr.mono (by decide)) (by rfl) T.m_look_many T.F_look_many.kp T.b_look_many (fun σ => passAt (takes_of rfl rfl rfl rfl) σ) (pa_cons (pv 0) (pa_cons (pv 1) pa_nil)))) (pss_cons (ps_for (passes_of rfl) rfl (pi_seqU (pe_tup (pa_cons (pe_tup (pa_cons (pe_glob (v := .str "change") (by rfl) T.c_CHANGE ⟨_, rfl⟩) (pa_cons (pe_call (ok_wrong_changes T) (hr.mono (by decide)) (by rfl) T.m_wrong_changes T.F_wrong_changes.kp T.b_wrong_changes .nil pass0 (pa_cons (pv 0) (pa_cons (pv 1) pa_nil))) pa_nil))) (pa_cons (pe_tup (pa_cons (pe_glob (v := .str "order") (by rfl) T.c_ORDER ⟨_, rfl⟩) (pa_cons (pe_call (ok_wrong_orders T) (hr.mono (by decide)) (by rfl) T.m_wrong_orders T.F_wrong_orders.kp T.b_wrong_orders .nil pass0 (pa_cons (pv 0) (pa_cons (pv 1) pa_nil))) pa_nil))) pa_nil)))) (pg_tup rfl (pgs_cons (pg_name (i := 2) nd rfl (Or.inl rfl)) (pgs_cons (pg_name (i := 3) nd rfl (Or.inl rfl)) pgs_nil))) (pss_one (ps_if (pt_cmpR op_gt (pe_callB call_lenU (by rfl) T.n_len (by decide +kernel) (pa_cons (pv 3) pa_nil)) pe_int (nomark _)) (pss_one (ps_ret (pe_tup (pa_cons (pv 2) (pa_cons (pe_ix ix_seq (pv 3) pe_int (fun _ _ => rfl)) pa_nil))))) pss_nil))) (pss_cons (ps_set (i := 3) nd rfl (Or.inl rfl) (pe_call (ok_wrong_runs T) (hr.mono (by decide)) (by rfl) T.m_wrong_runs T.F_wrong_runs.kp T.b_wrong_runs .nil pass0 (pa_cons (pv 0) (pa_cons (pv 1) pa_nil)))) (pss_one (ps_ret (pe_ifExp (pt_cmpR op_gt (pe_callB call_lenU (by rfl) T.n_len (by decide +kernel) (pa_cons (pv 3) pa_nil)) pe_int (nomark _)) (pe_tup (pa_cons (pe_glob (v := .str "run") (by rfl) T.c_RUN ⟨_, rfl⟩) (pa_cons (pe_ix ix_seq (pv 3) pe_int (fun _ _ => rfl)) pa_nil))) pe_non)))))),
      run_X (N := N_bar) (ds_seq (ds_dropX (xd_callX callX_len (da_cons (do_e de_v) (da_cons (do_e de_v) da_nil)))) (ds_seq (ds_for (ws := [2, 3]) (di_seq (de_tup (da_cons (do_e (de_tup (da_cons (do_e de_str) (da_cons (do_e (de_l (df_call callF_len (da_cons (do_e de_v) (da_cons (do_e de_v) da_nil))))) da_nil)))) (da_cons (do_e (de_tup (da_cons (do_e de_str) (da_cons (do_e (de_l (df_call callF_len (da_cons (do_e de_v) (da_cons (do_e de_v) da_nil))))) da_nil)))) da_nil)))) (dg_tup (dgs_cons (dg_name (by decide)) (dgs_cons (dg_name (by decide)) dgs_nil))) (ds_if (dt_test (de_op sn_gt (do_e (de_cb sn_len (da_cons (do_e de_v) da_nil))) (do_e de_int))) (ds_ret (de_tup (da_cons (do_e de_v) (da_cons (do_e (de_op sn_ix (do_e de_v) (do_e de_int))) da_nil)))) ds_next)) (ds_seq (ds_set (i := 3) (de_l (df_call callF_len (da_cons (do_e de_v) (da_cons (do_e de_v) da_nil))))) (ds_ret (de_if (dt_test (de_op sn_gt (do_e (de_cb sn_len (da_cons (do_e de_v) da_nil))) (do_e de_int))) (de_tup (da_cons (do_e de_str) (da_cons (do_e (de_op sn_ix (do_e de_v) (do_e de_int))) da_nil))) de_non))))) (by decide) h⟩
theorem ok_look_leads (T : Tx K mg) : FnOk P w K mg base (L2.CX P w) 5 T.a_look_leads T.d_look_leads ["one", "other"] (spX K 2 F_look_leads) := by
    refine T.F_look_leads.okX sc_look_leads (fun vs H Q E h => h.1) (fun cdv A outer s H vs Q E hr h => ?_)
    have nd := sc_look_leads.nd
    exact ⟨_, (pss_cons (ps_set (i := 2) nd rfl (Or.inl rfl) (pe_callS (ok_bar T) (hr.mono (by decide)) (by rfl) T.m_bar T.F_bar.kp T.b_bar (fun σ => passAt (takes_of rfl rfl rfl rfl) σ) (pa_cons (pv 0) (pa_cons (pv 1) pa_nil)))) (pss_one (ps_if (pt_cmpR op_isNotU (pv 2) pe_non (nomark _)) (pss_one (ps_raise rfl (takes_of rfl rfl rfl rfl) (pmk_ox DLX.bs_R (ox_Barred T) (hr.mono (by decide)) (by rfl) T.m_Barred (pa_cons (pv 2) pa_nil)))) pss_nil))),
      run_X (N := N_look_leads) (ds_seq (ds_setX (i := 2) (xd_callX callX_len (da_cons (do_e de_v) (da_cons (do_e de_v) da_nil)))) (ds_if (dt_test (de_op sn_isNot (do_e de_v) (do_e de_non))) (ds_raise T.cc_Barred rfl de_v) ds_next)) (by decide) h⟩
theorem ok_changed (T : Tx K mg) : FnOk P w K mg base (L2.CX P w) 6 T.a_changed T.d_changed ["one", "other"] (spXF K 2 F_changed) := by
    refine T.F_changed.okX sc_changed (fun vs H Q E h => h.1) (fun cdv A outer s H vs Q E hr h => ?_)
    have nd := sc_changed.nd
    exact ⟨_, (pss_cons (ps_expr (pe_callS (ok_look_leads T) (hr.mono (by decide)) (by rfl) T.m_look_leads T.F_look_leads.kp T.b_look_leads (fun σ => passAt (takes_of rfl rfl rfl rfl) σ) (pa_cons (pv 0) (pa_cons (pv 1) pa_nil)))) (pss_one (ps_ret (pe_lc (own := [("person", 2), ("mine", 3), ("its", 4)]) (by rfl) nd (pi_enumZip (by rfl) T.n_enumerate (by rfl) T.n_zip (pa_cons (pv 0) (pa_cons (pv 1) pa_nil))) (blkOk_by (own := [("person", 2), ("mine", 3), ("its", 4)]) (N := N_changed) (sc := defScope s_changed) (by decide +kernel)) (fun _ _ _ _ _ => (pg_tup rfl (pgs_cons (pg_name (i := 2) nd rfl (Or.inl rfl)) (pgs_cons (pg_tup rfl (pgs_cons (pg_name (i := 3) nd rfl (Or.inl rfl)) (pgs_cons (pg_name (i := 4) nd rfl (Or.inl rfl)) pgs_nil))) pgs_nil)))) (fun _ _ _ _ _ => (pts_one (pt_cmpR (op_neU hr) (pv 3) (pv 4) (nomark _)))) (fun _ _ _ _ _ => (pv 2)))))),
      run_XF (N := N_changed) (ds_seq (ds_dropX (xd_callX callX_len (da_cons (do_e de_v) (da_cons (do_e de_v) da_nil)))) (ds_retF (df_lc (di_enumZip (da_cons (do_e de_v) (da_cons (do_e de_v) da_nil))) (dg_tup (dgs_cons (dg_name (by decide)) (dgs_cons (dg_tup (dgs_cons (dg_name (by decide)) (dgs_cons (dg_name (by decide)) dgs_nil))) dgs_nil))) (dt_test (de_op sn_neW (do_e de_v) (do_e de_v))) de_v))) (by decide) h⟩
theorem ok_distance (T : Tx K mg) : FnOk P w K mg base (L2.CX P w) 7 T.a_distance T.d_distance ["one", "other"] (spX K 2 F_distance) := by
    refine T.F_distance.okX sc_distance (fun vs H Q E h => h.1) (fun cdv A outer s H vs Q E hr h => ?_)
    have nd := sc_distance.nd
    exact ⟨_, (pss_one (ps_ret (pe_callB call_lenU (by rfl) T.n_len (by decide +kernel) (pa_cons (pe_callS (ok_changed T) (hr.mono (by decide)) (by rfl) T.m_changed T.F_changed.kp T.b_changed (fun σ => passAt (takes_of rfl rfl rfl rfl) σ) (pa_cons (pv 0) (pa_cons (pv 1) pa_nil))) pa_nil)))),
      run_X (N := N_distance) (ds_retX (xd_cb1 sn_len (xd_callXF callXF_len (da_cons (do_e de_v) (da_cons (do_e de_v) da_nil))))) (by decide) h⟩
theorem ok_next_calls (T : Tx K mg) : FnOk P w K mg base CX0 1 T.a_next_calls T.d_next_calls ["some"] (spF K 1 F_next_calls) := by
    refine T.F_next_calls.ok sc_next_calls (fun vs H Q E h => h.1) (fun cdv A outer s H vs Q E hr h => ?_)
    have nd := sc_next_calls.nd
    exact ⟨_, (pss_cons (ps_setLc (i := 1) (own := [("first", 2), ("last", 3), ("left", 4), ("right", 5)]) (by rfl) nd rfl rfl (sw_true rfl rfl rfl (by decide +kernel)) (pi_seqU (pv 0)) (blkOk_by (own := [("first", 2), ("last", 3), ("left", 4), ("right", 5)]) (N := N_next_calls) (sc := defScope s_next_calls) (by decide +kernel)) (fun _ _ _ _ _ => (pg_tup rfl (pgs_cons (pg_name (i := 2) nd rfl (Or.inl rfl)) (pgs_cons (pg_name (i := 3) nd rfl (Or.inl rfl)) (pgs_cons (pg_name (i := 4) nd rfl (Or.inl rfl)) (pgs_cons (pg_name (i := 5) nd rfl (Or.inl rfl)) pgs_nil)))))) (fun _ _ _ _ _ => (pts_one (pt_val (pv 4)))) (fun _ _ _ _ _ => (pv 2))) (pss_one (ps_ret (pe_srtSet (by rfl) T.n_sorted (by rfl) T.n_set (pe_op op_addU (pv 1) (pe_lc (own := [("first", 2), ("last", 3), ("left", 4), ("right", 5)]) (by rfl) nd (pi_seqU (pv 0)) (blkOk_by (own := [("first", 2), ("last", 3), ("left", 4), ("right", 5)]) (N := N_next_calls) (sc := defScope s_next_calls) (by decide +kernel)) (fun _ _ _ _ _ => (pg_tup rfl (pgs_cons (pg_name (i := 2) nd rfl (Or.inl rfl)) (pgs_cons (pg_name (i := 3) nd rfl (Or.inl rfl)) (pgs_cons (pg_name (i := 4) nd rfl (Or.inl rfl)) (pgs_cons (pg_name (i := 5) nd rfl (Or.inl rfl)) pgs_nil)))))) (fun _ _ _ _ _ => (pts_one (pt_val (pv 5)))) (fun _ _ _ _ _ => (pv 3)))))))),
      run_F (N := N_next_calls) (ds_seq (ds_set (i := 1) (de_l (df_lc (di_seq de_v) (dg_tup (dgs_cons (dg_name (by decide)) (dgs_cons (dg_name (by decide)) (dgs_cons (dg_name (by decide)) (dgs_cons (dg_name (by decide)) dgs_nil))))) (dt_B de_v) de_v))) (ds_retF (df_srtSet (de_op sn_addU (do_e de_v) (do_e (de_l (df_lc (di_seq de_v) (dg_tup (dgs_cons (dg_name (by decide)) (dgs_cons (dg_name (by decide)) (dgs_cons (dg_name (by decide)) (dgs_cons (dg_name (by decide)) dgs_nil))))) (dt_B de_v) de_v))))))) (by decide) h⟩
theorem ok_open_parts (T : Tx K mg) : FnOk P w K mg base CX0 2 T.a_open_parts T.d_open_parts ["one", "other"] (spF K 2 F_open_parts) := by
    refine T.F_open_parts.ok sc_open_parts (fun vs H Q E h => h.1) (fun cdv A outer s H vs Q E hr h => ?_)
    have nd := sc_open_parts.nd
    exact ⟨_, (pss_cons (ps_set (i := 2) nd rfl (Or.inl rfl) (pe_lst pa_nil)) (pss_cons (ps_for PassesOwn.never rfl (pi_seqU (pe_call (ok_runs T) (hr.mono (by decide)) (by rfl) T.m_runs T.F_runs.kp T.b_runs .nil pass0 (pa_cons (pv 1) pa_nil))) (pg_tup rfl (pgs_cons (pg_name (i := 3) nd rfl (Or.inl rfl)) (pgs_cons (pg_name (i := 4) nd rfl (Or.inl rfl)) pgs_nil))) (pss_cons (ps_set (i := 5) nd rfl (Or.inl rfl) (pe_op op_addU (pe_op op_addU (pe_lst (pa_cons (pe_op op_sub (pv 3) pe_int) pa_nil)) (pe_call (ok_stayed T) (hr.mono (by decide)) (by rfl) T.m_stayed T.F_stayed.kp T.b_stayed .nil pass0 (pa_cons (pv 0) (pa_cons (pv 1) (pa_cons (pv 3) (pa_cons (pv 4) pa_nil)))))) (pe_lst (pa_cons (pe_op op_addU (pv 4) pe_int) pa_nil)))) (pss_one (ps_for PassesOwn.never rfl (pi_zipU (by rfl) T.n_zip (pa_cons (pv 5) (pa_cons (pe_slice sl_U (pv 5) (po_some pe_int) po_none) pa_nil))) (pg_tup rfl (pgs_cons (pg_name (i := 6) nd rfl (Or.inl rfl)) (pgs_cons (pg_name (i := 7) nd rfl (Or.inl rfl)) pgs_nil))) (pss_one (ps_if (pt_cmpR op_gt (pe_op op_sub (pv 7) (pv 6)) pe_int (nomark _)) (pss_one (ps_expr (pe_bm PySem.F.plainAttrs_list PySem.F.slot_list_append PySem.F.type_list_append mt_append (pv 2) (pa_cons (pe_tup (pa_cons (pe_op op_addU (pv 6) pe_int) (pa_cons (pe_op op_sub (pv 7) pe_int) (pa_cons (pe_cmpR op_ge (pv 6) (pv 3) (nomark _)) (pa_cons (pe_cmpR op_le (pv 7) (pv 4) (nomark _)) pa_nil))))) pa_nil)))) pss_nil)))))) (pss_one (ps_ret (pv 2))))),
      run_F (N := N_open_parts) (ds_seq (ds_setO (i := 2) (df_lst da_nil)) (ds_seq (ds_for (ws := [3, 4]) (di_seq (de_l (df_call callF_len (da_cons (do_e de_v) da_nil)))) (dg_tup (dgs_cons (dg_name (by decide)) (dgs_cons (dg_name (by decide)) dgs_nil))) (ds_seq (ds_set (i := 5) (de_op sn_addU (do_e (de_op sn_addU (do_e (de_l (df_lst (da_cons (do_e (de_op sn_sub (do_e de_v) (do_e de_int))) da_nil)))) (do_e (de_l (df_call callF_len (da_cons (do_e de_v) (da_cons (do_e de_v) (da_cons (do_e de_v) (da_cons (do_e de_v) da_nil))))))))) (do_e (de_l (df_lst (da_cons (do_e (de_op sn_addU (do_e de_v) (do_e de_int))) da_nil)))))) (ds_for (ws := [6, 7]) (di_zip (da_cons (do_e de_v) (da_cons (do_e (de_sl sn_sliceU (do_e de_v) (dp_so de_int) dp_no)) da_nil))) (dg_tup (dgs_cons (dg_name (by decide)) (dgs_cons (dg_name (by decide)) dgs_nil))) (ds_if (dt_test (de_op sn_gt (do_e (de_op sn_sub (do_e de_v) (do_e de_v))) (do_e de_int))) (ds_app (de_tup (da_cons (do_e (de_op sn_addU (do_e de_v) (do_e de_int))) (da_cons (do_e (de_op sn_sub (do_e de_v) (do_e de_int))) (da_cons (do_e (de_op sn_ge (do_e de_v) (do_e de_v))) (da_cons (do_e (de_op sn_le (do_e de_v) (do_e de_v))) da_nil)))))) ds_next)))) ds_retO)) (by decide) h⟩
theorem ok_firsts (T : Tx K mg) : FnOk P w K mg base (L2.CX P w) 6 T.a_firsts T.d_firsts ["one", "other"] (spXF K 2 F_firsts) := by
    refine T.F_firsts.okX sc_firsts (fun vs H Q E h => h.1) (fun cdv A outer s H vs Q E hr h => ?_)
    have nd := sc_firsts.nd
    exact ⟨_, (pss_cons (ps_expr (pe_callS (ok_look_leads T) (hr.mono (by decide)) (by rfl) T.m_look_leads T.F_look_leads.kp T.b_look_leads (fun σ => passAt (takes_of rfl rfl rfl rfl) σ) (pa_cons (pv 0) (pa_cons (pv 1) pa_nil)))) (pss_one (ps_ret (pe_call (ok_next_calls T) (hr.mono (by decide)) (by rfl) T.m_next_calls T.F_next_calls.kp T.b_next_calls .nil pass0 (pa_cons (pe_call (ok_open_parts T) (hr.mono (by decide)) (by rfl) T.m_open_parts T.F_open_parts.kp T.b_open_parts .nil pass0 (pa_cons (pv 0) (pa_cons (pv 1) pa_nil))) pa_nil))))),
      run_XF (N := N_firsts) (ds_seq (ds_dropX (xd_callX callX_len (da_cons (do_e de_v) (da_cons (do_e de_v) da_nil)))) (ds_retF (df_call callF_len (da_cons (do_e (de_l (df_call callF_len (da_cons (do_e de_v) (da_cons (do_e de_v) da_nil))))) da_nil)))) (by decide) h⟩
theorem ok_parts (T : Tx K mg) : FnOk P w K mg base (L2.CX P w) 6 T.a_parts T.d_parts ["one", "other"] (spXF K 2 F_parts) := by
    refine T.F_parts.okX sc_parts (fun vs H Q E h => h.1) (fun cdv A outer s H vs Q E hr h => ?_)
    have nd := sc_parts.nd
    exact ⟨_, (pss_cons (ps_expr (pe_callS (ok_look_leads T) (hr.mono (by decide)) (by rfl) T.m_look_leads T.F_look_leads.kp T.b_look_leads (fun σ => passAt (takes_of rfl rfl rfl rfl) σ) (pa_cons (pv 0) (pa_cons (pv 1) pa_nil)))) (pss_one (ps_ret (pe_lc (own := [("first", 2), ("last", 3), ("left", 4), ("right", 5)]) (by rfl) nd (pi_seqU (pe_call (ok_open_parts T) (hr.mono (by decide)) (by rfl) T.m_open_parts T.F_open_parts.kp T.b_open_parts .nil pass0 (pa_cons (pv 0) (pa_cons (pv 1) pa_nil)))) (blkOk_by (own := [("first", 2), ("last", 3), ("left", 4), ("right", 5)]) (N := N_parts) (sc := defScope s_parts) (by decide +kernel)) (fun _ _ _ _ _ => (pg_tup rfl (pgs_cons (pg_name (i := 2) nd rfl (Or.inl rfl)) (pgs_cons (pg_name (i := 3) nd rfl (Or.inl rfl)) (pgs_cons (pg_name (i := 4) nd rfl (Or.inl rfl)) (pgs_cons (pg_name (i := 5) nd rfl (Or.inl rfl)) pgs_nil)))))) (fun _ _ _ _ _ => pts_nil) (fun _ _ _ _ _ => (pe_tupRg (by rfl) (by rfl) T.n_tuple (prg_2 (by rfl) T.n_range (pv 2) (pe_op op_addU (pv 3) pe_int)))))))),
      run_XF (N := N_parts) (ds_seq (ds_dropX (xd_callX callX_len (da_cons (do_e de_v) (da_cons (do_e de_v) da_nil)))) (ds_retF (df_lc (di_seq (de_l (df_call callF_len (da_cons (do_e de_v) (da_cons (do_e de_v) da_nil))))) (dg_tup (dgs_cons (dg_name (by decide)) (dgs_cons (dg_name (by decide)) (dgs_cons (dg_name (by decide)) (dgs_cons (dg_name (by decide)) dgs_nil))))) dt_yes (de_tupRg2 de_v (de_op sn_addU (do_e de_v) (do_e de_int)))))) (by decide) h⟩
theorem ok__law_right (T : Tx K mg) : FnG P w K mg base 11 T.a__law_right T.d__law_right ["_law_box_here"] (spB K 1 F__law_right) := by
    refine fun_okG T.F__law_right sc__law_right (fun vs H Q E h => h.1) (fun cdv A outer s H vs Q E hr gd h => ?_)
    have nd := sc__law_right.nd
    exact ⟨_, (pss_cons (ps_set (i := 1) nd rfl (Or.inr rfl) (pe_call (ok__law_random_line T) (hr.mono (by decide)) (by rfl) T.m__law_random_line T.F__law_random_line.kp T.b__law_random_line .nil pass0 (pa_cons (pv 0) (pa_cons pe_int (pa_cons (pe_call (ok__law_of T) (hr.mono (by decide)) (by rfl) T.m__law_of T.F__law_of.kp T.b__law_of .nil pass0 (pa_cons (pv 0) (pa_cons (pe_lst (pa_cons pe_int (pa_cons pe_int (pa_cons (pe_op op_pow pe_int pe_int) pa_nil)))) pa_nil))) pa_nil))))) (pss_cons (ps_for PassesOwn.never rfl (pi_seqU (pe_tup (pa_cons (pv 1) (pa_cons (pe_call (ok__law_led T) (hr.mono (by decide)) (by rfl) T.m__law_led T.F__law_led.kp T.b__law_led .nil pass0 (pa_cons (pv 0) (pa_cons (pv 1) (pa_cons pe_int pa_nil)))) (pa_cons (pe_call (ok__law_led T) (hr.mono (by decide)) (by rfl) T.m__law_led T.F__law_led.kp T.b__law_led .nil pass0 (pa_cons (pv 0) (pa_cons (pv 1) (pa_cons pe_int pa_nil)))) pa_nil))))) (pg_name (i := 2) nd rfl (Or.inr rfl)) (pss_cons (ps_par (i := 3) (j := 4) (by rfl) nd rfl rfl (by decide) rfl rfl (pa_cons (pe_callB (cr_repr gd hr) (by rfl) T.n_repr (by decide +kernel) (pa_cons (pe_lst (pa_cons (pv 1) (pa_cons (pv 2) pa_nil))) pa_nil)) (pa_cons (pe_lc (own := [("_law_at", 10)]) (by rfl) nd (pi_range1 (by rfl) T.n_range (pa_cons (pe_callB call_lenU (by rfl) T.n_len (by decide +kernel) (pa_cons (pv 1) pa_nil)) pa_nil)) (blkOk_by (own := [("_law_at", 10)]) (N := N__law_right) (sc := defScope s__law_right) (by decide +kernel)) (fun _ _ _ _ _ => (pg_name (i := 10) nd rfl (Or.inl rfl))) (fun _ _ _ _ _ => (pts_one (pt_cmpR (op_neU hr) (pe_ix ix_seq (pv 1) (pv 10) (fun _ _ => rfl)) (pe_ix ix_seq (pv 2) (pv 10) (fun _ _ => rfl)) (nomark _)))) (fun _ _ _ _ _ => (pv 10))) pa_nil)) (by rfl)) (pss_cons (ps_set (i := 5) nd rfl (Or.inl rfl) (pe_lst (pa_cons (pv 4) (pa_cons (pe_callB call_lenU (by rfl) T.n_len (by decide +kernel) (pa_cons (pv 4) pa_nil)) (pa_cons (pe_lc (own := [("_law_piece", 11)]) (by rfl) nd (pi_seqU (pe_call (ok__law_pieces T) (hr.mono (by decide)) (by rfl) T.m__law_pieces T.F__law_pieces.kp T.b__law_pieces .nil pass0 (pa_cons (pv 1) (pa_cons (pv 2) pa_nil)))) (blkOk_by (own := [("_law_piece", 11)]) (N := N__law_right) (sc := defScope s__law_right) (by decide +kernel)) (fun _ _ _ _ _ => (pg_name (i := 11) nd rfl (Or.inl rfl))) (fun _ _ _ _ _ => pts_nil) (fun _ _ _ _ _ => (pe_ix ix_seq (pv 11) pe_int (fun _ _ => rfl)))) (pa_cons (pe_call (ok__law_firsts T) (hr.mono (by decide)) (by rfl) T.m__law_firsts T.F__law_firsts.kp T.b__law_firsts .nil pass0 (pa_cons (pv 1) (pa_cons (pv 2) pa_nil))) pa_nil)))))) (pss_cons (ps_set (i := 6) nd rfl (Or.inl rfl) (pe_lst (pa_cons (pe_call (ok_changed T) (hr.mono (by decide)) (by rfl) T.m_changed T.F_changed.kp T.b_changed .nil passL (pa_cons (pv 1) (pa_cons (pv 2) pa_nil))) (pa_cons (pe_call (ok_distance T) (hr.mono (by decide)) (by rfl) T.m_distance T.F_distance.kp T.b_distance .nil passL (pa_cons (pv 1) (pa_cons (pv 2) pa_nil))) (pa_cons (pe_call (ok_parts T) (hr.mono (by decide)) (by rfl) T.m_parts T.F_parts.kp T.b_parts .nil passL (pa_cons (pv 1) (pa_cons (pv 2) pa_nil))) (pa_cons (pe_call (ok_firsts T) (hr.mono (by decide)) (by rfl) T.m_firsts T.F_firsts.kp T.b_firsts .nil passL (pa_cons (pv 1) (pa_cons (pv 2) pa_nil))) pa_nil)))))) (pss_cons (ps_if (pt_not (pt_val (pe_call (ok__law_same T 6) (hr.mono (by decide)) (by rfl) T.m__law_same T.F__law_same.kp T.b__law_same .nil pass0 (pa_cons (pv 6) (pa_cons (pv 5) pa_nil))))) (pss_one (ps_ret pe_bl)) pss_nil) (pss_cons (ps_par (i := 7) (j := 8) (by rfl) nd rfl rfl (by decide) rfl rfl (pa_cons (pe_callTy call_listU (by rfl) T.n_list (by decide +kernel) (pa_cons (pv 1) pa_nil)) (pa_cons (pe_callTy call_listU (by rfl) T.n_list (by decide +kernel) (pa_cons (pv 2) pa_nil)) pa_nil)) (by rfl)) (pss_cons (ps_expr (pe_bm PySem.F.plainAttrs_list PySem.F.slot_list_append PySem.F.type_list_append mt_append (pe_ix ix_seq (pv 6) pe_int (fun _ _ => rfl)) (pa_cons pe_str pa_nil))) (pss_cons (ps_expr (pe_bm PySem.F.plainAttrs_list PySem.F.slot_list_append PySem.F.type_list_append mt_append (pe_ix ix_seq (pv 6) pe_int (fun _ _ => rfl)) (pa_cons pe_str pa_nil))) (pss_cons (ps_expr (pe_bm PySem.F.plainAttrs_list PySem.F.slot_list_append PySem.F.type_list_append mt_append (pe_ix ix_seq (pv 6) pe_int (fun _ _ => rfl)) (pa_cons pe_str pa_nil))) (pss_cons (ps_set (i := 9) nd rfl (Or.inl rfl) (pe_lst (pa_cons (pe_callW (ok_changed T) (hr.mono (by decide)) (by rfl) T.m_changed T.F_changed.kp T.k_changed_other_one passL (pk_cons (pv 8) (pk_cons (pv 7) pk_nil))) (pa_cons (pe_callW (ok_distance T) (hr.mono (by decide)) (by rfl) T.m_distance T.F_distance.kp T.k_distance_other_one passL (pk_cons (pv 8) (pk_cons (pv 7) pk_nil))) (pa_cons (pe_callW (ok_parts T) (hr.mono (by decide)) (by rfl) T.m_parts T.F_parts.kp T.k_parts_other_one passL (pk_cons (pv 8) (pk_cons (pv 7) pk_nil))) pa_nil))))) (pss_cons (ps_expr (pe_bm PySem.F.plainAttrs_list PySem.F.slot_list_append PySem.F.type_list_append mt_append (pv 9) (pa_cons (pe_callW (ok_firsts T) (hr.mono (by decide)) (by rfl) T.m_firsts T.F_firsts.kp T.k_firsts_other_one passL (pk_cons (pv 8) (pk_cons (pv 7) pk_nil))) pa_nil))) (pss_cons (ps_if (PW.pt (pw_or (pt_not (pt_val (pe_call (ok__law_same T 6) (hr.mono (by decide)) (by rfl) T.m__law_same T.F__law_same.kp T.b__law_same .nil pass0 (pa_cons (pv 9) (pa_cons (pv 5) pa_nil))))) (pw_or1 (pt_not (pt_val (pe_call (ok__law_same T 6) (hr.mono (by decide)) (by rfl) T.m__law_same T.F__law_same.kp T.b__law_same .nil pass0 (pa_cons (pe_lst (pa_cons (pe_call (ok_changed T) (hr.mono (by decide)) (by rfl) T.m_changed T.F_changed.kp T.b_changed .nil passL (pa_cons (pv 1) (pa_cons (pv 8) pa_nil))) (pa_cons (pe_call (ok_distance T) (hr.mono (by decide)) (by rfl) T.m_distance T.F_distance.kp T.b_distance .nil passL (pa_cons (pv 7) (pa_cons (pv 2) pa_nil))) pa_nil))) (pa_cons (pe_slice sl_U (pv 5) po_none (po_some pe_int)) pa_nil)))))))) (pss_one (ps_ret pe_bl)) pss_nil) (pss_one (ps_if (pt_cmpR (op_neU hr) (pe_callB (cr_repr gd hr) (by rfl) T.n_repr (by decide +kernel) (pa_cons (pe_lst (pa_cons (pv 1) (pa_cons (pv 2) pa_nil))) pa_nil)) (pv 3) (nomark _)) (pss_one (ps_ret pe_bl)) pss_nil)))))))))))))) (pss_one (ps_ret pe_bl)))),
      run_B (N := N__law_right) (ds_seq (ds_set (i := 1) (de_callB callB_len (da_cons (do_e de_int) (da_cons (do_e (de_callB callB_len (da_cons (do_e (de_l (df_lst (da_cons (do_e de_int) (da_cons (do_e de_int) (da_cons (do_e (de_op sn_pow (do_e de_int) (do_e de_int))) da_nil)))))) da_nil))) da_nil)))) (ds_seq (ds_for (ws := [2]) (di_seq (de_tup (da_cons (do_e de_v) (da_cons (do_e (de_callB callB_len (da_cons (do_e de_v) (da_cons (do_e de_int) da_nil)))) (da_cons (do_e (de_callB callB_len (da_cons (do_e de_v) (da_cons (do_e de_int) da_nil)))) da_nil))))) (dg_name (by decide)) (ds_seq (ds_par (dn_s (de_cb sn_repr (da_cons (do_e (de_l (df_lst (da_cons (do_e de_v) (da_cons (do_e de_v) da_nil))))) da_nil))) (dn_s (de_l (df_lc (di_rng1 (da_cons (do_e (de_cb sn_len (da_cons (do_e de_v) da_nil))) da_nil)) (dg_name (by decide)) (dt_test (de_op sn_neW (do_e (de_op sn_ix (do_e de_v) (do_e de_v))) (do_e (de_op sn_ix (do_e de_v) (do_e de_v))))) de_v)))) (ds_seq (ds_set (i := 5) (de_l (df_lst (da_cons (do_e de_v) (da_cons (do_e (de_cb sn_len (da_cons (do_e de_v) da_nil))) (da_cons (do_e (de_l (df_lc (di_seq (de_l (df_call callF_len (da_cons (do_e de_v) (da_cons (do_e de_v) da_nil))))) (dg_name (by decide)) dt_yes (de_op sn_ix (do_e de_v) (do_e de_int))))) (da_cons (do_e (de_l (df_call callF_len (da_cons (do_e de_v) (da_cons (do_e de_v) da_nil))))) da_nil))))))) (ds_heardTA (h := 6) (i := 7) (j := 8) (dnl_f (df_callXF callXF_len (da_cons (do_e de_v) (da_cons (do_e de_v) da_nil))) (dnl_s (de_callX callX_len (da_cons (do_e de_v) (da_cons (do_e de_v) da_nil))) (dnl_f (df_callXF callXF_len (da_cons (do_e de_v) (da_cons (do_e de_v) da_nil))) (dnl_f (df_callXF callXF_len (da_cons (do_e de_v) (da_cons (do_e de_v) da_nil))) dnl_nil)))) de_v (de_l (df_cb sn_list (da_cons (do_e de_v) da_nil))) (de_l (df_cb sn_list (da_cons (do_e de_v) da_nil))) (by decide) (by decide) (ht_apps (x := "more") (js := [0, 2, 3])) (ds_seq (ds_setO (i := 9) (df_lst (da_cons (do_e (de_l (df_callWXF perm_1_0_rel callXF_len (da_cons (do_e de_v) (da_cons (do_e de_v) da_nil))))) (da_cons (do_e (de_callWX perm_1_0_rel callX_len (da_cons (do_e de_v) (da_cons (do_e de_v) da_nil)))) (da_cons (do_e (de_l (df_callWXF perm_1_0_rel callXF_len (da_cons (do_e de_v) (da_cons (do_e de_v) da_nil))))) da_nil))))) (ds_seq (ds_app (de_l (df_callWXF perm_1_0_rel callXF_len (da_cons (do_e de_v) (da_cons (do_e de_v) da_nil))))) (ds_seq (ds_if (dt_or (dt_not (dt_B (de_callO (Fl__law_same _) (da_cons do_v (da_cons (do_e de_v) da_nil))))) (dt_not (dt_B (de_call (Fl__law_same _) (da_cons (do_e (de_l (df_lst (da_cons (do_e (de_l (df_callXF callXF_len (da_cons (do_e de_v) (da_cons (do_e de_v) da_nil))))) (da_cons (do_e (de_callX callX_len (da_cons (do_e de_v) (da_cons (do_e de_v) da_nil)))) da_nil))))) (da_cons (do_e (de_sl sn_sliceU (do_e de_v) dp_no (dp_so de_int))) da_nil)))))) (ds_ret de_bl) ds_next) (ds_if (dt_test (de_op sn_neW (do_e (de_cb sn_repr (da_cons (do_e (de_l (df_lst (da_cons (do_e de_v) (da_cons (do_e de_v) da_nil))))) da_nil))) (do_e de_v))) (ds_ret de_bl) ds_next)))))))) (ds_ret de_bl))) (by decide) h⟩
theorem ok_law (T : Tx K mg) : FnG P w K mg base 12 T.a_law T.d_law ["_law_script"] (spP K 1 F_law) := by
    refine fun_okG T.F_law sc_law (fun vs H Q E h => h.1) (fun cdv A outer s H vs Q E hr gd h => ?_)
    have nd := sc_law.nd
    exact ⟨_, (pss_cons (ps_set (i := 1) nd rfl (Or.inl rfl) (pe_call (ok__law_cells T) (hr.mono (by decide)) (by rfl) T.m__law_cells T.F__law_cells.kp T.b__law_cells .nil pass0 (pa_cons (pv 0) (pa_cons pe_int pa_nil)))) (pss_cons (ps_for PassesOwn.never rfl (pi_range1 (by rfl) T.n_range (pa_cons (pe_callB call_lenU (by rfl) T.n_len (by decide +kernel) (pa_cons (pv 1) pa_nil)) pa_nil)) (pg_name (i := 2) nd rfl (Or.inl rfl)) (pss_cons (ps_set (i := 3) nd rfl (Or.inr rfl) (pe_call (ok__law_box T) (hr.mono (by decide)) (by rfl) T.m__law_box T.F__law_box.kp T.b__law_box .nil pass0 (pa_cons (pv 1) (pa_cons (pv 2) pa_nil)))) (pss_one (ps_if (pt_not (pt_val (pe_callB (cr_all rfl) (by rfl) T.n_all (by decide +kernel) (pa_cons (pe_lc (own := [("_law_turn", 4)]) (by rfl) nd (pi_range1 (by rfl) T.n_range (pa_cons pe_int pa_nil)) (blkOk_by (own := [("_law_turn", 4)]) (N := N_law) (sc := defScope s_law) (by decide +kernel)) (fun _ _ _ _ _ => (pg_name (i := 4) nd rfl (Or.inl rfl))) (fun _ _ _ _ _ => pts_nil) (fun _ _ _ _ _ => (pe_callG (E := E0) (ok__law_right T) (hr.mono (by decide)) gd (by rfl) T.m__law_right T.F__law_right.kp T.b__law_right (pa_cons (pv 3) pa_nil)))) pa_nil)))) (pss_one (ps_ret pe_bl)) pss_nil)))) (pss_one (ps_ret pe_bl)))),
      run_P (N := N_law) (ds_seq (ds_set (i := 1) (de_call callP_len (da_cons (do_e de_v) (da_cons (do_e de_int) da_nil)))) (ds_seq (ds_for (ws := [2]) (di_rng1 (da_cons (do_e (de_cb sn_len (da_cons (do_e de_v) da_nil))) da_nil)) (dg_name (by decide)) (ds_seq (ds_setO (i := 3) (df_call callF_len (da_cons (do_e de_v) (da_cons (do_e de_v) da_nil)))) (ds_if (dt_not (dt_B (de_cb sn_all (da_cons (do_e (de_l (df_lc (di_rng1 (da_cons (do_e de_int) da_nil)) (dg_name (by decide)) dt_yes (de_callB callB_len da_nil)))) da_nil)))) (ds_ret de_bl) ds_next))) (ds_ret de_bl))) (by decide) h⟩
end
end W

namespace W
open PySem L2 DL
local macro_rules | `(tactic| walk_at "ev") => `(tactic| simp only [eC, eV, oE, oV, eL, eT, aNil, aCons, eOp2, eOp1, eApp, tstE, eB, tNotG, tAndG, tOrG, eAndG, eOrG, eNotG, eIf, eSeq, eCall, eCallO, eCallB, eCallBF, eCallBX, sSeq, sNext, sRet, sRetF, sRetO, sRetN, sDrop, sIf, sSet, sSetO, sBreak, sCont, sBad, sPar, sPar3, fz, sFz, eCallW, idL, sApp, sPutIx, sAug, sFor, gN, gT, gsCons, gsNil, gYes, eLc, gSeq, nS, nF, Nw.sl, R.ok_bind, R.ok_map, R.lift_some, to_ok, toX_ok, toX_ex, bind_nx, bind_rt, bind_rf, bind_ex, bind_bk, bind_ct, at_ok, at_ex, res_val, map_ex, rbind_ex, Op.res, resA, valA, isOw, box0, Option.map_some, Option.bind_some, sHeardT, nlCons, nlNil, Nw.dat, mSet, eChain, eRg1, eRg2, eSl, pNo, pSo,
  List.getElem?_cons_zero, List.getElem?_cons_succ, List.set_cons_zero, List.set_cons_succ, List.length_cons, List.length_nil, if_true, if_false, Bool.false_eq_true, ite_true, ite_false, reduceIte,
  addU_int, subD_int, ltD_int, leD_int, gtD_int, geD_int, negD_int, absD_int, intD_bool, intD_int, lenD_list, lenD_tuple, lenD_scr, pow10_7, pow10_18, pow10_40, eqW_ints, neW_ints, eqW_strs, neW_strs, eqW_none, eqW_in, eqW_ni, ixD_list, ixD_tuple, ixD_scr, atI_3_0, atI_3_1, atI_3_2, ixN_3_0, ixN_3_1, ixN_3_2, wipeR, zip2D, skOf, isiD_n, isiD_b, isiD_i, isiD_s, isiD_l, isiD_t, isiTD_n, isiTD_b, isiTD_i, isiTD_s, isiTD_l, isiTD_t, isiAny, eCallX, eCallWX, xE, xIf, xL, xCb1, sSetX, sRetX, sDropX, sRaise, sTo, eMk, isX_n, sKeep, kt_ll, kt_lt, kt_ls, kt_li, kt_lb, kt_tl, kt_tt, kt_ts, kt_ti, kt_tb, kt_sl, kt_st, kt_ss, kt_si, kt_sb, kt_il, kt_it, kt_is, kt_ii, kt_ib, kt_bl, kt_bt, kt_bs, kt_bi, kt_bb, kt_nl, kt_nt, kt_ns, kt_ni, kt_nb, eqW_bools, neW_bools, isD_none, isNotD_none, isNoneD, isNone_e, List.map_cons, List.map_nil, List.replicate, List.append_nil, List.cons_append, List.nil_append, nc0, nc1, nc2, nc3, nc4, nc5, nc6, nc7, nc8, nc9, nc10, nc11, nc12, nc13, nc14, nc15, nc16, nc17, nc18, nc19, nc20, Nat.reduceAdd, Nat.reduceSub, ne_eq, decide_true, decide_false, not_true_eq_false, not_false_eq_true, reduceCtorEq, Bool.and_true, Bool.true_and, Bool.and_false, Bool.false_and, Bool.or_true, Bool.true_or, Bool.or_false, Bool.false_or, Bool.not_true, Bool.not_false])
local macro_rules | `(tactic| walk_at "evh") => `(tactic| simp only [eC, eV, oE, oV, eL, eT, aNil, aCons, eOp2, eOp1, eApp, tstE, eB, tNotG, tAndG, tOrG, eAndG, eOrG, eNotG, eIf, eSeq, eCall, eCallO, eCallB, eCallBF, eCallBX, sSeq, sNext, sRet, sRetF, sRetO, sRetN, sDrop, sIf, sSet, sSetO, sBreak, sCont, sBad, sPar, sPar3, fz, sFz, eCallW, idL, sApp, sPutIx, sAug, sFor, gN, gT, gsCons, gsNil, gYes, eLc, gSeq, nS, nF, Nw.sl, R.ok_bind, R.ok_map, R.lift_some, to_ok, toX_ok, toX_ex, bind_nx, bind_rt, bind_rf, bind_ex, bind_bk, bind_ct, at_ok, at_ex, res_val, map_ex, rbind_ex, Op.res, resA, valA, isOw, box0, Option.map_some, Option.bind_some, sHeardT, nlCons, nlNil, Nw.dat, mSet, eChain, eRg1, eRg2, eSl, pNo, pSo,
  List.getElem?_cons_zero, List.getElem?_cons_succ, List.set_cons_zero, List.set_cons_succ, List.length_cons, List.length_nil, if_true, if_false, Bool.false_eq_true, ite_true, ite_false, reduceIte,
  addU_int, subD_int, ltD_int, leD_int, gtD_int, geD_int, negD_int, absD_int, intD_bool, intD_int, lenD_list, lenD_tuple, lenD_scr, pow10_7, pow10_18, pow10_40, eqW_ints, neW_ints, eqW_strs, neW_strs, eqW_none, eqW_in, eqW_ni, ixD_list, ixD_tuple, ixD_scr, atI_3_0, atI_3_1, atI_3_2, ixN_3_0, ixN_3_1, ixN_3_2, wipeR, zip2D, skOf, isiD_n, isiD_b, isiD_i, isiD_s, isiD_l, isiD_t, isiTD_n, isiTD_b, isiTD_i, isiTD_s, isiTD_l, isiTD_t, isiAny, eCallX, eCallWX, xE, xIf, xL, xCb1, sSetX, sRetX, sDropX, sRaise, sTo, eMk, isX_n, sKeep, kt_ll, kt_lt, kt_ls, kt_li, kt_lb, kt_tl, kt_tt, kt_ts, kt_ti, kt_tb, kt_sl, kt_st, kt_ss, kt_si, kt_sb, kt_il, kt_it, kt_is, kt_ii, kt_ib, kt_bl, kt_bt, kt_bs, kt_bi, kt_bb, kt_nl, kt_nt, kt_ns, kt_ni, kt_nb, eqW_bools, neW_bools, isD_none, isNotD_none, isNoneD, isNone_e, List.map_cons, List.map_nil, List.replicate, List.append_nil, List.cons_append, List.nil_append, nc0, nc1, nc2, nc3, nc4, nc5, nc6, nc7, nc8, nc9, nc10, nc11, nc12, nc13, nc14, nc15, nc16, nc17, nc18, nc19, nc20, Nat.reduceAdd, Nat.reduceSub, ne_eq, decide_true, decide_false, not_true_eq_false, not_false_eq_true, reduceCtorEq, Bool.and_true, Bool.true_and, Bool.and_false, Bool.false_and, Bool.or_true, Bool.true_or, Bool.or_false, Bool.false_or, Bool.not_true, Bool.not_false, *])
theorem take1 {a b c span : Int} (Fr : List D → List D → Option (D × List D)) (ha : 0 < a) (hs : 0 < span) (hs2 : span < 2 ^ 300) : callB 2 4 (g__law_take Fr) [.int a, .int b, .int c] [.int span] = some (.int (a % span), [.int (a / span), .int b, .int c]) := by
  have d1 : decide ((0:Int) < a) = true := decide_eq_true ha
  have e1 : modD (.int a) (.int span) = some (.int (a % span)) := modD_int hs
  have e2 : fdivD (.int a) (.int span) = some (.int (a / span)) := fdivD_int hs hs2
  unfold callB g__law_take envB
  walk_at "evh"
theorem take2 {b c span : Int} (Fr : List D → List D → Option (D × List D)) (hb : 0 ≤ b ∧ b < 2 ^ 62) (hc : 0 ≤ c ∧ c < 2 ^ 40) (hs : 0 < span) (hs2 : span ≤ 10000000) : ∃ r, callB 2 4 (g__law_take Fr) [.int 0, .int b, .int c] [.int span] = some (.int r, [.int 0, .int b, .int (c + 1)]) ∧ 0 ≤ r ∧ r < span := by
  have d2 : decide ((10000000:Int) < span) = false := decide_eq_false (by omega)
  have m1 : mulV (.int 39373) (.int (c + 1)) = some (.int (39373 * (c + 1))) := cmul_l (by omega)
  have m2 : ∀ y : Int, powD (.int (b + 39373 * (c + 1))) (.int 5) = some (.int ((b + 39373 * (c + 1)) ^ 5)) := fun _ => powD_int (by omega) (by omega) (by omega)
  have m2 := m2 0
  generalize hx : (b + 39373 * (c + 1)) ^ 5 = x at m2
  have m3 : modD (.int x) (.int 2147483647) = some (.int (x % 2147483647)) := modD_int (by omega)
  generalize hy : x % 2147483647 = y at m3
  have hy0 : 0 ≤ y ∧ y < 2147483647 := by omega
  have m4 : modD (.int y) (.int 40009) = some (.int (y % 40009)) := modD_int (by omega)
  have m5 : mulV (.int y) (.int (y % 40009 + 7)) = some (.int (y * (y % 40009 + 7))) := cmul_l (by omega)
  have m6 : mulV (.int (c + 1)) (.int 7919) = some (.int ((c + 1) * 7919)) := cmul_r (by omega)
  generalize hz : y * (y % 40009 + 7) + (c + 1) * 7919 = z
  have m7 : modD (.int z) (.int 2147483629) = some (.int (z % 2147483629)) := modD_int (by omega)
  have m8 : fdivD (.int (z % 2147483629)) (.int 64) = some (.int (z % 2147483629 / 64)) := fdivD_int (by omega) (by omega)
  have m9 : modD (.int (z % 2147483629 / 64)) (.int span) = some (.int (z % 2147483629 / 64 % span)) := modD_int hs
  refine ⟨z % 2147483629 / 64 % span, ?_, Int.emod_nonneg _ (by omega), Int.emod_lt_of_pos _ hs⟩
  have d1 : decide ((0:Int) < 0) = false := rfl
  unfold callB g__law_take envB
  clear hx hy
  walk_at "evh"
theorem take_small (k : Nat) {span n : Int} {box : List D} (hb : GoodBox n box) (hn : n < 2 ^ 40) (hs : 0 < span) (hs2 : span ≤ 10000000) : ∃ r box', F__law_take (k + 1) box [.int span] = some (.int r, box') ∧ 0 ≤ r ∧ r < span ∧ GoodBox (n + 1) box' := by
  obtain ⟨a, b, c, rfl, h1, h2, h3, h4, h5⟩ := hb
  by_cases ha : 0 < a
  · refine ⟨_, _, take1 _ ha hs (by omega), Int.emod_nonneg _ (by omega), Int.emod_lt_of_pos _ hs, _, _, _, rfl, ?_, h2, h3, h4, by omega⟩
    exact Int.ediv_nonneg h1 (by omega)
  · have e : a = 0 := by omega
    subst e
    obtain ⟨r, e, r1, r2⟩ := take2 (F__law_take k) ⟨h2, h3⟩ ⟨h4, by omega⟩ hs hs2
    exact ⟨r, _, e, r1, r2, _, _, _, rfl, by omega, h2, h3, by omega, by omega⟩
theorem take3 {b c span : Int} (Fr : List D → List D → Option (D × List D)) {r1 r2 : Int} {box1 box2 : List D} (hs : 10000000 < span) (hs2 : span < 2 ^ 300)
    (e1 : Fr [.int 0, .int b, .int c] [.int 10000000] = some (.int r1, box1)) (e2 : Fr box1 [.int ((span - 1) / 10000000 + 1)] = some (.int r2, box2)) :
    callB 2 4 (g__law_take Fr) [.int 0, .int b, .int c] [.int span] = some (.int ((r1 + 10000000 * r2) % span), box2) := by
  have d1 : decide ((0:Int) < 0) = false := rfl
  have d2 : decide ((10000000:Int) < span) = true := decide_eq_true hs
  have m1 : fdivD (.int (span - 1)) (.int 10000000) = some (.int ((span - 1) / 10000000)) := fdivD_int (by omega) (by omega)
  have m2 : mulV (.int 10000000) (.int r2) = some (.int (10000000 * r2)) := cmul_l (by omega)
  have m3 : modD (.int (r1 + 10000000 * r2)) (.int span) = some (.int ((r1 + 10000000 * r2) % span)) := modD_int (by omega)
  unfold callB g__law_take envB
  walk_at "evh"
def spB : Nat → Int
  | 0 => 10000000
  | k + 1 => spB k * 10000000
theorem spB_lt : ∀ k : Nat, k ≤ 7 → spB k < 2 ^ 300
  | 0, _ => by decide
  | 1, _ => by decide
  | 2, _ => by decide
  | 3, _ => by decide
  | 4, _ => by decide
  | 5, _ => by decide
  | 6, _ => by decide
  | 7, _ => by decide
  | k + 8, h => by omega
theorem spB_ge : ∀ k : Nat, 10000000 ≤ spB k
  | 0 => by decide
  | k + 1 => by
    have := spB_ge k
    show 10000000 ≤ spB k * 10000000
    omega
theorem take_spec : ∀ (k : Nat) {span n : Int} {box : List D}, GoodBox n box → n + k < 2 ^ 40 → 0 < span → span ≤ spB k → k ≤ 7 → ∃ r box', F__law_take (k + 1) box [.int span] = some (.int r, box') ∧ 0 ≤ r ∧ r < span ∧ GoodBox (n + k + 1) box'
  | 0, span, n, box, hb, hn, hs, hs2, hk => by
    obtain ⟨r, box', e, r1, r2, g⟩ := take_small 0 hb (by omega) hs hs2
    exact ⟨r, box', e, r1, r2, g.mono (by omega)⟩
  | k + 1, span, n, box, hb, hn, hs, hs2, hk => by
    by_cases hsm : span ≤ 10000000
    · obtain ⟨r, box', e, r1, r2, g⟩ := take_small (k + 1) hb (by omega) hs hsm
      exact ⟨r, box', e, r1, r2, g.mono (by omega)⟩
    · have hlt : span < 2 ^ 300 := by
        have := spB_lt (k + 1) hk
        omega
      obtain ⟨a, b, c, rfl, h1, h2, h3, h4, h5⟩ := id hb
      by_cases ha : 0 < a
      · refine ⟨_, _, take1 _ ha hs hlt, Int.emod_nonneg _ (by omega), Int.emod_lt_of_pos _ hs, _, _, _, rfl, ?_, h2, h3, h4, by omega⟩
        exact Int.ediv_nonneg h1 (by omega)
      · have e : a = 0 := by omega
        subst e
        have hX : span ≤ spB k * 10000000 := hs2
        obtain ⟨r1, box1, e1, q1, q2, g1⟩ := take_small k (span := 10000000) hb (by omega) (by omega) (by omega)
        obtain ⟨r2, box2, e2, q3, q4, g2⟩ := take_spec k (span := (span - 1) / 10000000 + 1) g1 (by omega) (by omega) (by omega) (by omega)
        exact ⟨_, _, take3 (F__law_take (k + 1)) (by omega) hlt e1 e2, Int.emod_nonneg _ (by omega), Int.emod_lt_of_pos _ hs, g2.mono (by omega)⟩
/-- the draw that the law's defs use -/
theorem take8 {span n : Int} {box : List D} (hb : GoodBox n box) (hn : n < 2 ^ 39) (hs : 0 < span) (hs2 : span ≤ 10 ^ 50) : ∃ r box', F__law_take 8 box [.int span] = some (.int r, box') ∧ 0 ≤ r ∧ r < span ∧ GoodBox (n + 8) box' := by
  obtain ⟨r, box', e, r1, r2, g⟩ := take_spec 7 hb (by omega) hs (by
    have : (10:Int) ^ 50 ≤ spB 7 := by decide
    omega) (by omega)
  exact ⟨r, box', e, r1, r2, g.mono (by omega)⟩
theorem all_true : ∀ xs : List D, allD [.list (xs.map fun _ => PyData.bool true)] = some (.bool true) := fun xs => by
  have e : boolsOf (xs.map fun _ => PyData.bool true) = some (xs.map fun _ => true) := by
    rw [← boolsOf_map (xs.map fun _ => true), List.map_map]; rfl
  unfold allD
  dsimp only
  rw [e]
  show some (PyData.bool _) = _
  congr 2
  rw [List.all_map]
  exact List.all_eq_true.mpr fun _ _ => rfl
theorem same_refl : ∀ (n : Nat) {d : D}, Pl n d → F__law_same (n + 1) [d, d] = some (.bool true)
  | n, _, .none _ => by
    show callP 2 4 _ _ = _
    unfold callP g__law_same env0

    walk_at "evh"
  | n, _, .bool _ b => by
    show callP 2 4 _ _ = _
    unfold callP g__law_same env0
    walk_at "evh"
  | n, _, .int _ i => by
    show callP 2 4 _ _ = _
    unfold callP g__law_same env0
    walk_at "evh"
  | n, _, .str _ x => by
    show callP 2 4 _ _ = _
    unfold callP g__law_same env0
    have e : decide (x = x) = true := decide_eq_true rfl
    walk_at "evh"
  | n + 1, _, .list (xs := xs) hl h => by
    show callP 2 4 _ _ = _
    unfold callP g__law_same env0
    have hz : (zipD xs xs).length ≤ sizeLine := by rw [zipD_self, List.length_map]; exact hl
    have a := all_true xs
    have e : lcL [2, 3] (gT 2 (gsCons (gN 2) (gsCons (gN 3) gsNil))) gYes (ce__law_same_1 (F__law_same (n + 1))) (zipD xs xs) [.sh (.list xs), .sh (.list xs), .no, .no] = .ok (xs.map fun _ => PyData.bool true) [.sh (.list xs), .sh (.list xs), .no, .no] := by
      rw [zipD_self, lc_map (fun _ => PyData.bool true), List.map_map]
      · rfl
      · intro d hd
        obtain ⟨x, hx, rfl⟩ := List.mem_map.mp hd
        have ih := same_refl n (h x hx)
        refine ⟨[.sh (.list xs), .sh (.list xs), .sh x, .sh x], rfl, rfl, rfl, ?_⟩
        clear a hz
        unfold ce__law_same_1
        walk_at "evh"
    walk_at "evh"
  | n + 1, _, .tuple (xs := xs) hl h => by
    show callP 2 4 _ _ = _
    unfold callP g__law_same env0
    have hz : (zipD xs xs).length ≤ sizeLine := by rw [zipD_self, List.length_map]; exact hl
    have a := all_true xs
    have e : lcL [2, 3] (gT 2 (gsCons (gN 2) (gsCons (gN 3) gsNil))) gYes (ce__law_same_1 (F__law_same (n + 1))) (zipD xs xs) [.sh (.tuple xs), .sh (.tuple xs), .no, .no] = .ok (xs.map fun _ => PyData.bool true) [.sh (.tuple xs), .sh (.tuple xs), .no, .no] := by
      rw [zipD_self, lc_map (fun _ => PyData.bool true), List.map_map]
      · rfl
      · intro d hd
        obtain ⟨x, hx, rfl⟩ := List.mem_map.mp hd
        have ih := same_refl n (h x hx)
        refine ⟨[.sh (.tuple xs), .sh (.tuple xs), .sh x, .sh x], rfl, rfl, rfl, ?_⟩
        clear a hz
        unfold ce__law_same_1
        walk_at "evh"
    walk_at "evh"
end W

namespace W
open PySem L2 DL
local macro_rules | `(tactic| walk_at "ev") => `(tactic| simp only [eC, eV, oE, oV, eL, eT, aNil, aCons, eOp2, eOp1, eApp, tstE, eB, tNotG, tAndG, tOrG, eAndG, eOrG, eNotG, eIf, eSeq, eCall, eCallO, eCallB, eCallBF, eCallBX, sSeq, sNext, sRet, sRetF, sRetO, sRetN, sDrop, sIf, sSet, sSetO, sBreak, sCont, sBad, sPar, sPar3, fz, sFz, eCallW, idL, sApp, sPutIx, sAug, sFor, gN, gT, gsCons, gsNil, gYes, eLc, gSeq, nS, nF, Nw.sl, R.ok_bind, R.ok_map, R.lift_some, to_ok, toX_ok, toX_ex, bind_nx, bind_rt, bind_rf, bind_ex, bind_bk, bind_ct, at_ok, at_ex, res_val, map_ex, rbind_ex, Op.res, resA, valA, isOw, box0, Option.map_some, Option.bind_some, sHeardT, nlCons, nlNil, Nw.dat, mSet, eChain, eRg1, eRg2, eSl, pNo, pSo,
  List.getElem?_cons_zero, List.getElem?_cons_succ, List.set_cons_zero, List.set_cons_succ, List.length_cons, List.length_nil, if_true, if_false, Bool.false_eq_true, ite_true, ite_false, reduceIte,
  addU_int, subD_int, ltD_int, leD_int, gtD_int, geD_int, negD_int, absD_int, intD_bool, intD_int, lenD_list, lenD_tuple, lenD_scr, pow10_7, pow10_18, pow10_40, eqW_ints, neW_ints, eqW_strs, neW_strs, eqW_none, eqW_in, eqW_ni, ixD_list, ixD_tuple, ixD_scr, atI_3_0, atI_3_1, atI_3_2, ixN_3_0, ixN_3_1, ixN_3_2, wipeR, zip2D, skOf, isiD_n, isiD_b, isiD_i, isiD_s, isiD_l, isiD_t, isiTD_n, isiTD_b, isiTD_i, isiTD_s, isiTD_l, isiTD_t, isiAny, eCallX, eCallWX, xE, xIf, xL, xCb1, sSetX, sRetX, sDropX, sRaise, sTo, eMk, isX_n, sKeep, kt_ll, kt_lt, kt_ls, kt_li, kt_lb, kt_tl, kt_tt, kt_ts, kt_ti, kt_tb, kt_sl, kt_st, kt_ss, kt_si, kt_sb, kt_il, kt_it, kt_is, kt_ii, kt_ib, kt_bl, kt_bt, kt_bs, kt_bi, kt_bb, kt_nl, kt_nt, kt_ns, kt_ni, kt_nb, eqW_bools, neW_bools, isD_none, isNotD_none, isNoneD, isNone_e, List.map_cons, List.map_nil, List.replicate, List.append_nil, List.cons_append, List.nil_append, nc0, nc1, nc2, nc3, nc4, nc5, nc6, nc7, nc8, nc9, nc10, nc11, nc12, nc13, nc14, nc15, nc16, nc17, nc18, nc19, nc20, Nat.reduceAdd, Nat.reduceSub, ne_eq, decide_true, decide_false, not_true_eq_false, not_false_eq_true, reduceCtorEq, Bool.and_true, Bool.true_and, Bool.and_false, Bool.false_and, Bool.or_true, Bool.true_or, Bool.or_false, Bool.false_or, Bool.not_true, Bool.not_false])
local macro_rules | `(tactic| walk_at "evh") => `(tactic| simp only [eC, eV, oE, oV, eL, eT, aNil, aCons, eOp2, eOp1, eApp, tstE, eB, tNotG, tAndG, tOrG, eAndG, eOrG, eNotG, eIf, eSeq, eCall, eCallO, eCallB, eCallBF, eCallBX, sSeq, sNext, sRet, sRetF, sRetO, sRetN, sDrop, sIf, sSet, sSetO, sBreak, sCont, sBad, sPar, sPar3, fz, sFz, eCallW, idL, sApp, sPutIx, sAug, sFor, gN, gT, gsCons, gsNil, gYes, eLc, gSeq, nS, nF, Nw.sl, R.ok_bind, R.ok_map, R.lift_some, to_ok, toX_ok, toX_ex, bind_nx, bind_rt, bind_rf, bind_ex, bind_bk, bind_ct, at_ok, at_ex, res_val, map_ex, rbind_ex, Op.res, resA, valA, isOw, box0, Option.map_some, Option.bind_some, sHeardT, nlCons, nlNil, Nw.dat, mSet, eChain, eRg1, eRg2, eSl, pNo, pSo,
  List.getElem?_cons_zero, List.getElem?_cons_succ, List.set_cons_zero, List.set_cons_succ, List.length_cons, List.length_nil, if_true, if_false, Bool.false_eq_true, ite_true, ite_false, reduceIte,
  addU_int, subD_int, ltD_int, leD_int, gtD_int, geD_int, negD_int, absD_int, intD_bool, intD_int, lenD_list, lenD_tuple, lenD_scr, pow10_7, pow10_18, pow10_40, eqW_ints, neW_ints, eqW_strs, neW_strs, eqW_none, eqW_in, eqW_ni, ixD_list, ixD_tuple, ixD_scr, atI_3_0, atI_3_1, atI_3_2, ixN_3_0, ixN_3_1, ixN_3_2, wipeR, zip2D, skOf, isiD_n, isiD_b, isiD_i, isiD_s, isiD_l, isiD_t, isiTD_n, isiTD_b, isiTD_i, isiTD_s, isiTD_l, isiTD_t, isiAny, eCallX, eCallWX, xE, xIf, xL, xCb1, sSetX, sRetX, sDropX, sRaise, sTo, eMk, isX_n, sKeep, kt_ll, kt_lt, kt_ls, kt_li, kt_lb, kt_tl, kt_tt, kt_ts, kt_ti, kt_tb, kt_sl, kt_st, kt_ss, kt_si, kt_sb, kt_il, kt_it, kt_is, kt_ii, kt_ib, kt_bl, kt_bt, kt_bs, kt_bi, kt_bb, kt_nl, kt_nt, kt_ns, kt_ni, kt_nb, eqW_bools, neW_bools, isD_none, isNotD_none, isNoneD, isNone_e, List.map_cons, List.map_nil, List.replicate, List.append_nil, List.cons_append, List.nil_append, nc0, nc1, nc2, nc3, nc4, nc5, nc6, nc7, nc8, nc9, nc10, nc11, nc12, nc13, nc14, nc15, nc16, nc17, nc18, nc19, nc20, Nat.reduceAdd, Nat.reduceSub, ne_eq, decide_true, decide_false, not_true_eq_false, not_false_eq_true, reduceCtorEq, Bool.and_true, Bool.true_and, Bool.and_false, Bool.false_and, Bool.or_true, Bool.true_or, Bool.or_false, Bool.false_or, Bool.not_true, Bool.not_false, *])
theorem int_set (ms : List Int) (k : Nat) (y : Int) : (ms.map PyData.int).set k (.int y) = (ms.set k y).map .int := by rw [List.map_set]
/-- the cells: at most m of them, at least one -/
theorem cells_eq {ns : List Int} {m : Nat} (hm : 1 ≤ m ∧ m ≤ 60) : ∃ ms : List Int, F__law_cells [.dict [(.list (ns.map .int), .none)], .int (m : Int)] = some (.list (ms.map .int)) ∧ ms.length ≤ m ∧ 1 ≤ ms.length := by
  have s1 : sliceU (.dict [(.list (ns.map PyData.int), .none)]) none (some (m : Int)) = some (.list ((ns.take m).map .int)) := by
    show some (PyData.list (cutD (ns.map PyData.int) none (some (m : Int)))) = _
    rw [cut_map, cut_to]
  have s2 : sliceU (.dict [(.list (ns.map PyData.int), .none)]) (some (m : Int)) (some 63) = some (.list ((cutD ns (some (m : Int)) (some 63)).map .int)) := by
    show some (PyData.list (cutD (ns.map PyData.int) (some (m : Int)) (some 63))) = _
    rw [cut_map]
  have hcl : (cutD ns (some (m : Int)) (some 63)).length ≤ ns.length - m := cut_ft_len ns m 63
  have hcl2 : (cutD ns (some (m : Int)) (some 63)).length ≤ 63 := by
    unfold cutD
    rw [show (some (63 : Int)) = some ((63 : Nat) : Int) from rfl, HT.sIx_nat, HT.sIx_nat, List.length_take, List.length_drop]
    omega
  generalize hcs : cutD ns (some (m : Int)) (some 63) = cs at s2 hcl hcl2
  have en : enum1D [.list (cs.map .int)] = some (enumFrom 0 (cs.map .int)) := rfl
  obtain ⟨ρ', e3, ms, s3, s4, rfl, hl⟩ := for_inv (k := gT 2 (gsCons (gN 3) (gsCons (gN 4) gsNil))) (b := gb__law_cells_1) (ds := enumFrom 0 (cs.map PyData.int))
    (fun i ρ => ∃ (ms : List Int) (s3 s4 : Sl), ρ = [.sh (.dict [(.list (ns.map .int), .none)]), .sh (.int (m : Int)), .ow (ms.map .int), s3, s4] ∧ ms.length = (ns.take m).length)
    (fun i d ρ hd h => by
      obtain ⟨ms, s3, s4, rfl, hl⟩ := h
      have hi : i < cs.length := by
        have := (List.getElem?_eq_some_iff.mp hd).1
        rw [enumFrom_len, List.length_map] at this
        exact this
      obtain ⟨c, hc⟩ : ∃ c, cs[i]? = some c := ⟨_, List.getElem?_eq_getElem hi⟩
      have hg : (cs.map PyData.int)[i]? = some (.int c) := by rw [List.getElem?_map, hc]; rfl
      rw [enumFrom_get _ 0 i _ hg] at hd
      cases hd
      rw [List.length_take] at hl
      have hlm : ms.length = m := by omega
      have hj : i % m < ms.length := by rw [hlm]; exact Nat.mod_lt _ (by omega)
      obtain ⟨v, hv⟩ : ∃ v, ms[i % m]? = some v := ⟨_, List.getElem?_eq_getElem hj⟩
      have m1 : modD (.int ((0 + i : Nat) : Int)) (.int (m : Int)) = some (.int ((i % m : Nat) : Int)) := by
        rw [modD_int (by omega), Nat.zero_add]; rfl
      have ix : atI (ms.map PyData.int) ((i % m : Nat) : Int) = some (.int v) := atI_nat (by rw [List.getElem?_map, hv]; rfl)
      have iN : ixN (ms.map PyData.int).length ((i % m : Nat) : Int) = some (i % m) := by
        unfold ixN
        rw [if_pos (by omega), if_pos (by rw [List.length_map]; omega)]
        rfl
      have m2 : mulV (.int c) (.int (((0 + i : Nat) : Int) + 2)) = some (.int (c * (((0 + i : Nat) : Int) + 2))) := cmul_r (by omega)
      have st := int_set ms (i % m)
      refine ⟨[.sh (.dict [(.list (ns.map .int), .none)]), .sh (.int (m : Int)), .ow (ms.map .int), .sh (.int ((0 + i : Nat) : Int)), .sh (.int c)], rfl, _, .inl ?_, ms.set (i % m) (v + c * (((0 + i : Nat) : Int) + 2)), .sh (.int ((0 + i : Nat) : Int)), .sh (.int c), rfl, by rw [List.length_set, List.length_take]; exact hl⟩
      have st := st (v + c * (((0 + i : Nat) : Int) + 2))
      clear hg hlm hl hj hcs hm s1 s2 hv hc hi
      unfold gb__law_cells_1
      walk_at "evh")
    (ρ := [.sh (.dict [(.list (ns.map .int), .none)]), .sh (.int (m : Int)), .ow ((ns.take m).map .int), .no, .no]) ⟨_, .no, .no, rfl, rfl⟩
  have li : listD [.list ((ns.take m).map .int)] = some ((ns.take m).map .int) := rfl
  have nw : neW (.list (ms.map .int)) (.list []) = some (.bool (!decide (ms = []))) := neW_li ms []
  have sz : (0 : Nat) ≤ sizeLine := by decide
  have sz1 : (1 : Nat) ≤ sizeLine := by decide
  by_cases h0 : ms = []
  · refine ⟨[0], ?_, hm.1, Nat.le_refl _⟩
    have d : decide (ms = []) = true := decide_eq_true h0
    clear hcs hcl hcl2 hl hm h0
    unfold F__law_cells callP g__law_cells env0
    walk_at "evh"
  · refine ⟨ms, ?_, by rw [hl, List.length_take]; omega, ?_⟩
    · have d : decide (ms = []) = false := decide_eq_false h0
      clear hcs hcl hcl2 hl hm h0
      unfold F__law_cells callP g__law_cells env0
      walk_at "evh"
    · cases ms with
      | nil => exact absurd rfl h0
      | cons _ _ => simp
theorem box_eq {ns : List Int} {k : Nat} (hk : k ≤ 1000) : ∃ box, F__law_box [.list (ns.map .int), .int (k : Int)] = some box ∧ GoodBox 0 box := by
  have m1 := fun c : Int => modD_int (i := c) (j := 2305843009213693951) (by omega)
  have m2 : mulV (.int 7919) (.int (k : Int)) = some (.int (7919 * (k : Int))) := cmul_l (by omega)
  have m3 : ∀ c : Int, mulV (.int (if c < 0 then -c else c)) (.int (if decide (1000000000000000000 ≤ if c < 0 then -c else c) = true then 1 else 0)) = some (.int ((if c < 0 then -c else c) * (if decide (1000000000000000000 ≤ if c < 0 then -c else c) = true then 1 else 0))) := fun c =>
    cmul_r (by
      generalize (decide (1000000000000000000 ≤ if c < 0 then -c else c)) = b
      cases b <;> decide)
  have sz : (3 : Nat) ≤ sizeLine := by decide
  have good : ∀ c : Int, GoodBox 0 [.int ((if c < 0 then -c else c) * (if decide (1000000000000000000 ≤ if c < 0 then -c else c) = true then 1 else 0)), .int (c % 2305843009213693951 + 7919 * (k : Int) + 65), .int 0] := by
    intro c
    refine ⟨_, _, _, rfl, ?_, by omega, by omega, by omega, by omega⟩
    exact Int.mul_nonneg (by split <;> omega) (by split <;> omega)
  by_cases hi : k < ns.length
  · refine ⟨_, ?_, good ns[k]⟩
    have ix : atI (ns.map PyData.int) (k : Int) = some (.int ns[k]) := atI_nat (by rw [List.getElem?_map, List.getElem?_eq_getElem hi]; rfl)
    have d : decide ((k : Int) < ((ns.map PyData.int).length : Int)) = true := decide_eq_true (by rw [List.length_map]; omega)
    have m3 := m3 ns[k]
    have m1 := m1 ns[k]
    clear good hk
    unfold F__law_box callF g__law_box env0
    walk_at "evh"
  · refine ⟨_, ?_, good 0⟩
    have d : decide ((k : Int) < ((ns.map PyData.int).length : Int)) = false := decide_eq_false (by rw [List.length_map]; omega)
    have m3 := m3 0
    have m1 := m1 0
    clear good hk hi
    unfold F__law_box callF g__law_box env0
    walk_at "evh"
/-- one of a list -/
theorem of_eq {n : Int} {box xs : List D} (hb : GoodBox n box) (hn : n < 2 ^ 39) (h1 : 0 < xs.length) (h2 : xs.length ≤ 100000) : ∃ y box', F__law_of box [.list xs] = some (y, box') ∧ y ∈ xs ∧ GoodBox (n + 8) box' := by
  obtain ⟨r, box', e, r1, r2, g⟩ := take8 (span := (xs.length : Int)) hb hn (by omega) (by omega)
  have hr : r.toNat < xs.length := by omega
  have ix : atI xs r = some xs[r.toNat] := atI_of (n := r.toNat) (by omega) (List.getElem?_eq_getElem hr)
  refine ⟨xs[r.toNat], box', ?_, List.getElem_mem hr, g⟩
  clear g hb h1 h2 hn r1 r2
  unfold F__law_of callB g__law_of envB
  walk_at "evh"
/-- a row of ints, none beyond 10 ** 41 -/
def Row (ns : List Int) : Prop := ∀ x ∈ ns, x.natAbs ≤ 10 ^ 41
theorem Row.app {ns : List Int} {y : Int} (hr : Row ns) (hy : y.natAbs ≤ 10 ^ 41) : Row (ns ++ [y]) := fun x hx => by
  rcases List.mem_append.mp hx with h | h
  · exact hr x h
  · rw [List.mem_singleton.mp h]; exact hy
end W

namespace W
open PySem L2 DL
local macro_rules | `(tactic| walk_at "ev") => `(tactic| simp only [eC, eV, oE, oV, eL, eT, aNil, aCons, eOp2, eOp1, eApp, tstE, eB, tNotG, tAndG, tOrG, eAndG, eOrG, eNotG, eIf, eSeq, eCall, eCallO, eCallB, eCallBF, eCallBX, sSeq, sNext, sRet, sRetF, sRetO, sRetN, sDrop, sIf, sSet, sSetO, sBreak, sCont, sBad, sPar, sPar3, fz, sFz, eCallW, idL, sApp, sPutIx, sAug, sFor, gN, gT, gsCons, gsNil, gYes, eLc, gSeq, nS, nF, Nw.sl, R.ok_bind, R.ok_map, R.lift_some, to_ok, toX_ok, toX_ex, bind_nx, bind_rt, bind_rf, bind_ex, bind_bk, bind_ct, at_ok, at_ex, res_val, map_ex, rbind_ex, Op.res, resA, valA, isOw, box0, Option.map_some, Option.bind_some, sHeardT, nlCons, nlNil, Nw.dat, mSet, eChain, eRg1, eRg2, eSl, pNo, pSo,
  List.getElem?_cons_zero, List.getElem?_cons_succ, List.set_cons_zero, List.set_cons_succ, List.length_cons, List.length_nil, if_true, if_false, Bool.false_eq_true, ite_true, ite_false, reduceIte,
  addU_int, subD_int, ltD_int, leD_int, gtD_int, geD_int, negD_int, absD_int, intD_bool, intD_int, lenD_list, lenD_tuple, lenD_scr, pow10_7, pow10_18, pow10_40, eqW_ints, neW_ints, eqW_strs, neW_strs, eqW_none, eqW_in, eqW_ni, ixD_list, ixD_tuple, ixD_scr, atI_3_0, atI_3_1, atI_3_2, ixN_3_0, ixN_3_1, ixN_3_2, wipeR, zip2D, skOf, isiD_n, isiD_b, isiD_i, isiD_s, isiD_l, isiD_t, isiTD_n, isiTD_b, isiTD_i, isiTD_s, isiTD_l, isiTD_t, isiAny, eCallX, eCallWX, xE, xIf, xL, xCb1, sSetX, sRetX, sDropX, sRaise, sTo, eMk, isX_n, sKeep, kt_ll, kt_lt, kt_ls, kt_li, kt_lb, kt_tl, kt_tt, kt_ts, kt_ti, kt_tb, kt_sl, kt_st, kt_ss, kt_si, kt_sb, kt_il, kt_it, kt_is, kt_ii, kt_ib, kt_bl, kt_bt, kt_bs, kt_bi, kt_bb, kt_nl, kt_nt, kt_ns, kt_ni, kt_nb, eqW_bools, neW_bools, isD_none, isNotD_none, isNoneD, isNone_e, List.map_cons, List.map_nil, List.replicate, List.append_nil, List.cons_append, List.nil_append, nc0, nc1, nc2, nc3, nc4, nc5, nc6, nc7, nc8, nc9, nc10, nc11, nc12, nc13, nc14, nc15, nc16, nc17, nc18, nc19, nc20, Nat.reduceAdd, Nat.reduceSub, ne_eq, decide_true, decide_false, not_true_eq_false, not_false_eq_true, reduceCtorEq, Bool.and_true, Bool.true_and, Bool.and_false, Bool.false_and, Bool.or_true, Bool.true_or, Bool.or_false, Bool.false_or, Bool.not_true, Bool.not_false])
local macro_rules | `(tactic| walk_at "evh") => `(tactic| simp only [eC, eV, oE, oV, eL, eT, aNil, aCons, eOp2, eOp1, eApp, tstE, eB, tNotG, tAndG, tOrG, eAndG, eOrG, eNotG, eIf, eSeq, eCall, eCallO, eCallB, eCallBF, eCallBX, sSeq, sNext, sRet, sRetF, sRetO, sRetN, sDrop, sIf, sSet, sSetO, sBreak, sCont, sBad, sPar, sPar3, fz, sFz, eCallW, idL, sApp, sPutIx, sAug, sFor, gN, gT, gsCons, gsNil, gYes, eLc, gSeq, nS, nF, Nw.sl, R.ok_bind, R.ok_map, R.lift_some, to_ok, toX_ok, toX_ex, bind_nx, bind_rt, bind_rf, bind_ex, bind_bk, bind_ct, at_ok, at_ex, res_val, map_ex, rbind_ex, Op.res, resA, valA, isOw, box0, Option.map_some, Option.bind_some, sHeardT, nlCons, nlNil, Nw.dat, mSet, eChain, eRg1, eRg2, eSl, pNo, pSo,
  List.getElem?_cons_zero, List.getElem?_cons_succ, List.set_cons_zero, List.set_cons_succ, List.length_cons, List.length_nil, if_true, if_false, Bool.false_eq_true, ite_true, ite_false, reduceIte,
  addU_int, subD_int, ltD_int, leD_int, gtD_int, geD_int, negD_int, absD_int, intD_bool, intD_int, lenD_list, lenD_tuple, lenD_scr, pow10_7, pow10_18, pow10_40, eqW_ints, neW_ints, eqW_strs, neW_strs, eqW_none, eqW_in, eqW_ni, ixD_list, ixD_tuple, ixD_scr, atI_3_0, atI_3_1, atI_3_2, ixN_3_0, ixN_3_1, ixN_3_2, wipeR, zip2D, skOf, isiD_n, isiD_b, isiD_i, isiD_s, isiD_l, isiD_t, isiTD_n, isiTD_b, isiTD_i, isiTD_s, isiTD_l, isiTD_t, isiAny, eCallX, eCallWX, xE, xIf, xL, xCb1, sSetX, sRetX, sDropX, sRaise, sTo, eMk, isX_n, sKeep, kt_ll, kt_lt, kt_ls, kt_li, kt_lb, kt_tl, kt_tt, kt_ts, kt_ti, kt_tb, kt_sl, kt_st, kt_ss, kt_si, kt_sb, kt_il, kt_it, kt_is, kt_ii, kt_ib, kt_bl, kt_bt, kt_bs, kt_bi, kt_bb, kt_nl, kt_nt, kt_ns, kt_ni, kt_nb, eqW_bools, neW_bools, isD_none, isNotD_none, isNoneD, isNone_e, List.map_cons, List.map_nil, List.replicate, List.append_nil, List.cons_append, List.nil_append, nc0, nc1, nc2, nc3, nc4, nc5, nc6, nc7, nc8, nc9, nc10, nc11, nc12, nc13, nc14, nc15, nc16, nc17, nc18, nc19, nc20, Nat.reduceAdd, Nat.reduceSub, ne_eq, decide_true, decide_false, not_true_eq_false, not_false_eq_true, reduceCtorEq, Bool.and_true, Bool.true_and, Bool.and_false, Bool.false_and, Bool.or_true, Bool.true_or, Bool.or_false, Bool.false_or, Bool.not_true, Bool.not_false, *])
theorem rline_step {n : Int} {i : Nat} {box : List D} {most : D} {top way : Int} {ns : List Int} {s6 : Sl} (hb : GoodBox n box) (hn : n < 2 ^ 38) (hl : ns.length < 1000) (hr : Row ns) (ht : 1 ≤ top ∧ top ≤ 10 ^ 40) (hw : 0 ≤ way ∧ way < 4) (hi : i < 1000) :
    ∃ y box', gb__law_random_line_1 [.ow box, .sh most, .sh (.int top), .sh (.int way), .ow (ns.map .int), .sh (.int (i : Int)), s6] = .nx [.ow box', .sh most, .sh (.int top), .sh (.int way), .ow ((ns ++ [y]).map .int), .sh (.int (i : Int)), .sh (.int y)] ∧ GoodBox (n + 32) box' ∧ Row (ns ++ [y]) := by
  obtain ⟨r0, box1, e1, r1, r2, g1⟩ := take8 (span := 2 * top + 1) hb (by omega) (by omega) (by omega)
  have m0 : mulV (.int 2) (.int top) = some (.int (2 * top)) := cmul_l (by omega)
  have sz : (ns.map PyData.int).length < sizeLine := by rw [List.length_map]; exact Nat.lt_trans hl (by decide)
  have ap : ∀ y : Int, (ns.map PyData.int) ++ [.int y] = (ns ++ [y]).map .int := fun y => by rw [List.map_append]; rfl
  have sz0 : (0 : Nat) ≤ sizeLine := by decide
  have nw : neW (.list (ns.map .int)) (.list []) = some (.bool (!decide (ns = []))) := neW_li ns []
  have ll : ((ns.map PyData.int).length : Int) = (ns.length : Int) := by rw [List.length_map]
  unfold gb__law_random_line_1
  by_cases w2 : way < 2
  · obtain ⟨M, hM, M1, M2⟩ : ∃ M : Int, max2D [.int 2, .int top] = some (.int M) ∧ 2 ≤ M ∧ M ≤ 10 ^ 40 := ⟨_, rfl, by split <;> omega, by split <;> omega⟩
    obtain ⟨q, box2, e2, q1, q2, g2⟩ := take8 (span := M) g1 (by omega) (by omega) (by omega)
    have m1 : modD (.int (i : Int)) (.int 2) = some (.int ((i : Int) % 2)) := modD_int (by omega)
    have m2 : mulV (.int 2) (.int ((i : Int) % 2)) = some (.int (2 * ((i : Int) % 2))) := cmul_l (by omega)
    have m3 : mulV (.int q) (.int (1 - 2 * ((i : Int) % 2))) = some (.int (q * (1 - 2 * ((i : Int) % 2)))) := cmul_r (by omega)
    have d1 : decide (way < 2) = true := decide_eq_true w2
    have d2 : decide (way = 2) = false := decide_eq_false (by omega)
    have hb : (q * (1 - 2 * ((i : Int) % 2)) + way).natAbs ≤ 10 ^ 41 := by
      have : (i : Int) % 2 = 0 ∨ (i : Int) % 2 = 1 := by omega
      rcases this with h | h <;> rw [h] <;> omega
    refine ⟨q * (1 - 2 * ((i : Int) % 2)) + way, box2, ?_, g2.mono (by omega), hr.app hb⟩
    have ap := ap (q * (1 - 2 * ((i : Int) % 2)) + way)
    clear hb g1 g2 hr hl ht hw r1 r2 q1 q2 w2 M1 M2 nw hn hi
    walk_at "evh"
  · have d1 : decide (way < 2) = false := decide_eq_false w2
    have h0 : (r0 - top).natAbs ≤ 10 ^ 41 := by omega
    by_cases w3 : way = 2
    · have d2 : decide (way = 2) = true := decide_eq_true w3
      by_cases hn0 : ns = []
      · have d3 : decide (ns = []) = true := decide_eq_true hn0
        refine ⟨r0 - top, box1, ?_, g1.mono (by omega), hr.app h0⟩
        have ap := ap (r0 - top)
        clear hb g1 hr hl ht hw r1 r2 w2 w3 h0 hn hn0 hi
        walk_at "evh"
      · have d3 : decide (ns = []) = false := decide_eq_false hn0
        obtain ⟨q, box2, e2, q1, q2, g2⟩ := take8 (span := 3) g1 (by omega) (by omega) (by omega)
        by_cases hq : q = 0
        · have d4 : decide (q = 0) = true := decide_eq_true hq
          have hpos : 0 < ns.length := List.length_pos_iff.mpr hn0
          obtain ⟨k, box3, e3, k1, k2, g3⟩ := take8 (span := (ns.length : Int)) g2 (by omega) (by omega) (by omega)
          have hk : k.toNat < ns.length := by omega
          obtain ⟨v, hv⟩ : ∃ v, ns[k.toNat]? = some v := ⟨_, List.getElem?_eq_getElem hk⟩
          have ix : atI (ns.map PyData.int) k = some (.int v) := atI_of (n := k.toNat) (by omega) (by rw [List.getElem?_map, hv]; rfl)
          refine ⟨v, box3, ?_, g3.mono (by omega), hr.app (hr v (List.mem_of_getElem? hv))⟩
          have ap := ap v
          clear hb g1 g2 g3 hr hl ht hw r1 r2 w2 w3 h0 hn hn0 hv hk k1 k2 hpos hq hi
          walk_at "evh"
        · have d4 : decide (q = 0) = false := decide_eq_false hq
          refine ⟨r0 - top, box2, ?_, g2.mono (by omega), hr.app h0⟩
          have ap := ap (r0 - top)
          clear hb g1 g2 hr hl ht hw r1 r2 w2 w3 h0 hn hn0 q1 q2 hq hi
          walk_at "evh"
    · have d2 : decide (way = 2) = false := decide_eq_false w3
      refine ⟨r0 - top, box1, ?_, g1.mono (by omega), hr.app h0⟩
      have ap := ap (r0 - top)
      clear hb g1 hr hl ht hw r1 r2 w2 w3 h0 hn hi
      walk_at "evh"
theorem rline_eq {n : Int} {box : List D} {most : Nat} {top : Int} (hb : GoodBox n box) (hn : n < 2 ^ 37) (hm : most ≤ 900) (ht : 1 ≤ top ∧ top ≤ 10 ^ 40) : ∃ ns box', F__law_random_line box [.int (most : Int), .int top] = some (.tuple (ns.map .int), box') ∧ ns.length ≤ most ∧ Row ns ∧ GoodBox (n + 16 + 32 * most) box' := by
  obtain ⟨way, box1, e1, k1, k2, g1⟩ := take8 (span := 4) hb (by omega) (by omega) (by omega)
  obtain ⟨m, box2, e2, m1, m2, g2⟩ := take8 (span := (most : Int) + 1) g1 (by omega) (by omega) (by omega)
  have rg := rng1_eq m1 (by omega)
  obtain ⟨ρ', e3, box3, ns, s5, s6, rfl, g3, hl, hr⟩ := for_inv (k := gN 5) (b := gb__law_random_line_1) (ds := rangeD 0 m.toNat)
    (fun i ρ => ∃ box ns s5 s6, ρ = [.ow box, .sh (.int (most : Int)), .sh (.int top), .sh (.int way), .ow (ns.map .int), s5, s6] ∧ GoodBox (n + 16 + 32 * i) box ∧ ns.length = i ∧ Row ns)
    (fun i d ρ hd h => by
      obtain ⟨rfl, hi⟩ := rangeD_at hd
      obtain ⟨box, ns, s5, s6, rfl, g, hl, hr⟩ := h
      obtain ⟨y, box', e, g', hr'⟩ := rline_step (i := i) (most := .int (most : Int)) (s6 := s6) g (by omega) (by omega) hr ht ⟨k1, k2⟩ (by omega)
      exact ⟨_, rfl, _, .inl e, box', ns ++ [y], _, _, rfl, g'.mono (by omega), by rw [List.length_append, hl]; rfl, hr'⟩)
    (ρ := [.ow box2, .sh (.int (most : Int)), .sh (.int top), .sh (.int way), .ow [], .no, .no]) ⟨box2, [], .no, .no, rfl, g2.mono (by omega), rfl, fun x hx => nomatch hx⟩
  rw [rangeD_len] at hl g3
  refine ⟨ns, box3, ?_, by omega, hr, g3.mono (by omega)⟩
  have t : tupleD [.list (ns.map .int)] = some (.tuple (ns.map .int)) := rfl
  have sz : (0 : Nat) ≤ sizeLine := by decide
  clear g3 g2 g1 hb hr hl hm ht hn k1 k2 m1 m2
  unfold F__law_random_line callB g__law_random_line envB
  walk_at "evh"
end W

namespace W
open PySem L2 DL
local macro_rules | `(tactic| walk_at "ev") => `(tactic| simp only [eC, eV, oE, oV, eL, eT, aNil, aCons, eOp2, eOp1, eApp, tstE, eB, tNotG, tAndG, tOrG, eAndG, eOrG, eNotG, eIf, eSeq, eCall, eCallO, eCallB, eCallBF, eCallBX, sSeq, sNext, sRet, sRetF, sRetO, sRetN, sDrop, sIf, sSet, sSetO, sBreak, sCont, sBad, sPar, sPar3, fz, sFz, eCallW, idL, sApp, sPutIx, sAug, sFor, gN, gT, gsCons, gsNil, gYes, eLc, gSeq, nS, nF, Nw.sl, R.ok_bind, R.ok_map, R.lift_some, to_ok, toX_ok, toX_ex, bind_nx, bind_rt, bind_rf, bind_ex, bind_bk, bind_ct, at_ok, at_ex, res_val, map_ex, rbind_ex, Op.res, resA, valA, isOw, box0, Option.map_some, Option.bind_some, sHeardT, nlCons, nlNil, Nw.dat, mSet, eChain, eRg1, eRg2, eSl, pNo, pSo,
  List.getElem?_cons_zero, List.getElem?_cons_succ, List.set_cons_zero, List.set_cons_succ, List.length_cons, List.length_nil, if_true, if_false, Bool.false_eq_true, ite_true, ite_false, reduceIte,
  addU_int, subD_int, ltD_int, leD_int, gtD_int, geD_int, negD_int, absD_int, intD_bool, intD_int, lenD_list, lenD_tuple, lenD_scr, pow10_7, pow10_18, pow10_40, eqW_ints, neW_ints, eqW_strs, neW_strs, eqW_none, eqW_in, eqW_ni, ixD_list, ixD_tuple, ixD_scr, atI_3_0, atI_3_1, atI_3_2, ixN_3_0, ixN_3_1, ixN_3_2, wipeR, zip2D, skOf, isiD_n, isiD_b, isiD_i, isiD_s, isiD_l, isiD_t, isiTD_n, isiTD_b, isiTD_i, isiTD_s, isiTD_l, isiTD_t, isiAny, eCallX, eCallWX, xE, xIf, xL, xCb1, sSetX, sRetX, sDropX, sRaise, sTo, eMk, isX_n, sKeep, kt_ll, kt_lt, kt_ls, kt_li, kt_lb, kt_tl, kt_tt, kt_ts, kt_ti, kt_tb, kt_sl, kt_st, kt_ss, kt_si, kt_sb, kt_il, kt_it, kt_is, kt_ii, kt_ib, kt_bl, kt_bt, kt_bs, kt_bi, kt_bb, kt_nl, kt_nt, kt_ns, kt_ni, kt_nb, eqW_bools, neW_bools, isD_none, isNotD_none, isNoneD, isNone_e, List.map_cons, List.map_nil, List.replicate, List.append_nil, List.cons_append, List.nil_append, nc0, nc1, nc2, nc3, nc4, nc5, nc6, nc7, nc8, nc9, nc10, nc11, nc12, nc13, nc14, nc15, nc16, nc17, nc18, nc19, nc20, Nat.reduceAdd, Nat.reduceSub, ne_eq, decide_true, decide_false, not_true_eq_false, not_false_eq_true, reduceCtorEq, Bool.and_true, Bool.true_and, Bool.and_false, Bool.false_and, Bool.or_true, Bool.true_or, Bool.or_false, Bool.false_or, Bool.not_true, Bool.not_false])
local macro_rules | `(tactic| walk_at "evh") => `(tactic| simp only [eC, eV, oE, oV, eL, eT, aNil, aCons, eOp2, eOp1, eApp, tstE, eB, tNotG, tAndG, tOrG, eAndG, eOrG, eNotG, eIf, eSeq, eCall, eCallO, eCallB, eCallBF, eCallBX, sSeq, sNext, sRet, sRetF, sRetO, sRetN, sDrop, sIf, sSet, sSetO, sBreak, sCont, sBad, sPar, sPar3, fz, sFz, eCallW, idL, sApp, sPutIx, sAug, sFor, gN, gT, gsCons, gsNil, gYes, eLc, gSeq, nS, nF, Nw.sl, R.ok_bind, R.ok_map, R.lift_some, to_ok, toX_ok, toX_ex, bind_nx, bind_rt, bind_rf, bind_ex, bind_bk, bind_ct, at_ok, at_ex, res_val, map_ex, rbind_ex, Op.res, resA, valA, isOw, box0, Option.map_some, Option.bind_some, sHeardT, nlCons, nlNil, Nw.dat, mSet, eChain, eRg1, eRg2, eSl, pNo, pSo,
  List.getElem?_cons_zero, List.getElem?_cons_succ, List.set_cons_zero, List.set_cons_succ, List.length_cons, List.length_nil, if_true, if_false, Bool.false_eq_true, ite_true, ite_false, reduceIte,
  addU_int, subD_int, ltD_int, leD_int, gtD_int, geD_int, negD_int, absD_int, intD_bool, intD_int, lenD_list, lenD_tuple, lenD_scr, pow10_7, pow10_18, pow10_40, eqW_ints, neW_ints, eqW_strs, neW_strs, eqW_none, eqW_in, eqW_ni, ixD_list, ixD_tuple, ixD_scr, atI_3_0, atI_3_1, atI_3_2, ixN_3_0, ixN_3_1, ixN_3_2, wipeR, zip2D, skOf, isiD_n, isiD_b, isiD_i, isiD_s, isiD_l, isiD_t, isiTD_n, isiTD_b, isiTD_i, isiTD_s, isiTD_l, isiTD_t, isiAny, eCallX, eCallWX, xE, xIf, xL, xCb1, sSetX, sRetX, sDropX, sRaise, sTo, eMk, isX_n, sKeep, kt_ll, kt_lt, kt_ls, kt_li, kt_lb, kt_tl, kt_tt, kt_ts, kt_ti, kt_tb, kt_sl, kt_st, kt_ss, kt_si, kt_sb, kt_il, kt_it, kt_is, kt_ii, kt_ib, kt_bl, kt_bt, kt_bs, kt_bi, kt_bb, kt_nl, kt_nt, kt_ns, kt_ni, kt_nb, eqW_bools, neW_bools, isD_none, isNotD_none, isNoneD, isNone_e, List.map_cons, List.map_nil, List.replicate, List.append_nil, List.cons_append, List.nil_append, nc0, nc1, nc2, nc3, nc4, nc5, nc6, nc7, nc8, nc9, nc10, nc11, nc12, nc13, nc14, nc15, nc16, nc17, nc18, nc19, nc20, Nat.reduceAdd, Nat.reduceSub, ne_eq, decide_true, decide_false, not_true_eq_false, not_false_eq_true, reduceCtorEq, Bool.and_true, Bool.true_and, Bool.and_false, Bool.false_and, Bool.or_true, Bool.true_or, Bool.or_false, Bool.false_or, Bool.not_true, Bool.not_false, *])
def inn (ns : List Int) : List Int := rngI 1 (ns.length - 2)
theorem mem_inn {ns : List Int} {i : Int} (h : i ∈ inn ns) : 1 ≤ i ∧ i + 1 < ns.length := by
  have := mem_rngI h
  omega
def isTop (ns : List Int) (i : Int) : Bool := decide (nat ns (i - 1) < nat ns i) && decide (nat ns (i + 1) < nat ns i)
def isDip (ns : List Int) (i : Int) : Bool := decide (nat ns i < nat ns (i - 1)) && decide (nat ns i < nat ns (i + 1))
theorem inner_eq {r : D} {ns : List Int} (hr : Sq r (ns.map .int)) (hl : ns.length ≤ 1000) : F_inner [r] = some ((inn ns).map .int) := by
  have e : rg2 (.int 1) (.int (((ns.map PyData.int).length : Int) - 1)) = some ((inn ns).map .int) := by
    unfold rg2
    dsimp only
    rw [if_pos (by rw [List.length_map]; omega), rngI_d]
    unfold inn
    rw [List.length_map, show ((ns.length : Int) - 1 - 1).toNat = ns.length - 2 by omega]
  clear hl
  unfold F_inner callF g_inner env0
  rcases hr with rfl | rfl <;> walk_at "evh"
theorem len_inn {ns : List Int} (hl : ns.length ≤ 1000) : ((inn ns).map PyData.int).length ≤ sizeLine := by
  rw [List.length_map]
  unfold inn
  rw [rngI_len]
  exact Nat.le_trans (by omega : ns.length - 2 ≤ 1000) (by decide)
theorem tops_lc {r : D} {ns : List Int} (hr : Sq r (ns.map .int)) : lcL [1] (gN 1) ct_tops_1 ce_tops_2 ((inn ns).map .int) [.sh r, .no] = .ok (((inn ns).filter (isTop ns)).map .int) [.sh r, .no] := by
  refine lc_filter _ fun i hi => ⟨[.sh r, .sh (.int i)], rfl, rfl, ?_, rfl⟩
  obtain ⟨h1, h2⟩ := mem_inn hi
  have a1 := atI_at (ns := ns) (i := i - 1) (by omega) (by omega)
  have a2 := atI_at (ns := ns) (i := i) (by omega) (by omega)
  have a3 := atI_at (ns := ns) (i := i + 1) (by omega) (by omega)
  clear hi h1 h2
  unfold ct_tops_1 isTop
  cases d1 : decide (nat ns (i - 1) < nat ns i) <;> cases d2 : decide (nat ns (i + 1) < nat ns i) <;> rcases hr with rfl | rfl <;> walk_at "evh"
theorem dips_lc {r : D} {ns : List Int} (hr : Sq r (ns.map .int)) : lcL [1] (gN 1) ct_dips_1 ce_dips_2 ((inn ns).map .int) [.sh r, .no] = .ok (((inn ns).filter (isDip ns)).map .int) [.sh r, .no] := by
  refine lc_filter _ fun i hi => ⟨[.sh r, .sh (.int i)], rfl, rfl, ?_, rfl⟩
  obtain ⟨h1, h2⟩ := mem_inn hi
  have a1 := atI_at (ns := ns) (i := i - 1) (by omega) (by omega)
  have a2 := atI_at (ns := ns) (i := i) (by omega) (by omega)
  have a3 := atI_at (ns := ns) (i := i + 1) (by omega) (by omega)
  clear hi h1 h2
  unfold ct_dips_1 isDip
  cases d1 : decide (nat ns i < nat ns (i - 1)) <;> cases d2 : decide (nat ns i < nat ns (i + 1)) <;> rcases hr with rfl | rfl <;> walk_at "evh"
def topsL (ns : List Int) : List Int := (inn ns).filter (isTop ns)
def dipsL (ns : List Int) : List Int := (inn ns).filter (isDip ns)
theorem tops_eq {r : D} {ns : List Int} (hr : Sq r (ns.map .int)) (hl : ns.length ≤ 1000) : F_tops [r] = some ((topsL ns).map .int) := by
  have e1 := inner_eq hr hl
  have e2 := tops_lc hr
  have e3 := len_inn hl
  have it : itemsD (.list ((inn ns).map .int)) = some ((inn ns).map .int) := rfl
  clear hl hr
  unfold F_tops callF g_tops env0 topsL
  walk_at "evh"
theorem dips_eq {r : D} {ns : List Int} (hr : Sq r (ns.map .int)) (hl : ns.length ≤ 1000) : F_dips [r] = some ((dipsL ns).map .int) := by
  have e1 := inner_eq hr hl
  have e2 := dips_lc hr
  have e3 := len_inn hl
  have it : itemsD (.list ((inn ns).map .int)) = some ((inn ns).map .int) := rfl
  clear hl hr
  unfold F_dips callF g_dips env0 dipsL
  walk_at "evh"
end W

namespace W
open PySem L2 DL
local macro_rules | `(tactic| walk_at "ev") => `(tactic| simp only [eC, eV, oE, oV, eL, eT, aNil, aCons, eOp2, eOp1, eApp, tstE, eB, tNotG, tAndG, tOrG, eAndG, eOrG, eNotG, eIf, eSeq, eCall, eCallO, eCallB, eCallBF, eCallBX, sSeq, sNext, sRet, sRetF, sRetO, sRetN, sDrop, sIf, sSet, sSetO, sBreak, sCont, sBad, sPar, sPar3, fz, sFz, eCallW, idL, sApp, sPutIx, sAug, sFor, gN, gT, gsCons, gsNil, gYes, eLc, gSeq, nS, nF, Nw.sl, R.ok_bind, R.ok_map, R.lift_some, to_ok, toX_ok, toX_ex, bind_nx, bind_rt, bind_rf, bind_ex, bind_bk, bind_ct, at_ok, at_ex, res_val, map_ex, rbind_ex, Op.res, resA, valA, isOw, box0, Option.map_some, Option.bind_some, sHeardT, nlCons, nlNil, Nw.dat, mSet, eChain, eRg1, eRg2, eSl, pNo, pSo,
  List.getElem?_cons_zero, List.getElem?_cons_succ, List.set_cons_zero, List.set_cons_succ, List.length_cons, List.length_nil, if_true, if_false, Bool.false_eq_true, ite_true, ite_false, reduceIte,
  addU_int, subD_int, ltD_int, leD_int, gtD_int, geD_int, negD_int, absD_int, intD_bool, intD_int, lenD_list, lenD_tuple, lenD_scr, pow10_7, pow10_18, pow10_40, eqW_ints, neW_ints, eqW_strs, neW_strs, eqW_none, eqW_in, eqW_ni, ixD_list, ixD_tuple, ixD_scr, atI_3_0, atI_3_1, atI_3_2, ixN_3_0, ixN_3_1, ixN_3_2, wipeR, zip2D, skOf, isiD_n, isiD_b, isiD_i, isiD_s, isiD_l, isiD_t, isiTD_n, isiTD_b, isiTD_i, isiTD_s, isiTD_l, isiTD_t, isiAny, eCallX, eCallWX, xE, xIf, xL, xCb1, sSetX, sRetX, sDropX, sRaise, sTo, eMk, isX_n, sKeep, kt_ll, kt_lt, kt_ls, kt_li, kt_lb, kt_tl, kt_tt, kt_ts, kt_ti, kt_tb, kt_sl, kt_st, kt_ss, kt_si, kt_sb, kt_il, kt_it, kt_is, kt_ii, kt_ib, kt_bl, kt_bt, kt_bs, kt_bi, kt_bb, kt_nl, kt_nt, kt_ns, kt_ni, kt_nb, eqW_bools, neW_bools, isD_none, isNotD_none, isNoneD, isNone_e, List.map_cons, List.map_nil, List.replicate, List.append_nil, List.cons_append, List.nil_append, nc0, nc1, nc2, nc3, nc4, nc5, nc6, nc7, nc8, nc9, nc10, nc11, nc12, nc13, nc14, nc15, nc16, nc17, nc18, nc19, nc20, Nat.reduceAdd, Nat.reduceSub, ne_eq, decide_true, decide_false, not_true_eq_false, not_false_eq_true, reduceCtorEq, Bool.and_true, Bool.true_and, Bool.and_false, Bool.false_and, Bool.or_true, Bool.true_or, Bool.or_false, Bool.false_or, Bool.not_true, Bool.not_false])
local macro_rules | `(tactic| walk_at "evh") => `(tactic| simp only [eC, eV, oE, oV, eL, eT, aNil, aCons, eOp2, eOp1, eApp, tstE, eB, tNotG, tAndG, tOrG, eAndG, eOrG, eNotG, eIf, eSeq, eCall, eCallO, eCallB, eCallBF, eCallBX, sSeq, sNext, sRet, sRetF, sRetO, sRetN, sDrop, sIf, sSet, sSetO, sBreak, sCont, sBad, sPar, sPar3, fz, sFz, eCallW, idL, sApp, sPutIx, sAug, sFor, gN, gT, gsCons, gsNil, gYes, eLc, gSeq, nS, nF, Nw.sl, R.ok_bind, R.ok_map, R.lift_some, to_ok, toX_ok, toX_ex, bind_nx, bind_rt, bind_rf, bind_ex, bind_bk, bind_ct, at_ok, at_ex, res_val, map_ex, rbind_ex, Op.res, resA, valA, isOw, box0, Option.map_some, Option.bind_some, sHeardT, nlCons, nlNil, Nw.dat, mSet, eChain, eRg1, eRg2, eSl, pNo, pSo,
  List.getElem?_cons_zero, List.getElem?_cons_succ, List.set_cons_zero, List.set_cons_succ, List.length_cons, List.length_nil, if_true, if_false, Bool.false_eq_true, ite_true, ite_false, reduceIte,
  addU_int, subD_int, ltD_int, leD_int, gtD_int, geD_int, negD_int, absD_int, intD_bool, intD_int, lenD_list, lenD_tuple, lenD_scr, pow10_7, pow10_18, pow10_40, eqW_ints, neW_ints, eqW_strs, neW_strs, eqW_none, eqW_in, eqW_ni, ixD_list, ixD_tuple, ixD_scr, atI_3_0, atI_3_1, atI_3_2, ixN_3_0, ixN_3_1, ixN_3_2, wipeR, zip2D, skOf, isiD_n, isiD_b, isiD_i, isiD_s, isiD_l, isiD_t, isiTD_n, isiTD_b, isiTD_i, isiTD_s, isiTD_l, isiTD_t, isiAny, eCallX, eCallWX, xE, xIf, xL, xCb1, sSetX, sRetX, sDropX, sRaise, sTo, eMk, isX_n, sKeep, kt_ll, kt_lt, kt_ls, kt_li, kt_lb, kt_tl, kt_tt, kt_ts, kt_ti, kt_tb, kt_sl, kt_st, kt_ss, kt_si, kt_sb, kt_il, kt_it, kt_is, kt_ii, kt_ib, kt_bl, kt_bt, kt_bs, kt_bi, kt_bb, kt_nl, kt_nt, kt_ns, kt_ni, kt_nb, eqW_bools, neW_bools, isD_none, isNotD_none, isNoneD, isNone_e, List.map_cons, List.map_nil, List.replicate, List.append_nil, List.cons_append, List.nil_append, nc0, nc1, nc2, nc3, nc4, nc5, nc6, nc7, nc8, nc9, nc10, nc11, nc12, nc13, nc14, nc15, nc16, nc17, nc18, nc19, nc20, Nat.reduceAdd, Nat.reduceSub, ne_eq, decide_true, decide_false, not_true_eq_false, not_false_eq_true, reduceCtorEq, Bool.and_true, Bool.true_and, Bool.and_false, Bool.false_and, Bool.or_true, Bool.true_or, Bool.or_false, Bool.false_or, Bool.not_true, Bool.not_false, *])
/-! ### runs -/
def isBeg (ns : List Int) (i : Int) : Bool := decide (i = 0) || !decide (nat ns i = nat ns (i - 1))
def begs (ns : List Int) (n : Nat) : List Int := (rngI 0 n).filter (isBeg ns)
/-- the runs that begin at b, up to n -/
def runsOf : List Int → Int → List (Int × Int)
  | [], _ => []
  | [x], n => [(x, n - 1)]
  | x :: y :: r, n => (x, y - 1) :: runsOf (y :: r) n
def prD (p : Int × Int) : D := .tuple [.int p.1, .int p.2]
theorem runs_zip : ∀ (b : List Int) (n : Int), (zipD (b.map .int) ((b.drop 1).map .int ++ [.int n])).map (fun d => match d with | .tuple [.int x, .int y] => PyData.tuple [.int x, .int (y - 1)] | d => d) = (runsOf b n).map prD
  | [], n => rfl
  | [x], n => rfl
  | x :: y :: r, n => by
    have ih := runs_zip (y :: r) n
    show _ :: _ = _ :: _
    congr 1
theorem runs_lc1 {r : D} {ns : List Int} (hr : Sq r (ns.map .int)) : lcL [2] (gN 2) ct_runs_1 ce_runs_2 ((rngI 0 ns.length).map .int) [.sh r, .no, .no, .no, .no] = .ok ((begs ns ns.length).map .int) [.sh r, .no, .no, .no, .no] := by
  refine lc_filter _ fun i hi => ⟨[.sh r, .no, .sh (.int i), .no, .no], rfl, rfl, ?_, rfl⟩
  obtain ⟨h1, h2⟩ := mem_rngI hi
  unfold ct_runs_1 isBeg
  by_cases h0 : i = 0
  · have d : decide (i = 0) = true := decide_eq_true h0
    clear hi h1 h2 hr h0
    walk_at "evh"
  · have d : decide (i = 0) = false := decide_eq_false h0
    have a1 := atI_at (ns := ns) (i := i - 1) (by omega) (by omega)
    have a2 := atI_at (ns := ns) (i := i) (by omega) (by omega)
    clear hi h1 h2 h0
    rcases hr with rfl | rfl <;> walk_at "evh"
theorem zip_shape (b : List Int) (n : Int) : ∀ d ∈ zipD (b.map .int) ((b.drop 1).map .int ++ [.int n]), ∃ x y : Int, d = .tuple [.int x, .int y] := fun d hd => by
  have e : (b.drop 1).map PyData.int ++ [.int n] = (b.drop 1 ++ [n]).map .int := by rw [List.map_append]; rfl
  rw [e] at hd
  unfold zipD at hd
  rw [List.zipWith_map] at hd
  obtain ⟨i, hi, rfl⟩ := List.mem_iff_getElem.mp hd
  rw [List.getElem_zipWith]
  exact ⟨_, _, rfl⟩
theorem runs_lc2 {s0 s1 s2 : Sl} {b : List Int} {n : Int} : lcL [3, 4] (gT 2 (gsCons (gN 3) (gsCons (gN 4) gsNil))) gYes ce_runs_3 (zipD (b.map .int) ((b.drop 1).map .int ++ [.int n])) [s0, s1, s2, .no, .no] = .ok ((runsOf b n).map prD) [s0, s1, s2, .no, .no] := by
  rw [← runs_zip]
  refine lc_map _ fun d hd => ?_
  obtain ⟨x, y, rfl⟩ := zip_shape b n d hd
  refine ⟨[s0, s1, s2, .sh (.int x), .sh (.int y)], rfl, rfl, rfl, ?_⟩
  have sz : (2 : Nat) ≤ sizeLine := by decide
  clear hd
  unfold ce_runs_3
  walk_at "evh"
theorem begs_len (ns : List Int) (n : Nat) : (begs ns n).length ≤ n := by
  unfold begs
  exact Nat.le_trans (List.length_filter_le _ _) (by rw [rngI_len]; exact Nat.le_refl _)
theorem runs_rg (ns : List Int) (hl : ns.length ≤ 1000) : rng1 [.int ((ns.map PyData.int).length : Int)] = some ((rngI 0 ns.length).map .int) := by
  rw [rng1_eq (by omega) (by rw [List.length_map]; omega), rngI_d, List.length_map, Int.toNat_natCast]
theorem runs_sl (b : List Int) : sliceU (.list (b.map .int)) (some 1) none = some (.list ((b.drop 1).map .int)) := by
  show some (PyData.list (cutD (b.map PyData.int) (some ((1 : Nat) : Int)) none)) = _
  rw [cut_from, List.map_drop]
theorem addU_1 {xs : List D} {y : D} (h : xs.length ≤ 1000) : addU (.list xs) (.list [y]) = some (.list (xs ++ [y])) := by
  have e : addL (.list xs) (.list [y]) = some (xs ++ [y]) := if_pos (by
    show xs.length + 1 ≤ sizeLine
    exact Nat.le_trans (by omega : xs.length + 1 ≤ 1001) (by decide))
  unfold addU
  rw [e]; rfl
theorem runs_z2 (b : List Int) (n : Int) (hb : b.length ≤ 1000) : (zipD (b.map PyData.int) ((b.drop 1).map .int ++ [.int n])).length ≤ sizeLine := by
  unfold zipD
  rw [List.length_zipWith, List.length_map]
  exact Nat.le_trans (Nat.min_le_left _ _) (Nat.le_trans hb (by decide))
theorem runs_st1 {r : D} {j : Int} {L b : List D} (hj : lenD [r] = some (.int j)) (e1 : lcL [2] (gN 2) ct_runs_1 ce_runs_2 L [.sh r, .no, .no, .no, .no] = .ok b [.sh r, .no, .no, .no, .no]) (rg : rng1 [.int j] = some L) (z1 : L.length ≤ sizeLine) :
    (sSet 1 (eL (eLc [2] (eCall rng1 (aCons (oE (eApp lenD (aCons (oE (eV 0)) aNil))) aNil)) (gN 2) ct_runs_1 ce_runs_2))) [.sh r, .no, .no, .no, .no] = .nx [.sh r, .sh (.list b), .no, .no, .no] := by
  exact sSet_ok (eL_ok (eLc_ok (ρ1 := [.sh r, .no, .no, .no, .no]) (by clear e1; walk_at "evh") z1 e1))
theorem runs_st2 {r : D} {j : Int} {b c d e : List D} (hj : lenD [r] = some (.int j)) (sl : sliceU (.list b) (some 1) none = some (.list c)) (ad : addU (.list c) (.list [.int j]) = some (.list d)) (zp : zip2D [.list b, .list d] = some e)
    (z2 : e.length ≤ sizeLine) {f : List D} (e2 : ∀ s0 s1 s2 : Sl, lcL [3, 4] (gT 2 (gsCons (gN 3) (gsCons (gN 4) gsNil))) gYes ce_runs_3 e [s0, s1, s2, .no, .no] = .ok f [s0, s1, s2, .no, .no]) (sz : 1 ≤ sizeLine) :
    (sRetF (eLc [3, 4] (eCall zip2D (aCons (oE (eV 1)) (aCons (oE (eOp2 addU (oE (eSl sliceU (oE (eV 1)) (pSo (eC (.int 1))) pNo)) (oE (eL (eSeq (aCons (oE (eApp lenD (aCons (oE (eV 0)) aNil))) aNil)))))) aNil))) (gT 2 (gsCons (gN 3) (gsCons (gN 4) gsNil))) gYes ce_runs_3)) [.sh r, .sh (.list b), .no, .no, .no] = .rf f [.sh r, .sh (.list b), .no, .no, .no] := by
  refine sRetF_ok (eLc_ok (ρ1 := [.sh r, .sh (.list b), .no, .no, .no]) ?_ z2 (e2 _ _ _))
  clear e2
  have zp : (skOf (.list b)).bind (fun x => (skOf (.list d)).bind fun y => some (zipD x.2 y.2)) = some e := zp
  simp only [skOf, Option.bind_some, Option.some.injEq] at zp
  walk_at "evh"
theorem runs_eq {r : D} {ns : List Int} (hr : Sq r (ns.map .int)) (hl : ns.length ≤ 1000) : F_runs [r] = some ((runsOf (begs ns ns.length) ns.length).map prD) := by
  have hb := begs_len ns ns.length
  obtain ⟨j, hj, ej⟩ := hr.len
  have ad : addU (.list (((begs ns ns.length).drop 1).map .int)) (.list [.int j]) = some (.list (((begs ns ns.length).drop 1).map .int ++ [.int (ns.length : Int)])) := by
    rw [addU_1 (by rw [List.length_map, List.length_drop]; omega), ej, List.length_map]
  have st := seq_nx (runs_st1 hj (runs_lc1 hr) (by rw [ej]; exact runs_rg ns hl) (by rw [List.length_map, rngI_len]; exact Nat.le_trans hl (by decide)))
    (runs_st2 hj (runs_sl _) ad rfl (runs_z2 _ _ (by omega)) (fun s0 s1 s2 => runs_lc2) (by decide))
  unfold F_runs callF env0 g_runs
  show (match _ with | O.rf ds ρ => some ds | x => none) = _
  rw [show ([r].map Sl.sh ++ List.replicate (5 - [r].length) Sl.no) = [Sl.sh r, .no, .no, .no, .no] from rfl, st]
end W

namespace W
open PySem L2 DL
local macro_rules | `(tactic| walk_at "ev") => `(tactic| simp only [eC, eV, oE, oV, eL, eT, aNil, aCons, eOp2, eOp1, eApp, tstE, eB, tNotG, tAndG, tOrG, eAndG, eOrG, eNotG, eIf, eSeq, eCall, eCallO, eCallB, eCallBF, eCallBX, sSeq, sNext, sRet, sRetF, sRetO, sRetN, sDrop, sIf, sSet, sSetO, sBreak, sCont, sBad, sPar, sPar3, fz, sFz, eCallW, idL, sApp, sPutIx, sAug, sFor, gN, gT, gsCons, gsNil, gYes, eLc, gSeq, nS, nF, Nw.sl, R.ok_bind, R.ok_map, R.lift_some, to_ok, toX_ok, toX_ex, bind_nx, bind_rt, bind_rf, bind_ex, bind_bk, bind_ct, at_ok, at_ex, res_val, map_ex, rbind_ex, Op.res, resA, valA, isOw, box0, Option.map_some, Option.bind_some, sHeardT, nlCons, nlNil, Nw.dat, mSet, eChain, eRg1, eRg2, eSl, pNo, pSo,
  List.getElem?_cons_zero, List.getElem?_cons_succ, List.set_cons_zero, List.set_cons_succ, List.length_cons, List.length_nil, if_true, if_false, Bool.false_eq_true, ite_true, ite_false, reduceIte,
  addU_int, subD_int, ltD_int, leD_int, gtD_int, geD_int, negD_int, absD_int, intD_bool, intD_int, lenD_list, lenD_tuple, lenD_scr, pow10_7, pow10_18, pow10_40, eqW_ints, neW_ints, eqW_strs, neW_strs, eqW_none, eqW_in, eqW_ni, ixD_list, ixD_tuple, ixD_scr, atI_3_0, atI_3_1, atI_3_2, ixN_3_0, ixN_3_1, ixN_3_2, wipeR, zip2D, skOf, isiD_n, isiD_b, isiD_i, isiD_s, isiD_l, isiD_t, isiTD_n, isiTD_b, isiTD_i, isiTD_s, isiTD_l, isiTD_t, isiAny, eCallX, eCallWX, xE, xIf, xL, xCb1, sSetX, sRetX, sDropX, sRaise, sTo, eMk, isX_n, sKeep, kt_ll, kt_lt, kt_ls, kt_li, kt_lb, kt_tl, kt_tt, kt_ts, kt_ti, kt_tb, kt_sl, kt_st, kt_ss, kt_si, kt_sb, kt_il, kt_it, kt_is, kt_ii, kt_ib, kt_bl, kt_bt, kt_bs, kt_bi, kt_bb, kt_nl, kt_nt, kt_ns, kt_ni, kt_nb, eqW_bools, neW_bools, isD_none, isNotD_none, isNoneD, isNone_e, List.map_cons, List.map_nil, List.replicate, List.append_nil, List.cons_append, List.nil_append, nc0, nc1, nc2, nc3, nc4, nc5, nc6, nc7, nc8, nc9, nc10, nc11, nc12, nc13, nc14, nc15, nc16, nc17, nc18, nc19, nc20, Nat.reduceAdd, Nat.reduceSub, ne_eq, decide_true, decide_false, not_true_eq_false, not_false_eq_true, reduceCtorEq, Bool.and_true, Bool.true_and, Bool.and_false, Bool.false_and, Bool.or_true, Bool.true_or, Bool.or_false, Bool.false_or, Bool.not_true, Bool.not_false, xIf])
local macro_rules | `(tactic| walk_at "evh") => `(tactic| simp only [eC, eV, oE, oV, eL, eT, aNil, aCons, eOp2, eOp1, eApp, tstE, eB, tNotG, tAndG, tOrG, eAndG, eOrG, eNotG, eIf, eSeq, eCall, eCallO, eCallB, eCallBF, eCallBX, sSeq, sNext, sRet, sRetF, sRetO, sRetN, sDrop, sIf, sSet, sSetO, sBreak, sCont, sBad, sPar, sPar3, fz, sFz, eCallW, idL, sApp, sPutIx, sAug, sFor, gN, gT, gsCons, gsNil, gYes, eLc, gSeq, nS, nF, Nw.sl, R.ok_bind, R.ok_map, R.lift_some, to_ok, toX_ok, toX_ex, bind_nx, bind_rt, bind_rf, bind_ex, bind_bk, bind_ct, at_ok, at_ex, res_val, map_ex, rbind_ex, Op.res, resA, valA, isOw, box0, Option.map_some, Option.bind_some, sHeardT, nlCons, nlNil, Nw.dat, mSet, eChain, eRg1, eRg2, eSl, pNo, pSo,
  List.getElem?_cons_zero, List.getElem?_cons_succ, List.set_cons_zero, List.set_cons_succ, List.length_cons, List.length_nil, if_true, if_false, Bool.false_eq_true, ite_true, ite_false, reduceIte,
  addU_int, subD_int, ltD_int, leD_int, gtD_int, geD_int, negD_int, absD_int, intD_bool, intD_int, lenD_list, lenD_tuple, lenD_scr, pow10_7, pow10_18, pow10_40, eqW_ints, neW_ints, eqW_strs, neW_strs, eqW_none, eqW_in, eqW_ni, ixD_list, ixD_tuple, ixD_scr, atI_3_0, atI_3_1, atI_3_2, ixN_3_0, ixN_3_1, ixN_3_2, wipeR, zip2D, skOf, isiD_n, isiD_b, isiD_i, isiD_s, isiD_l, isiD_t, isiTD_n, isiTD_b, isiTD_i, isiTD_s, isiTD_l, isiTD_t, isiAny, eCallX, eCallWX, xE, xIf, xL, xCb1, sSetX, sRetX, sDropX, sRaise, sTo, eMk, isX_n, sKeep, kt_ll, kt_lt, kt_ls, kt_li, kt_lb, kt_tl, kt_tt, kt_ts, kt_ti, kt_tb, kt_sl, kt_st, kt_ss, kt_si, kt_sb, kt_il, kt_it, kt_is, kt_ii, kt_ib, kt_bl, kt_bt, kt_bs, kt_bi, kt_bb, kt_nl, kt_nt, kt_ns, kt_ni, kt_nb, eqW_bools, neW_bools, isD_none, isNotD_none, isNoneD, isNone_e, List.map_cons, List.map_nil, List.replicate, List.append_nil, List.cons_append, List.nil_append, nc0, nc1, nc2, nc3, nc4, nc5, nc6, nc7, nc8, nc9, nc10, nc11, nc12, nc13, nc14, nc15, nc16, nc17, nc18, nc19, nc20, Nat.reduceAdd, Nat.reduceSub, ne_eq, decide_true, decide_false, not_true_eq_false, not_false_eq_true, reduceCtorEq, Bool.and_true, Bool.true_and, Bool.and_false, Bool.false_and, Bool.or_true, Bool.true_or, Bool.or_false, Bool.false_or, Bool.not_true, Bool.not_false, xIf, *])
/-! _law_mid, _law_call -/
theorem lmid_go1 {r : D} {i j : Int} {a : D} (hj : lenD [r] = some (.int j)) (b1 b2 : Bool) (d1 : decide (i = 0) = b1) (d2 : decide (i = j - 1) = b2) (hb : (b1 || b2) = true) (ix : ixD r (.int i) = some a) : F__law_mid [r, .int i] = some a := by
  unfold F__law_mid callP g__law_mid env0
  cases b1
  · cases b2
    · cases hb
    · clear hb; walk_at "evh"
  · clear hb; walk_at "evh"
theorem lmid_go2 {r : D} {i j : Int} {t : D} {s : List D} {m : D} (hj : lenD [r] = some (.int j)) (d1 : decide (i = 0) = false) (d2 : decide (i = j - 1) = false) (sl : sliceU r (some (i - 1)) (some (i + 2)) = some t) (hs : sortedD [t] = some s) (hm : atI s 1 = some m) : F__law_mid [r, .int i] = some m := by
  unfold F__law_mid callP g__law_mid env0
  walk_at "evh"
theorem lmid_eq {ns : List Int} {i : Int} (h0 : 0 ≤ i) (h1 : i < ns.length) : F__law_mid [.tuple (ns.map .int), .int i] = some (.int (midN ns i)) := by
  have hr := Sq.t (ns.map PyData.int)
  have hj := hr.leni
  unfold midN
  by_cases h : i = 0 ∨ i = (ns.length : Int) - 1
  · rw [if_pos h]
    refine lmid_go1 hj _ _ rfl rfl ?_ (hr.ix h0 h1)
    rcases h with h | h
    · rw [decide_eq_true h]; rfl
    · rw [decide_eq_true h, Bool.or_true]
  · rw [if_neg h]
    obtain ⟨x, z, e⟩ := srt3 (nat ns (i - 1)) (nat ns i) (nat ns (i + 1))
    refine lmid_go2 (s := (srtI [nat ns (i - 1), nat ns i, nat ns (i + 1)]).map .int) hj (decide_eq_false fun z => h (.inl z)) (decide_eq_false fun z => h (.inr z)) sliceU_t ?_ ?_
    · rw [cut_map, cut3 ns i (by omega) (by omega)]; rfl
    · rw [e]; rfl
theorem lcall_go {r m : D} {i : Int} {a b c d : D} (hm : F__law_mid [r, .int i] = some m) (s1 : sliceU r none (some i) = some a) (s2 : sliceU r (some (i + 1)) none = some b) (a1 : addU a (.tuple [m]) = some c) (a2 : addU c b = some d) (sz : 1 ≤ sizeLine) : F__law_call [r, .int i] = some d := by
  unfold F__law_call callP g__law_call env0
  walk_at "evh"
theorem lcall_eq {ns : List Int} {i : Int} (h0 : 0 ≤ i) (h1 : i < ns.length) (hl : ns.length ≤ 1000) : F__law_call [.tuple (ns.map .int), .int i] = some (.tuple ((callN ns i).map .int)) := by
  obtain ⟨k, rfl⟩ : ∃ k : Nat, i = (k : Int) := ⟨i.toNat, by omega⟩
  refine lcall_go (lmid_eq h0 h1) sliceU_t sliceU_t (addT ?_) ?_ (by decide)
  · rw [cut_to, List.length_take, List.length_map]; simp; omega
  · rw [show (k : Int) + 1 = ((k + 1 : Nat) : Int) by omega, cut_from, cut_to, addT]
    · congr 2
      unfold callN
      rw [Int.toNat_natCast, ← set_cut ns k _ (by omega)]
      simp
    · rw [List.length_append, List.length_take, List.length_drop, List.length_map]; simp; omega
end W

namespace W
open PySem L2 DL
local macro_rules | `(tactic| walk_at "ev") => `(tactic| simp only [eC, eV, oE, oV, eL, eT, aNil, aCons, eOp2, eOp1, eApp, tstE, eB, tNotG, tAndG, tOrG, eAndG, eOrG, eNotG, eIf, eSeq, eCall, eCallO, eCallB, eCallBF, eCallBX, sSeq, sNext, sRet, sRetF, sRetO, sRetN, sDrop, sIf, sSet, sSetO, sBreak, sCont, sBad, sPar, sPar3, fz, sFz, eCallW, idL, sApp, sPutIx, sAug, sFor, gN, gT, gsCons, gsNil, gYes, eLc, gSeq, nS, nF, Nw.sl, R.ok_bind, R.ok_map, R.lift_some, to_ok, toX_ok, toX_ex, bind_nx, bind_rt, bind_rf, bind_ex, bind_bk, bind_ct, at_ok, at_ex, res_val, map_ex, rbind_ex, Op.res, resA, valA, isOw, box0, Option.map_some, Option.bind_some, sHeardT, nlCons, nlNil, Nw.dat, mSet, eChain, eRg1, eRg2, eSl, pNo, pSo,
  List.getElem?_cons_zero, List.getElem?_cons_succ, List.set_cons_zero, List.set_cons_succ, List.length_cons, List.length_nil, if_true, if_false, Bool.false_eq_true, ite_true, ite_false, reduceIte,
  addU_int, subD_int, ltD_int, leD_int, gtD_int, geD_int, negD_int, absD_int, intD_bool, intD_int, lenD_list, lenD_tuple, lenD_scr, pow10_7, pow10_18, pow10_40, eqW_ints, neW_ints, eqW_strs, neW_strs, eqW_none, eqW_in, eqW_ni, ixD_list, ixD_tuple, ixD_scr, atI_3_0, atI_3_1, atI_3_2, ixN_3_0, ixN_3_1, ixN_3_2, wipeR, zip2D, skOf, isiD_n, isiD_b, isiD_i, isiD_s, isiD_l, isiD_t, isiTD_n, isiTD_b, isiTD_i, isiTD_s, isiTD_l, isiTD_t, isiAny, eCallX, eCallWX, xE, xIf, xL, xCb1, sSetX, sRetX, sDropX, sRaise, sTo, eMk, isX_n, sKeep, kt_ll, kt_lt, kt_ls, kt_li, kt_lb, kt_tl, kt_tt, kt_ts, kt_ti, kt_tb, kt_sl, kt_st, kt_ss, kt_si, kt_sb, kt_il, kt_it, kt_is, kt_ii, kt_ib, kt_bl, kt_bt, kt_bs, kt_bi, kt_bb, kt_nl, kt_nt, kt_ns, kt_ni, kt_nb, eqW_bools, neW_bools, isD_none, isNotD_none, isNoneD, isNone_e, List.map_cons, List.map_nil, List.replicate, List.append_nil, List.cons_append, List.nil_append, nc0, nc1, nc2, nc3, nc4, nc5, nc6, nc7, nc8, nc9, nc10, nc11, nc12, nc13, nc14, nc15, nc16, nc17, nc18, nc19, nc20, Nat.reduceAdd, Nat.reduceSub, ne_eq, decide_true, decide_false, not_true_eq_false, not_false_eq_true, reduceCtorEq, Bool.and_true, Bool.true_and, Bool.and_false, Bool.false_and, Bool.or_true, Bool.true_or, Bool.or_false, Bool.false_or, Bool.not_true, Bool.not_false])
local macro_rules | `(tactic| walk_at "evh") => `(tactic| simp only [eC, eV, oE, oV, eL, eT, aNil, aCons, eOp2, eOp1, eApp, tstE, eB, tNotG, tAndG, tOrG, eAndG, eOrG, eNotG, eIf, eSeq, eCall, eCallO, eCallB, eCallBF, eCallBX, sSeq, sNext, sRet, sRetF, sRetO, sRetN, sDrop, sIf, sSet, sSetO, sBreak, sCont, sBad, sPar, sPar3, fz, sFz, eCallW, idL, sApp, sPutIx, sAug, sFor, gN, gT, gsCons, gsNil, gYes, eLc, gSeq, nS, nF, Nw.sl, R.ok_bind, R.ok_map, R.lift_some, to_ok, toX_ok, toX_ex, bind_nx, bind_rt, bind_rf, bind_ex, bind_bk, bind_ct, at_ok, at_ex, res_val, map_ex, rbind_ex, Op.res, resA, valA, isOw, box0, Option.map_some, Option.bind_some, sHeardT, nlCons, nlNil, Nw.dat, mSet, eChain, eRg1, eRg2, eSl, pNo, pSo,
  List.getElem?_cons_zero, List.getElem?_cons_succ, List.set_cons_zero, List.set_cons_succ, List.length_cons, List.length_nil, if_true, if_false, Bool.false_eq_true, ite_true, ite_false, reduceIte,
  addU_int, subD_int, ltD_int, leD_int, gtD_int, geD_int, negD_int, absD_int, intD_bool, intD_int, lenD_list, lenD_tuple, lenD_scr, pow10_7, pow10_18, pow10_40, eqW_ints, neW_ints, eqW_strs, neW_strs, eqW_none, eqW_in, eqW_ni, ixD_list, ixD_tuple, ixD_scr, atI_3_0, atI_3_1, atI_3_2, ixN_3_0, ixN_3_1, ixN_3_2, wipeR, zip2D, skOf, isiD_n, isiD_b, isiD_i, isiD_s, isiD_l, isiD_t, isiTD_n, isiTD_b, isiTD_i, isiTD_s, isiTD_l, isiTD_t, isiAny, eCallX, eCallWX, xE, xIf, xL, xCb1, sSetX, sRetX, sDropX, sRaise, sTo, eMk, isX_n, sKeep, kt_ll, kt_lt, kt_ls, kt_li, kt_lb, kt_tl, kt_tt, kt_ts, kt_ti, kt_tb, kt_sl, kt_st, kt_ss, kt_si, kt_sb, kt_il, kt_it, kt_is, kt_ii, kt_ib, kt_bl, kt_bt, kt_bs, kt_bi, kt_bb, kt_nl, kt_nt, kt_ns, kt_ni, kt_nb, eqW_bools, neW_bools, isD_none, isNotD_none, isNoneD, isNone_e, List.map_cons, List.map_nil, List.replicate, List.append_nil, List.cons_append, List.nil_append, nc0, nc1, nc2, nc3, nc4, nc5, nc6, nc7, nc8, nc9, nc10, nc11, nc12, nc13, nc14, nc15, nc16, nc17, nc18, nc19, nc20, Nat.reduceAdd, Nat.reduceSub, ne_eq, decide_true, decide_false, not_true_eq_false, not_false_eq_true, reduceCtorEq, Bool.and_true, Bool.true_and, Bool.and_false, Bool.false_and, Bool.or_true, Bool.true_or, Bool.or_false, Bool.false_or, Bool.not_true, Bool.not_false, *])
/-! _law_stroll -/
theorem stroll_el {box box' : List D} {L : D} {s2 s3 s4 s5 : Sl} {j x : Int} (hj : lenD [L] = some (.int j)) (e : F__law_take 8 box [.int j] = some (.int x, box')) : ce__law_stroll_1 [.ow box, .sh L, s2, s3, s4, s5] = .ok (.int x) [.ow box', .sh L, s2, s3, s4, s5] := by
  unfold ce__law_stroll_1
  walk_at "evh"
theorem stroll_lc {n : Int} {box : List D} {ns : List Int} {s2 s3 s4 : Sl} (m : Nat) (hm : m ≤ 1000) (hn : n < 2 ^ 36) (hb : GoodBox n box) (h0 : 0 < ns.length) (hl : ns.length ≤ 1000) :
    ∃ (tape : List Int) (box' : List D), lcL [5] (gN 5) gYes ce__law_stroll_1 (rangeD 0 m) [.ow box, .sh (.tuple (ns.map .int)), s2, s3, s4, .no] = .ok (tape.map .int) [.ow box', .sh (.tuple (ns.map .int)), s2, s3, s4, .no] ∧ tape.length = m ∧ (∀ i ∈ tape, 0 ≤ i ∧ i < ns.length) ∧ GoodBox (n + 8 * m) box' := by
  obtain ⟨ys, ρ', e, ⟨box', rfl, g⟩, hp⟩ := lc_inv (vs := [5]) (k := gN 5) (t := gYes) (e := ce__law_stroll_1) (ds := rangeD 0 m) (fun i ρ => ∃ box, ρ = [.ow box, .sh (.tuple (ns.map .int)), s2, s3, s4, .no] ∧ GoodBox (n + 8 * i) box) (fun _ y => ∃ x : Int, y = .int x ∧ 0 ≤ x ∧ x < ns.length)
    (fun i d ρ hd h => by
      obtain ⟨rfl, hi⟩ := rangeD_at hd
      obtain ⟨box, rfl, g⟩ := h
      obtain ⟨x, box', e, x0, x1, g'⟩ := take8 (span := (ns.length : Int)) g (by omega) (by omega) (by omega)
      exact ⟨_, rfl, _, rfl, .int x, _, stroll_el (Sq.t (ns.map PyData.int)).leni e, ⟨x, rfl, x0, x1⟩, box', rfl, g'.mono (by omega)⟩)
    (ρ := [.ow box, .sh (.tuple (ns.map .int)), s2, s3, s4, .no]) ⟨box, rfl, hb.mono (by omega)⟩
  rw [rangeD_len] at g
  have key : ∀ {ds ys : List D}, Paired (fun _ y => ∃ x : Int, y = .int x ∧ 0 ≤ x ∧ x < ns.length) ds ys → ∃ tape : List Int, ys = tape.map .int ∧ tape.length = ds.length ∧ ∀ i ∈ tape, 0 ≤ i ∧ i < ns.length := by
    intro ds ys h
    induction h with
    | nil => exact ⟨[], rfl, rfl, fun i hi => nomatch hi⟩
    | cons h _ ih =>
      obtain ⟨x, rfl, x0, x1⟩ := h
      obtain ⟨tp, rfl, hl, hh⟩ := ih
      exact ⟨x :: tp, rfl, by rw [List.length_cons, List.length_cons, hl], fun i hi => by
        rcases List.mem_cons.mp hi with rfl | hi
        · exact ⟨x0, x1⟩
        · exact hh i hi⟩
  obtain ⟨tape, rfl, hlen, hin⟩ := key hp
  rw [rangeD_len] at hlen
  exact ⟨tape, box', e, hlen, hin, g⟩
theorem stroll_step {b0 s2 s3 : Sl} {ns : List Int} {i : Int} (h0 : 0 ≤ i) (h1 : i < ns.length) (hl : ns.length ≤ 1000) : gb__law_stroll_2 [b0, .sh (.tuple (ns.map .int)), s2, s3, .sh (.int i), .no] = .nx [b0, .sh (.tuple ((callN ns i).map .int)), s2, s3, .sh (.int i), .no] := by
  have c := lcall_eq h0 h1 hl
  generalize PyData.tuple (ns.map .int) = L at *
  generalize PyData.tuple ((callN ns i).map .int) = L' at *
  clear h0 h1 hl
  unfold gb__law_stroll_2
  walk_at "evh"
theorem stroll_for {b0 s2 s3 : Sl} : ∀ (tape : List Int) {ns : List Int} {s4 : Sl}, (∀ i ∈ tape, 0 ≤ i ∧ i < ns.length) → ns.length ≤ 1000 → ∃ s4', forL (gN 4) gb__law_stroll_2 (tape.map .int) [b0, .sh (.tuple (ns.map .int)), s2, s3, s4, .no] = .nx [b0, .sh (.tuple ((runN ns tape).map .int)), s2, s3, s4', .no]
  | [], ns, s4, _, _ => ⟨s4, rfl⟩
  | i :: tape, ns, s4, h, hl => by
    obtain ⟨h0, h1⟩ := h i List.mem_cons_self
    obtain ⟨s4', e⟩ := stroll_for tape (ns := callN ns i) (s4 := .sh (.int i)) (fun j hj => by rw [callN_len]; exact h j (List.mem_cons_of_mem _ hj)) (by rw [callN_len]; exact hl)
    exact ⟨s4', for_cons rfl (stroll_step h0 h1 hl) e⟩
theorem stroll_s1 {box box1 : List D} {L : D} {most t : Int} {k : Int} {b : Bool} {Rg : List D} (e1 : F__law_take 8 box [.int (most + 1)] = some (.int t, box1)) (ne : neW L (.tuple []) = some (.bool b)) (mu : mulV (.int t) (.int (if b then 1 else 0)) = some (.int k)) (rg : rng1 [.int k] = some Rg) (ib : intD [.bool b] = some (.int (if b then 1 else 0))) (sz : 0 ≤ sizeLine) :
    (eCall rng1 (aCons (oE (eOp2 mulV (oE (eCallB (F__law_take 8) 0 (aCons (oE (eOp2 addU (oE (eV 2)) (oE (eC (.int 1))))) aNil))) (oE (eApp intD (aCons (oE (eOp2 neW (oE (eV 1)) (oE (eT (eSeq aNil))))) aNil))))) aNil)) [.ow box, .sh L, .sh (.int most), .no, .no, .no] = .ok Rg [.ow box1, .sh L, .sh (.int most), .no, .no, .no] := by
  generalize (if b then (1 : Int) else 0) = c at *
  walk_at "evh"
theorem stroll_go {box box1 box2 : List D} {L L' : D} {most : Int} {Rg tp : List D} {s4 : Sl} (s1 : (eCall rng1 (aCons (oE (eOp2 mulV (oE (eCallB (F__law_take 8) 0 (aCons (oE (eOp2 addU (oE (eV 2)) (oE (eC (.int 1))))) aNil))) (oE (eApp intD (aCons (oE (eOp2 neW (oE (eV 1)) (oE (eT (eSeq aNil))))) aNil))))) aNil)) [.ow box, .sh L, .sh (.int most), .no, .no, .no] = .ok Rg [.ow box1, .sh L, .sh (.int most), .no, .no, .no]) (hz : Rg.length ≤ sizeLine)
    (lc : lcL [5] (gN 5) gYes ce__law_stroll_1 Rg [.ow box1, .sh L, .sh (.int most), .no, .no, .no] = .ok tp [.ow box2, .sh L, .sh (.int most), .no, .no, .no])
    (f : forL (gN 4) gb__law_stroll_2 tp [.ow box2, .sh L, .sh (.int most), .sh (.list tp), .no, .no] = .nx [.ow box2, .sh L', .sh (.int most), .sh (.list tp), s4, .no]) : F__law_stroll box [L, .int most] = some (.tuple [.list tp, L'], box2) := by
  have st : g__law_stroll [.ow box, .sh L, .sh (.int most), .no, .no, .no] = .rt (.tuple [.list tp, L']) [.ow box2, .sh L', .sh (.int most), .sh (.list tp), s4, .no] := by
    unfold g__law_stroll
    refine seq_nx (ρ1 := [.ow box2, .sh L, .sh (.int most), .sh (.list tp), .no, .no]) (sSet_ok (eL_ok (eLc_ok s1 hz lc))) (seq_nx (sFor_nx (ds := tp) (ρ1 := [.ow box2, .sh L, .sh (.int most), .sh (.list tp), .no, .no]) ?_ f) ?_)
    · have it : itemsD (.list tp) = some tp := rfl
      clear s1 lc f hz
      walk_at "evh"
    · have sz : (2 : Nat) ≤ sizeLine := by decide
      clear s1 lc f hz
      walk_at "evh"
  unfold F__law_stroll callB envB
  show (match g__law_stroll [.ow box, .sh L, .sh (.int most), .no, .no, .no] with
    | .rt d ρ => (box0 ρ).map (d, ·)
    | .nx ρ => (box0 ρ).map (.none, ·)
    | .rf ds ρ => (box0 ρ).map (.list ds, ·)
    | _ => none) = _
  rw [st]; rfl
theorem stroll_eq {n : Int} {box : List D} {ns : List Int} {most : Nat} (hb : GoodBox n box) (hn : n < 2 ^ 35) (hl : ns.length ≤ 900) (hm : most ≤ 900) :
    ∃ (tape : List Int) (box' : List D), F__law_stroll box [.tuple (ns.map .int), .int (most : Int)] = some (.tuple [.list (tape.map .int), .tuple ((runN ns tape).map .int)], box') ∧ tape.length ≤ most ∧ (∀ i ∈ tape, 0 ≤ i ∧ i < ns.length) ∧ GoodBox (n + 8 + 8 * most) box' := by
  obtain ⟨t, box1, e1, t0, t1, g1⟩ := take8 (span := (most : Int) + 1) hb (by omega) (by omega) (by omega)
  by_cases h0 : ns = []
  · subst h0
    have ne : neW (.tuple ([].map PyData.int)) (.tuple []) = some (.bool false) := by rw [show ([] : List D) = ([] : List Int).map PyData.int from rfl, neW_ti]; rfl
    have r0 : rng1 [.int 0] = some [] := rng1_eq (by omega) (by omega)
    refine ⟨[], box1, stroll_go (stroll_s1 e1 ne (k := 0) ?_ r0 rfl (by decide)) (by decide) rfl rfl, by simp, fun i hi => (nomatch hi), g1.mono (by omega)⟩
    show mulV (.int t) (.int 0) = _
    rw [cmul_r (by omega), Int.mul_zero]
  · have hp : 0 < ns.length := List.length_pos_iff.mpr h0
    have ne : neW (.tuple (ns.map PyData.int)) (.tuple []) = some (.bool true) := by
      rw [show ([] : List D) = ([] : List Int).map PyData.int from rfl, neW_ti, decide_eq_false h0]; rfl
    obtain ⟨k, rfl⟩ : ∃ k : Nat, t = (k : Int) := ⟨t.toNat, by omega⟩
    obtain ⟨tape, box2, lc, hlen, hin, g2⟩ := stroll_lc (s2 := .sh (.int (most : Int))) (s3 := .no) (s4 := .no) k (by omega) (by omega) g1 hp (by omega)
    obtain ⟨s4, f⟩ := stroll_for (b0 := .ow box2) (s2 := .sh (.int (most : Int))) (s3 := .sh (.list (tape.map .int))) tape (s4 := .no) hin (by omega)
    refine ⟨tape, box2, stroll_go (stroll_s1 e1 ne (k := (k : Int)) ?_ (rng1_eq (by omega) (by omega)) rfl (by decide)) ?_ ?_ f, by omega, hin, g2.mono (by omega)⟩
    · show mulV (.int (k : Int)) (.int 1) = _
      rw [cmul_r (by omega), Int.mul_one]
    · rw [rangeD_len, Int.toNat_natCast]; exact size_of (by omega)
    · rw [Int.toNat_natCast]; exact lc
end W

namespace W
open PySem L2 DL
local macro_rules | `(tactic| walk_at "ev") => `(tactic| simp only [eC, eV, oE, oV, eL, eT, aNil, aCons, eOp2, eOp1, eApp, tstE, eB, tNotG, tAndG, tOrG, eAndG, eOrG, eNotG, eIf, eSeq, eCall, eCallO, eCallB, eCallBF, eCallBX, sSeq, sNext, sRet, sRetF, sRetO, sRetN, sDrop, sIf, sSet, sSetO, sBreak, sCont, sBad, sPar, sPar3, fz, sFz, eCallW, idL, sApp, sPutIx, sAug, sFor, gN, gT, gsCons, gsNil, gYes, eLc, gSeq, nS, nF, Nw.sl, R.ok_bind, R.ok_map, R.lift_some, to_ok, toX_ok, toX_ex, bind_nx, bind_rt, bind_rf, bind_ex, bind_bk, bind_ct, at_ok, at_ex, res_val, map_ex, rbind_ex, Op.res, resA, valA, isOw, box0, Option.map_some, Option.bind_some, sHeardT, nlCons, nlNil, Nw.dat, mSet, eChain, eRg1, eRg2, eSl, pNo, pSo,
  List.getElem?_cons_zero, List.getElem?_cons_succ, List.set_cons_zero, List.set_cons_succ, List.length_cons, List.length_nil, if_true, if_false, Bool.false_eq_true, ite_true, ite_false, reduceIte,
  addU_int, subD_int, ltD_int, leD_int, gtD_int, geD_int, negD_int, absD_int, intD_bool, intD_int, lenD_list, lenD_tuple, lenD_scr, pow10_7, pow10_18, pow10_40, eqW_ints, neW_ints, eqW_strs, neW_strs, eqW_none, eqW_in, eqW_ni, ixD_list, ixD_tuple, ixD_scr, atI_3_0, atI_3_1, atI_3_2, ixN_3_0, ixN_3_1, ixN_3_2, wipeR, zip2D, skOf, isiD_n, isiD_b, isiD_i, isiD_s, isiD_l, isiD_t, isiTD_n, isiTD_b, isiTD_i, isiTD_s, isiTD_l, isiTD_t, isiAny, eCallX, eCallWX, xE, xIf, xL, xCb1, sSetX, sRetX, sDropX, sRaise, sTo, eMk, isX_n, sKeep, kt_ll, kt_lt, kt_ls, kt_li, kt_lb, kt_tl, kt_tt, kt_ts, kt_ti, kt_tb, kt_sl, kt_st, kt_ss, kt_si, kt_sb, kt_il, kt_it, kt_is, kt_ii, kt_ib, kt_bl, kt_bt, kt_bs, kt_bi, kt_bb, kt_nl, kt_nt, kt_ns, kt_ni, kt_nb, eqW_bools, neW_bools, isD_none, isNotD_none, isNoneD, isNone_e, List.map_cons, List.map_nil, List.replicate, List.append_nil, List.cons_append, List.nil_append, nc0, nc1, nc2, nc3, nc4, nc5, nc6, nc7, nc8, nc9, nc10, nc11, nc12, nc13, nc14, nc15, nc16, nc17, nc18, nc19, nc20, Nat.reduceAdd, Nat.reduceSub, ne_eq, decide_true, decide_false, not_true_eq_false, not_false_eq_true, reduceCtorEq, Bool.and_true, Bool.true_and, Bool.and_false, Bool.false_and, Bool.or_true, Bool.true_or, Bool.or_false, Bool.false_or, Bool.not_true, Bool.not_false])
local macro_rules | `(tactic| walk_at "evh") => `(tactic| simp only [eC, eV, oE, oV, eL, eT, aNil, aCons, eOp2, eOp1, eApp, tstE, eB, tNotG, tAndG, tOrG, eAndG, eOrG, eNotG, eIf, eSeq, eCall, eCallO, eCallB, eCallBF, eCallBX, sSeq, sNext, sRet, sRetF, sRetO, sRetN, sDrop, sIf, sSet, sSetO, sBreak, sCont, sBad, sPar, sPar3, fz, sFz, eCallW, idL, sApp, sPutIx, sAug, sFor, gN, gT, gsCons, gsNil, gYes, eLc, gSeq, nS, nF, Nw.sl, R.ok_bind, R.ok_map, R.lift_some, to_ok, toX_ok, toX_ex, bind_nx, bind_rt, bind_rf, bind_ex, bind_bk, bind_ct, at_ok, at_ex, res_val, map_ex, rbind_ex, Op.res, resA, valA, isOw, box0, Option.map_some, Option.bind_some, sHeardT, nlCons, nlNil, Nw.dat, mSet, eChain, eRg1, eRg2, eSl, pNo, pSo,
  List.getElem?_cons_zero, List.getElem?_cons_succ, List.set_cons_zero, List.set_cons_succ, List.length_cons, List.length_nil, if_true, if_false, Bool.false_eq_true, ite_true, ite_false, reduceIte,
  addU_int, subD_int, ltD_int, leD_int, gtD_int, geD_int, negD_int, absD_int, intD_bool, intD_int, lenD_list, lenD_tuple, lenD_scr, pow10_7, pow10_18, pow10_40, eqW_ints, neW_ints, eqW_strs, neW_strs, eqW_none, eqW_in, eqW_ni, ixD_list, ixD_tuple, ixD_scr, atI_3_0, atI_3_1, atI_3_2, ixN_3_0, ixN_3_1, ixN_3_2, wipeR, zip2D, skOf, isiD_n, isiD_b, isiD_i, isiD_s, isiD_l, isiD_t, isiTD_n, isiTD_b, isiTD_i, isiTD_s, isiTD_l, isiTD_t, isiAny, eCallX, eCallWX, xE, xIf, xL, xCb1, sSetX, sRetX, sDropX, sRaise, sTo, eMk, isX_n, sKeep, kt_ll, kt_lt, kt_ls, kt_li, kt_lb, kt_tl, kt_tt, kt_ts, kt_ti, kt_tb, kt_sl, kt_st, kt_ss, kt_si, kt_sb, kt_il, kt_it, kt_is, kt_ii, kt_ib, kt_bl, kt_bt, kt_bs, kt_bi, kt_bb, kt_nl, kt_nt, kt_ns, kt_ni, kt_nb, eqW_bools, neW_bools, isD_none, isNotD_none, isNoneD, isNone_e, List.map_cons, List.map_nil, List.replicate, List.append_nil, List.cons_append, List.nil_append, nc0, nc1, nc2, nc3, nc4, nc5, nc6, nc7, nc8, nc9, nc10, nc11, nc12, nc13, nc14, nc15, nc16, nc17, nc18, nc19, nc20, Nat.reduceAdd, Nat.reduceSub, ne_eq, decide_true, decide_false, not_true_eq_false, not_false_eq_true, reduceCtorEq, Bool.and_true, Bool.true_and, Bool.and_false, Bool.false_and, Bool.or_true, Bool.true_or, Bool.or_false, Bool.false_or, Bool.not_true, Bool.not_false, *])
/-! who changed otherwise than a top that fell or a dip that rose -/
def chB (ns ms : List Int) (p : Int) : Bool := !(decide (nat ns p = nat ms p) || ((decide (p ∈ topsL ns) && decide (nat ms p < nat ns p)) || (decide (p ∈ dipsL ns) && decide (nat ns p < nat ms p))))
def chL (ns ms : List Int) : List Int := (rngI 0 ns.length).filter (chB ns ms)
theorem sq_sk {r : D} {xs : List D} (h : Sq r xs) : ∃ k, skOf r = some (k, xs) := by rcases h with rfl | rfl <;> exact ⟨_, rfl⟩
theorem zip_sq {r q : D} {xs ys : List D} (hr : Sq r xs) (hq : Sq q ys) : zip2D [r, q] = some (zipD xs ys) := by
  obtain ⟨k1, e1⟩ := sq_sk hr
  obtain ⟨k2, e2⟩ := sq_sk hq
  unfold zip2D
  dsimp only
  rw [e1, e2]
theorem ez_at {ns ms : List Int} (h : ms.length = ns.length) {i : Nat} (hi : i < ns.length) : (enumFrom 0 (zipD (ns.map PyData.int) (ms.map .int)))[i]? = some (.tuple [.int (i : Int), .tuple [.int (nat ns i), .int (nat ms i)]]) := by
  have e : (zipD (ns.map PyData.int) (ms.map .int))[i]? = some (.tuple [.int (nat ns i), .int (nat ms i)]) := by
    unfold zipD
    rw [List.getElem?_zipWith, List.getElem?_map, List.getElem?_map, List.getElem?_eq_getElem hi, List.getElem?_eq_getElem (by omega)]
    unfold nat
    rw [Int.toNat_natCast, List.getElem?_eq_getElem hi, List.getElem?_eq_getElem (by omega)]
    rfl
  rw [enumFrom_get _ 0 i _ e, Nat.zero_add]
theorem ez_len {ns ms : List Int} (h : ms.length = ns.length) : (enumFrom 0 (zipD (ns.map PyData.int) (ms.map .int))).length = ns.length := by
  rw [enumFrom_len]
  unfold zipD
  rw [List.length_zipWith, List.length_map, List.length_map]
  omega
theorem rngI_filter (f : Int → Bool) (i : Nat) : (rngI 0 (i + 1)).filter f = (rngI 0 i).filter f ++ (if f (i : Int) then [(i : Int)] else []) := by
  rw [rngI_succ, List.filter_append, Int.zero_add]
  congr 1
  cases h : f (i : Int) <;> simp [List.filter, h]
theorem wch_step {s0 s1 : Sl} {tp dp acc : List Int} {p mine its : Int} (hz : acc.length < 100000) (b : Bool) (hb : (!(decide (mine = its) || ((decide (p ∈ tp) && decide (its < mine)) || (decide (p ∈ dp) && decide (mine < its))))) = b) :
    gb_wrong_changes_1 [s0, s1, .sh (.list (tp.map .int)), .sh (.list (dp.map .int)), .ow (acc.map .int), .sh (.int p), .sh (.int mine), .sh (.int its)] = .nx [s0, s1, .sh (.list (tp.map .int)), .sh (.list (dp.map .int)), .ow ((acc ++ (if b then [p] else [])).map .int), .sh (.int p), .sh (.int mine), .sh (.int its)] := by
  have i1 := inD_l p tp
  have i2 := inD_l p dp
  have hz' : (acc.map PyData.int).length < sizeLine := by rw [List.length_map]; exact size_lt hz
  have am : ∀ x : Int, (acc ++ [x]).map PyData.int = acc.map .int ++ [.int x] := fun x => List.map_append
  generalize hA : acc.map PyData.int = A at *
  generalize tp.map PyData.int = T at *
  generalize dp.map PyData.int = U at *
  generalize h1 : decide (mine = its) = b1 at *
  generalize h2 : decide (p ∈ tp) = b2 at *
  generalize h3 : decide (its < mine) = b3 at *
  generalize h4 : decide (p ∈ dp) = b4 at *
  generalize h5 : decide (mine < its) = b5 at *
  unfold gb_wrong_changes_1
  subst hb
  have am := am p
  clear hz
  cases b1 <;> cases b2 <;> cases b3 <;> cases b4 <;> cases b5 <;> first | (simp only [Bool.not_true, Bool.not_false, Bool.or_true, Bool.true_or, Bool.or_false, Bool.false_or, Bool.and_true, Bool.true_and, Bool.and_false, Bool.false_and, Bool.false_eq_true, if_false, if_true, List.append_nil, hA, am]; walk_at "evh")
theorem wch_for {s0 s1 : Sl} {ns ms : List Int} (h : ms.length = ns.length) (hl : ns.length ≤ 1000) : ∃ s5 s6 s7, forL (gT 2 (gsCons (gN 5) (gsCons (gT 2 (gsCons (gN 6) (gsCons (gN 7) gsNil))) gsNil))) gb_wrong_changes_1 (enumFrom 0 (zipD (ns.map PyData.int) (ms.map .int))) [s0, s1, .sh (.list ((topsL ns).map .int)), .sh (.list ((dipsL ns).map .int)), .ow [], .no, .no, .no] = .nx [s0, s1, .sh (.list ((topsL ns).map .int)), .sh (.list ((dipsL ns).map .int)), .ow ((chL ns ms).map .int), s5, s6, s7] := by
  obtain ⟨ρ', e, s5, s6, s7, rfl⟩ := for_inv (k := gT 2 (gsCons (gN 5) (gsCons (gT 2 (gsCons (gN 6) (gsCons (gN 7) gsNil))) gsNil))) (b := gb_wrong_changes_1) (ds := enumFrom 0 (zipD (ns.map PyData.int) (ms.map .int)))
    (fun i ρ => ∃ s5 s6 s7, ρ = [s0, s1, .sh (.list ((topsL ns).map .int)), .sh (.list ((dipsL ns).map .int)), .ow (((rngI 0 i).filter (chB ns ms)).map .int), s5, s6, s7])
    (fun i d ρ hd hh => by
      obtain ⟨s5, s6, s7, rfl⟩ := hh
      have hi : i < ns.length := by
        have := (List.getElem?_eq_some_iff.mp hd).1
        rw [ez_len h] at this
        exact this
      rw [ez_at h hi] at hd
      cases hd
      have lz : ((rngI 0 i).filter (chB ns ms)).length < 100000 := Nat.lt_of_le_of_lt (List.length_filter_le _ _) (by rw [rngI_len]; omega)
      refine ⟨_, rfl, _, .inl (wch_step lz (chB ns ms (i : Int)) rfl), .sh (.int (i : Int)), .sh (.int (nat ns i)), .sh (.int (nat ms i)), ?_⟩
      rw [rngI_filter])
    (ρ := [s0, s1, .sh (.list ((topsL ns).map .int)), .sh (.list ((dipsL ns).map .int)), .ow [], .no, .no, .no]) ⟨.no, .no, .no, rfl⟩
  rw [ez_len h] at e
  exact ⟨s5, s6, s7, e⟩
theorem wch_go {r q : D} {T U E C : List D} {s5 s6 s7 : Sl} (e1 : F_tops [r] = some T) (e2 : F_dips [r] = some U) (ez : enumZipD [r, q] = some E) (z0 : 0 ≤ sizeLine) (f : forL (gT 2 (gsCons (gN 5) (gsCons (gT 2 (gsCons (gN 6) (gsCons (gN 7) gsNil))) gsNil))) gb_wrong_changes_1 E [.sh r, .sh q, .sh (.list T), .sh (.list U), .ow [], .no, .no, .no] = .nx [.sh r, .sh q, .sh (.list T), .sh (.list U), .ow C, s5, s6, s7]) : F_wrong_changes [r, q] = some C := by
  unfold F_wrong_changes callF g_wrong_changes env0
  walk_at "evh"
theorem wch_eq {r q : D} {ns ms : List Int} (hr : Sq r (ns.map .int)) (hq : Sq q (ms.map .int)) (h : ms.length = ns.length) (hl : ns.length ≤ 1000) : F_wrong_changes [r, q] = some ((chL ns ms).map .int) := by
  obtain ⟨s5, s6, s7, f⟩ := wch_for (s0 := .sh r) (s1 := .sh q) h hl
  exact wch_go (tops_eq hr hl) (dips_eq hr hl) (by unfold enumZipD; dsimp only; rw [zip_sq hr hq]; rfl) (by decide) f
/-! neighbours whose order is turned about or made unequal -/
def orB (ns ms : List Int) (p : Int) : Bool := (decide (nat ns (p + 1) - nat ns p < 0) && decide (0 < nat ms (p + 1) - nat ms p)) || ((decide (0 < nat ns (p + 1) - nat ns p) && decide (nat ms (p + 1) - nat ms p < 0)) || (decide (nat ns (p + 1) - nat ns p = 0) && !decide (0 = nat ms (p + 1) - nat ms p)))
def orL (ns ms : List Int) : List Int := (rngI 0 (ns.length - 1)).filter (orB ns ms)
theorem wor_step {r q : D} {acc : List Int} {p a b c d : Int} {s4 s5 : Sl} (x1 : ixD r (.int (p + 1)) = some (.int a)) (x2 : ixD r (.int p) = some (.int b)) (x3 : ixD q (.int (p + 1)) = some (.int c)) (x4 : ixD q (.int p) = some (.int d)) (hz : acc.length < 100000) (k : Bool) (hk : ((decide (a - b < 0) && decide (0 < c - d)) || ((decide (0 < a - b) && decide (c - d < 0)) || (decide (a - b = 0) && !decide (0 = c - d)))) = k) :
    gb_wrong_orders_1 [.sh r, .sh q, .ow (acc.map .int), .sh (.int p), s4, s5] = .nx [.sh r, .sh q, .ow ((acc ++ (if k then [p] else [])).map .int), .sh (.int p), .sh (.int (a - b)), .sh (.int (c - d))] := by
  have hz' : (acc.map PyData.int).length < sizeLine := by rw [List.length_map]; exact size_lt hz
  have am : (acc ++ [p]).map PyData.int = acc.map .int ++ [.int p] := List.map_append
  generalize hA : acc.map PyData.int = A at *
  generalize h1 : decide (a - b < 0) = b1 at *
  generalize h2 : decide (0 < c - d) = b2 at *
  generalize h3 : decide (0 < a - b) = b3 at *
  generalize h4 : decide (c - d < 0) = b4 at *
  generalize h5 : decide (a - b = 0) = b5 at *
  generalize h6 : decide (0 = c - d) = b6 at *
  unfold gb_wrong_orders_1
  subst hk
  clear hz
  cases b1 <;> cases b2 <;> cases b3 <;> cases b4 <;> cases b5 <;> cases b6 <;> first | (simp only [Bool.not_true, Bool.not_false, Bool.or_true, Bool.true_or, Bool.or_false, Bool.false_or, Bool.and_true, Bool.true_and, Bool.and_false, Bool.false_and, Bool.false_eq_true, if_false, if_true, List.append_nil, hA, am]; walk_at "evh")
end W

namespace W
open PySem L2 DL
local macro_rules | `(tactic| walk_at "ev") => `(tactic| simp only [eC, eV, oE, oV, eL, eT, aNil, aCons, eOp2, eOp1, eApp, tstE, eB, tNotG, tAndG, tOrG, eAndG, eOrG, eNotG, eIf, eSeq, eCall, eCallO, eCallB, eCallBF, eCallBX, sSeq, sNext, sRet, sRetF, sRetO, sRetN, sDrop, sIf, sSet, sSetO, sBreak, sCont, sBad, sPar, sPar3, fz, sFz, eCallW, idL, sApp, sPutIx, sAug, sFor, gN, gT, gsCons, gsNil, gYes, eLc, gSeq, nS, nF, Nw.sl, R.ok_bind, R.ok_map, R.lift_some, to_ok, toX_ok, toX_ex, bind_nx, bind_rt, bind_rf, bind_ex, bind_bk, bind_ct, at_ok, at_ex, res_val, map_ex, rbind_ex, Op.res, resA, valA, isOw, box0, Option.map_some, Option.bind_some, sHeardT, nlCons, nlNil, Nw.dat, mSet, eChain, eRg1, eRg2, eSl, pNo, pSo,
  List.getElem?_cons_zero, List.getElem?_cons_succ, List.set_cons_zero, List.set_cons_succ, List.length_cons, List.length_nil, if_true, if_false, Bool.false_eq_true, ite_true, ite_false, reduceIte,
  addU_int, subD_int, ltD_int, leD_int, gtD_int, geD_int, negD_int, absD_int, intD_bool, intD_int, lenD_list, lenD_tuple, lenD_scr, pow10_7, pow10_18, pow10_40, eqW_ints, neW_ints, eqW_strs, neW_strs, eqW_none, eqW_in, eqW_ni, ixD_list, ixD_tuple, ixD_scr, atI_3_0, atI_3_1, atI_3_2, ixN_3_0, ixN_3_1, ixN_3_2, wipeR, zip2D, skOf, isiD_n, isiD_b, isiD_i, isiD_s, isiD_l, isiD_t, isiTD_n, isiTD_b, isiTD_i, isiTD_s, isiTD_l, isiTD_t, isiAny, eCallX, eCallWX, xE, xIf, xL, xCb1, sSetX, sRetX, sDropX, sRaise, sTo, eMk, isX_n, sKeep, kt_ll, kt_lt, kt_ls, kt_li, kt_lb, kt_tl, kt_tt, kt_ts, kt_ti, kt_tb, kt_sl, kt_st, kt_ss, kt_si, kt_sb, kt_il, kt_it, kt_is, kt_ii, kt_ib, kt_bl, kt_bt, kt_bs, kt_bi, kt_bb, kt_nl, kt_nt, kt_ns, kt_ni, kt_nb, eqW_bools, neW_bools, isD_none, isNotD_none, isNoneD, isNone_e, List.map_cons, List.map_nil, List.replicate, List.append_nil, List.cons_append, List.nil_append, nc0, nc1, nc2, nc3, nc4, nc5, nc6, nc7, nc8, nc9, nc10, nc11, nc12, nc13, nc14, nc15, nc16, nc17, nc18, nc19, nc20, Nat.reduceAdd, Nat.reduceSub, ne_eq, decide_true, decide_false, not_true_eq_false, not_false_eq_true, reduceCtorEq, Bool.and_true, Bool.true_and, Bool.and_false, Bool.false_and, Bool.or_true, Bool.true_or, Bool.or_false, Bool.false_or, Bool.not_true, Bool.not_false])
local macro_rules | `(tactic| walk_at "evh") => `(tactic| simp only [eC, eV, oE, oV, eL, eT, aNil, aCons, eOp2, eOp1, eApp, tstE, eB, tNotG, tAndG, tOrG, eAndG, eOrG, eNotG, eIf, eSeq, eCall, eCallO, eCallB, eCallBF, eCallBX, sSeq, sNext, sRet, sRetF, sRetO, sRetN, sDrop, sIf, sSet, sSetO, sBreak, sCont, sBad, sPar, sPar3, fz, sFz, eCallW, idL, sApp, sPutIx, sAug, sFor, gN, gT, gsCons, gsNil, gYes, eLc, gSeq, nS, nF, Nw.sl, R.ok_bind, R.ok_map, R.lift_some, to_ok, toX_ok, toX_ex, bind_nx, bind_rt, bind_rf, bind_ex, bind_bk, bind_ct, at_ok, at_ex, res_val, map_ex, rbind_ex, Op.res, resA, valA, isOw, box0, Option.map_some, Option.bind_some, sHeardT, nlCons, nlNil, Nw.dat, mSet, eChain, eRg1, eRg2, eSl, pNo, pSo,
  List.getElem?_cons_zero, List.getElem?_cons_succ, List.set_cons_zero, List.set_cons_succ, List.length_cons, List.length_nil, if_true, if_false, Bool.false_eq_true, ite_true, ite_false, reduceIte,
  addU_int, subD_int, ltD_int, leD_int, gtD_int, geD_int, negD_int, absD_int, intD_bool, intD_int, lenD_list, lenD_tuple, lenD_scr, pow10_7, pow10_18, pow10_40, eqW_ints, neW_ints, eqW_strs, neW_strs, eqW_none, eqW_in, eqW_ni, ixD_list, ixD_tuple, ixD_scr, atI_3_0, atI_3_1, atI_3_2, ixN_3_0, ixN_3_1, ixN_3_2, wipeR, zip2D, skOf, isiD_n, isiD_b, isiD_i, isiD_s, isiD_l, isiD_t, isiTD_n, isiTD_b, isiTD_i, isiTD_s, isiTD_l, isiTD_t, isiAny, eCallX, eCallWX, xE, xIf, xL, xCb1, sSetX, sRetX, sDropX, sRaise, sTo, eMk, isX_n, sKeep, kt_ll, kt_lt, kt_ls, kt_li, kt_lb, kt_tl, kt_tt, kt_ts, kt_ti, kt_tb, kt_sl, kt_st, kt_ss, kt_si, kt_sb, kt_il, kt_it, kt_is, kt_ii, kt_ib, kt_bl, kt_bt, kt_bs, kt_bi, kt_bb, kt_nl, kt_nt, kt_ns, kt_ni, kt_nb, eqW_bools, neW_bools, isD_none, isNotD_none, isNoneD, isNone_e, List.map_cons, List.map_nil, List.replicate, List.append_nil, List.cons_append, List.nil_append, nc0, nc1, nc2, nc3, nc4, nc5, nc6, nc7, nc8, nc9, nc10, nc11, nc12, nc13, nc14, nc15, nc16, nc17, nc18, nc19, nc20, Nat.reduceAdd, Nat.reduceSub, ne_eq, decide_true, decide_false, not_true_eq_false, not_false_eq_true, reduceCtorEq, Bool.and_true, Bool.true_and, Bool.and_false, Bool.false_and, Bool.or_true, Bool.true_or, Bool.or_false, Bool.false_or, Bool.not_true, Bool.not_false, *])
theorem wor_for {r q : D} {ns ms : List Int} (hr : Sq r (ns.map .int)) (hq : Sq q (ms.map .int)) (h : ms.length = ns.length) (hl : ns.length ≤ 1000) : ∃ s3 s4 s5, forL (gN 3) gb_wrong_orders_1 (rangeD 0 (ns.length - 1)) [.sh r, .sh q, .ow [], .no, .no, .no] = .nx [.sh r, .sh q, .ow ((orL ns ms).map .int), s3, s4, s5] := by
  obtain ⟨ρ', e, s3, s4, s5, rfl⟩ := for_inv (k := gN 3) (b := gb_wrong_orders_1) (ds := rangeD 0 (ns.length - 1))
    (fun i ρ => ∃ s3 s4 s5, ρ = [.sh r, .sh q, .ow (((rngI 0 i).filter (orB ns ms)).map .int), s3, s4, s5])
    (fun i d ρ hd hh => by
      obtain ⟨rfl, hi⟩ := rangeD_at hd
      obtain ⟨s3, s4, s5, rfl⟩ := hh
      have lz : ((rngI 0 i).filter (orB ns ms)).length < 100000 := Nat.lt_of_le_of_lt (List.length_filter_le _ _) (by rw [rngI_len]; omega)
      refine ⟨_, rfl, _, .inl (wor_step (hr.ix (by omega) (by omega)) (hr.ix (by omega) (by omega)) (hq.ix (by omega) (by omega)) (hq.ix (by omega) (by omega)) lz (orB ns ms (i : Int)) rfl), .sh (.int (i : Int)), .sh (.int (nat ns ((i : Int) + 1) - nat ns i)), .sh (.int (nat ms ((i : Int) + 1) - nat ms i)), ?_⟩
      rw [rngI_filter])
    (ρ := [.sh r, .sh q, .ow [], .no, .no, .no]) ⟨.no, .no, .no, rfl⟩
  rw [rangeD_len] at e
  exact ⟨s3, s4, s5, e⟩
theorem wor_go {r q : D} {j : Int} {E C : List D} {s3 s4 s5 : Sl} (hj : lenD [r] = some (.int j)) (rg : rng1 [.int (j - 1)] = some E) (z0 : 0 ≤ sizeLine) (f : forL (gN 3) gb_wrong_orders_1 E [.sh r, .sh q, .ow [], .no, .no, .no] = .nx [.sh r, .sh q, .ow C, s3, s4, s5]) : F_wrong_orders [r, q] = some C := by
  unfold F_wrong_orders callF g_wrong_orders env0
  walk_at "evh"
theorem rng1_any {m : Int} (h0 : -(2 ^ 62) ≤ m) (h1 : m < 2 ^ 62) : rng1 [.int m] = some (rangeD 0 m.toNat) := if_pos ⟨h0, h1⟩
theorem wor_eq {r q : D} {ns ms : List Int} (hr : Sq r (ns.map .int)) (hq : Sq q (ms.map .int)) (h : ms.length = ns.length) (hl : ns.length ≤ 1000) : F_wrong_orders [r, q] = some ((orL ns ms).map .int) := by
  obtain ⟨s3, s4, s5, f⟩ := wor_for hr hq h hl
  refine wor_go hr.leni (rng1_any (by omega) (by omega)) (by decide) ?_ (s3 := s3) (s4 := s4) (s5 := s5)
  rw [show ((ns.length : Int) - 1).toNat = ns.length - 1 by omega]
  exact f
end W

namespace W
open PySem L2 DL
local macro_rules | `(tactic| walk_at "ev") => `(tactic| simp only [eC, eV, oE, oV, eL, eT, aNil, aCons, eOp2, eOp1, eApp, tstE, eB, tNotG, tAndG, tOrG, eAndG, eOrG, eNotG, eIf, eSeq, eCall, eCallO, eCallB, eCallBF, eCallBX, sSeq, sNext, sRet, sRetF, sRetO, sRetN, sDrop, sIf, sSet, sSetO, sBreak, sCont, sBad, sPar, sPar3, fz, sFz, eCallW, idL, sApp, sPutIx, sAug, sFor, gN, gT, gsCons, gsNil, gYes, eLc, gSeq, nS, nF, Nw.sl, R.ok_bind, R.ok_map, R.lift_some, to_ok, toX_ok, toX_ex, bind_nx, bind_rt, bind_rf, bind_ex, bind_bk, bind_ct, at_ok, at_ex, res_val, map_ex, rbind_ex, Op.res, resA, valA, isOw, box0, Option.map_some, Option.bind_some, sHeardT, nlCons, nlNil, Nw.dat, mSet, eChain, eRg1, eRg2, eSl, pNo, pSo,
  List.getElem?_cons_zero, List.getElem?_cons_succ, List.set_cons_zero, List.set_cons_succ, List.length_cons, List.length_nil, if_true, if_false, Bool.false_eq_true, ite_true, ite_false, reduceIte,
  addU_int, subD_int, ltD_int, leD_int, gtD_int, geD_int, negD_int, absD_int, intD_bool, intD_int, lenD_list, lenD_tuple, lenD_scr, pow10_7, pow10_18, pow10_40, eqW_ints, neW_ints, eqW_strs, neW_strs, eqW_none, eqW_in, eqW_ni, ixD_list, ixD_tuple, ixD_scr, atI_3_0, atI_3_1, atI_3_2, ixN_3_0, ixN_3_1, ixN_3_2, wipeR, zip2D, skOf, isiD_n, isiD_b, isiD_i, isiD_s, isiD_l, isiD_t, isiTD_n, isiTD_b, isiTD_i, isiTD_s, isiTD_l, isiTD_t, isiAny, eCallX, eCallWX, xE, xIf, xL, xCb1, sSetX, sRetX, sDropX, sRaise, sTo, eMk, isX_n, sKeep, kt_ll, kt_lt, kt_ls, kt_li, kt_lb, kt_tl, kt_tt, kt_ts, kt_ti, kt_tb, kt_sl, kt_st, kt_ss, kt_si, kt_sb, kt_il, kt_it, kt_is, kt_ii, kt_ib, kt_bl, kt_bt, kt_bs, kt_bi, kt_bb, kt_nl, kt_nt, kt_ns, kt_ni, kt_nb, eqW_bools, neW_bools, isD_none, isNotD_none, isNoneD, isNone_e, List.map_cons, List.map_nil, List.replicate, List.append_nil, List.cons_append, List.nil_append, nc0, nc1, nc2, nc3, nc4, nc5, nc6, nc7, nc8, nc9, nc10, nc11, nc12, nc13, nc14, nc15, nc16, nc17, nc18, nc19, nc20, Nat.reduceAdd, Nat.reduceSub, ne_eq, decide_true, decide_false, not_true_eq_false, not_false_eq_true, reduceCtorEq, Bool.and_true, Bool.true_and, Bool.and_false, Bool.false_and, Bool.or_true, Bool.true_or, Bool.or_false, Bool.false_or, Bool.not_true, Bool.not_false])
local macro_rules | `(tactic| walk_at "evh") => `(tactic| simp only [eC, eV, oE, oV, eL, eT, aNil, aCons, eOp2, eOp1, eApp, tstE, eB, tNotG, tAndG, tOrG, eAndG, eOrG, eNotG, eIf, eSeq, eCall, eCallO, eCallB, eCallBF, eCallBX, sSeq, sNext, sRet, sRetF, sRetO, sRetN, sDrop, sIf, sSet, sSetO, sBreak, sCont, sBad, sPar, sPar3, fz, sFz, eCallW, idL, sApp, sPutIx, sAug, sFor, gN, gT, gsCons, gsNil, gYes, eLc, gSeq, nS, nF, Nw.sl, R.ok_bind, R.ok_map, R.lift_some, to_ok, toX_ok, toX_ex, bind_nx, bind_rt, bind_rf, bind_ex, bind_bk, bind_ct, at_ok, at_ex, res_val, map_ex, rbind_ex, Op.res, resA, valA, isOw, box0, Option.map_some, Option.bind_some, sHeardT, nlCons, nlNil, Nw.dat, mSet, eChain, eRg1, eRg2, eSl, pNo, pSo,
  List.getElem?_cons_zero, List.getElem?_cons_succ, List.set_cons_zero, List.set_cons_succ, List.length_cons, List.length_nil, if_true, if_false, Bool.false_eq_true, ite_true, ite_false, reduceIte,
  addU_int, subD_int, ltD_int, leD_int, gtD_int, geD_int, negD_int, absD_int, intD_bool, intD_int, lenD_list, lenD_tuple, lenD_scr, pow10_7, pow10_18, pow10_40, eqW_ints, neW_ints, eqW_strs, neW_strs, eqW_none, eqW_in, eqW_ni, ixD_list, ixD_tuple, ixD_scr, atI_3_0, atI_3_1, atI_3_2, ixN_3_0, ixN_3_1, ixN_3_2, wipeR, zip2D, skOf, isiD_n, isiD_b, isiD_i, isiD_s, isiD_l, isiD_t, isiTD_n, isiTD_b, isiTD_i, isiTD_s, isiTD_l, isiTD_t, isiAny, eCallX, eCallWX, xE, xIf, xL, xCb1, sSetX, sRetX, sDropX, sRaise, sTo, eMk, isX_n, sKeep, kt_ll, kt_lt, kt_ls, kt_li, kt_lb, kt_tl, kt_tt, kt_ts, kt_ti, kt_tb, kt_sl, kt_st, kt_ss, kt_si, kt_sb, kt_il, kt_it, kt_is, kt_ii, kt_ib, kt_bl, kt_bt, kt_bs, kt_bi, kt_bb, kt_nl, kt_nt, kt_ns, kt_ni, kt_nb, eqW_bools, neW_bools, isD_none, isNotD_none, isNoneD, isNone_e, List.map_cons, List.map_nil, List.replicate, List.append_nil, List.cons_append, List.nil_append, nc0, nc1, nc2, nc3, nc4, nc5, nc6, nc7, nc8, nc9, nc10, nc11, nc12, nc13, nc14, nc15, nc16, nc17, nc18, nc19, nc20, Nat.reduceAdd, Nat.reduceSub, ne_eq, decide_true, decide_false, not_true_eq_false, not_false_eq_true, reduceCtorEq, Bool.and_true, Bool.true_and, Bool.and_false, Bool.false_and, Bool.or_true, Bool.true_or, Bool.or_false, Bool.false_or, Bool.not_true, Bool.not_false, *])
/-! who stayed; runs in which everybody changed -/
def stL (ns ms : List Int) (a b : Int) : List Int := (rngI a (b + 1 - a).toNat).filter fun p => decide (nat ns p = nat ms p)
theorem sta_lc {r q : D} {ns ms : List Int} {a b : Int} (hr : Sq r (ns.map .int)) (hq : Sq q (ms.map .int)) (h : ms.length = ns.length) (h0 : 0 ≤ a) (h1 : b < ns.length) : lcL [4] (gN 4) ct_stayed_1 ce_stayed_2 ((rngI a (b + 1 - a).toNat).map .int) [.sh r, .sh q, .sh (.int a), .sh (.int b), .no] = .ok ((stL ns ms a b).map .int) [.sh r, .sh q, .sh (.int a), .sh (.int b), .no] := by
  refine lc_filter _ fun i hi => ?_
  have hm := mem_rngI hi
  have x1 := hr.ix (i := i) (by omega) (by omega)
  have x2 := hq.ix (i := i) (by omega) (by omega)
  refine ⟨[.sh r, .sh q, .sh (.int a), .sh (.int b), .sh (.int i)], rfl, rfl, ?_⟩
  clear hi hm hr hq
  constructor
  · unfold ct_stayed_1
    walk_at "evh"
  · rfl
theorem sta_go {r q : D} {a b : Int} {E C : List D} (rg : rng2 [.int a, .int (b + 1)] = some E) (hz : E.length ≤ sizeLine) (lc : lcL [4] (gN 4) ct_stayed_1 ce_stayed_2 E [.sh r, .sh q, .sh (.int a), .sh (.int b), .no] = .ok C [.sh r, .sh q, .sh (.int a), .sh (.int b), .no]) : F_stayed [r, q, .int a, .int b] = some C := by
  unfold F_stayed callF g_stayed env0
  walk_at "evh"
theorem sta_eq {r q : D} {ns ms : List Int} {a b : Int} (hr : Sq r (ns.map .int)) (hq : Sq q (ms.map .int)) (h : ms.length = ns.length) (hl : ns.length ≤ 1000) (h0 : 0 ≤ a) (ha : a ≤ 2000) (h1 : b < ns.length) (h2 : -1000 ≤ b) : F_stayed [r, q, .int a, .int b] = some ((stL ns ms a b).map .int) := by
  refine sta_go (E := rangeD a (b + 1 - a).toNat) (if_pos (by omega)) ?_ (by rw [rngI_d]; exact sta_lc hr hq h h0 h1)
  rw [rangeD_len]
  exact size_of (by omega)
end W

namespace W
open PySem L2 DL
local macro_rules | `(tactic| walk_at "ev") => `(tactic| simp only [eC, eV, oE, oV, eL, eT, aNil, aCons, eOp2, eOp1, eApp, tstE, eB, tNotG, tAndG, tOrG, eAndG, eOrG, eNotG, eIf, eSeq, eCall, eCallO, eCallB, eCallBF, eCallBX, sSeq, sNext, sRet, sRetF, sRetO, sRetN, sDrop, sIf, sSet, sSetO, sBreak, sCont, sBad, sPar, sPar3, fz, sFz, eCallW, idL, sApp, sPutIx, sAug, sFor, gN, gT, gsCons, gsNil, gYes, eLc, gSeq, nS, nF, Nw.sl, R.ok_bind, R.ok_map, R.lift_some, to_ok, toX_ok, toX_ex, bind_nx, bind_rt, bind_rf, bind_ex, bind_bk, bind_ct, at_ok, at_ex, res_val, map_ex, rbind_ex, Op.res, resA, valA, isOw, box0, Option.map_some, Option.bind_some, sHeardT, nlCons, nlNil, Nw.dat, mSet, eChain, eRg1, eRg2, eSl, pNo, pSo,
  List.getElem?_cons_zero, List.getElem?_cons_succ, List.set_cons_zero, List.set_cons_succ, List.length_cons, List.length_nil, if_true, if_false, Bool.false_eq_true, ite_true, ite_false, reduceIte,
  addU_int, subD_int, ltD_int, leD_int, gtD_int, geD_int, negD_int, absD_int, intD_bool, intD_int, lenD_list, lenD_tuple, lenD_scr, pow10_7, pow10_18, pow10_40, eqW_ints, neW_ints, eqW_strs, neW_strs, eqW_none, eqW_in, eqW_ni, ixD_list, ixD_tuple, ixD_scr, atI_3_0, atI_3_1, atI_3_2, ixN_3_0, ixN_3_1, ixN_3_2, wipeR, zip2D, skOf, isiD_n, isiD_b, isiD_i, isiD_s, isiD_l, isiD_t, isiTD_n, isiTD_b, isiTD_i, isiTD_s, isiTD_l, isiTD_t, isiAny, eCallX, eCallWX, xE, xIf, xL, xCb1, sSetX, sRetX, sDropX, sRaise, sTo, eMk, isX_n, sKeep, kt_ll, kt_lt, kt_ls, kt_li, kt_lb, kt_tl, kt_tt, kt_ts, kt_ti, kt_tb, kt_sl, kt_st, kt_ss, kt_si, kt_sb, kt_il, kt_it, kt_is, kt_ii, kt_ib, kt_bl, kt_bt, kt_bs, kt_bi, kt_bb, kt_nl, kt_nt, kt_ns, kt_ni, kt_nb, eqW_bools, neW_bools, isD_none, isNotD_none, isNoneD, isNone_e, List.map_cons, List.map_nil, List.replicate, List.append_nil, List.cons_append, List.nil_append, nc0, nc1, nc2, nc3, nc4, nc5, nc6, nc7, nc8, nc9, nc10, nc11, nc12, nc13, nc14, nc15, nc16, nc17, nc18, nc19, nc20, Nat.reduceAdd, Nat.reduceSub, ne_eq, decide_true, decide_false, not_true_eq_false, not_false_eq_true, reduceCtorEq, Bool.and_true, Bool.true_and, Bool.and_false, Bool.false_and, Bool.or_true, Bool.true_or, Bool.or_false, Bool.false_or, Bool.not_true, Bool.not_false])
local macro_rules | `(tactic| walk_at "evh") => `(tactic| simp only [eC, eV, oE, oV, eL, eT, aNil, aCons, eOp2, eOp1, eApp, tstE, eB, tNotG, tAndG, tOrG, eAndG, eOrG, eNotG, eIf, eSeq, eCall, eCallO, eCallB, eCallBF, eCallBX, sSeq, sNext, sRet, sRetF, sRetO, sRetN, sDrop, sIf, sSet, sSetO, sBreak, sCont, sBad, sPar, sPar3, fz, sFz, eCallW, idL, sApp, sPutIx, sAug, sFor, gN, gT, gsCons, gsNil, gYes, eLc, gSeq, nS, nF, Nw.sl, R.ok_bind, R.ok_map, R.lift_some, to_ok, toX_ok, toX_ex, bind_nx, bind_rt, bind_rf, bind_ex, bind_bk, bind_ct, at_ok, at_ex, res_val, map_ex, rbind_ex, Op.res, resA, valA, isOw, box0, Option.map_some, Option.bind_some, sHeardT, nlCons, nlNil, Nw.dat, mSet, eChain, eRg1, eRg2, eSl, pNo, pSo,
  List.getElem?_cons_zero, List.getElem?_cons_succ, List.set_cons_zero, List.set_cons_succ, List.length_cons, List.length_nil, if_true, if_false, Bool.false_eq_true, ite_true, ite_false, reduceIte,
  addU_int, subD_int, ltD_int, leD_int, gtD_int, geD_int, negD_int, absD_int, intD_bool, intD_int, lenD_list, lenD_tuple, lenD_scr, pow10_7, pow10_18, pow10_40, eqW_ints, neW_ints, eqW_strs, neW_strs, eqW_none, eqW_in, eqW_ni, ixD_list, ixD_tuple, ixD_scr, atI_3_0, atI_3_1, atI_3_2, ixN_3_0, ixN_3_1, ixN_3_2, wipeR, zip2D, skOf, isiD_n, isiD_b, isiD_i, isiD_s, isiD_l, isiD_t, isiTD_n, isiTD_b, isiTD_i, isiTD_s, isiTD_l, isiTD_t, isiAny, eCallX, eCallWX, xE, xIf, xL, xCb1, sSetX, sRetX, sDropX, sRaise, sTo, eMk, isX_n, sKeep, kt_ll, kt_lt, kt_ls, kt_li, kt_lb, kt_tl, kt_tt, kt_ts, kt_ti, kt_tb, kt_sl, kt_st, kt_ss, kt_si, kt_sb, kt_il, kt_it, kt_is, kt_ii, kt_ib, kt_bl, kt_bt, kt_bs, kt_bi, kt_bb, kt_nl, kt_nt, kt_ns, kt_ni, kt_nb, eqW_bools, neW_bools, isD_none, isNotD_none, isNoneD, isNone_e, List.map_cons, List.map_nil, List.replicate, List.append_nil, List.cons_append, List.nil_append, nc0, nc1, nc2, nc3, nc4, nc5, nc6, nc7, nc8, nc9, nc10, nc11, nc12, nc13, nc14, nc15, nc16, nc17, nc18, nc19, nc20, Nat.reduceAdd, Nat.reduceSub, ne_eq, decide_true, decide_false, not_true_eq_false, not_false_eq_true, reduceCtorEq, Bool.and_true, Bool.true_and, Bool.and_false, Bool.false_and, Bool.or_true, Bool.true_or, Bool.or_false, Bool.false_or, Bool.not_true, Bool.not_false, *])
theorem runs_in : ∀ (b : List Int) (n : Int), (∀ x ∈ b, 0 ≤ x ∧ x < n) → ∀ p ∈ runsOf b n, 0 ≤ p.1 ∧ p.1 < n ∧ -1 ≤ p.2 ∧ p.2 < n
  | [], n, hb => fun p hp => nomatch hp
  | [x], n, hb => fun p hp => by
    have := hb x List.mem_cons_self
    cases List.mem_singleton.mp hp
    refine ⟨this.1, this.2, ?_, ?_⟩ <;> (show _ ; dsimp only; omega)
  | x :: y :: r, n, hb => fun p hp => by
    have h1 := hb x List.mem_cons_self
    have h2 := hb y (List.mem_cons_of_mem _ List.mem_cons_self)
    rcases List.mem_cons.mp hp with e | hp
    · cases e
      refine ⟨h1.1, h1.2, ?_, ?_⟩ <;> (dsimp only; omega)
    · exact runs_in (y :: r) n (fun z hz => hb z (List.mem_cons_of_mem _ hz)) p hp
theorem begs_in {ns : List Int} {n : Nat} : ∀ x ∈ begs ns n, 0 ≤ x ∧ x < (n : Int) := fun x hx => by
  have := mem_rngI (List.mem_filter.mp hx).1
  omega
def wrB (ns ms : List Int) (p : Int × Int) : Bool := decide (((stL ns ms p.1 p.2).length : Int) = 0)
def wrL (ns ms : List Int) : List Int := ((runsOf (begs ms ms.length) ms.length).filter (wrB ns ms)).map (·.1)
theorem wr_test {r q : D} {a b : Int} {S : List D} (e : F_stayed [r, q, .int a, .int b] = some S) (k : Bool) (hk : decide ((S.length : Int) = 0) = k) : ct_wrong_runs_1 [.sh r, .sh q, .sh (.int a), .sh (.int b)] = .ok k [.sh r, .sh q, .sh (.int a), .sh (.int b)] := by
  have ln : lenD [.list S] = some (.int (S.length : Int)) := rfl
  unfold ct_wrong_runs_1
  generalize (S.length : Int) = j at *
  walk_at "evh"
theorem lc_pairs {vs : List Nat} {k : GG} {t : GT} {e : GE} {ρ : Rho} (f : Int × Int → Bool) : ∀ {ps : List (Int × Int)}, (∀ p ∈ ps, ∃ ρ1, k (prD p) ρ = some ρ1 ∧ wipeR ρ1 vs = ρ ∧ t ρ1 = .ok (f p) ρ1 ∧ e ρ1 = .ok (.int p.1) ρ1) → lcL vs k t e (ps.map prD) ρ = .ok (((ps.filter f).map (·.1)).map .int) ρ := by
  intro ps h
  have q := lc_fm (vs := vs) (k := k) (t := t) (e := e) (ρ := ρ) (fun d => match d with | .tuple [.int a, .int b] => if f (a, b) then some (.int a) else none | _ => none) (ds := ps.map prD) (fun d hd => by
    obtain ⟨p, hp, rfl⟩ := List.mem_map.mp hd
    obtain ⟨ρ1, a, b, c, d⟩ := h p hp
    refine ⟨ρ1, a, b, ?_⟩
    cases hf : f p with
    | true => exact .inl ⟨.int p.1, by simp [prD, hf], by rw [c, hf], d⟩
    | false => exact .inr ⟨by simp [prD, hf], by rw [c, hf]⟩)
  rw [q]
  congr 1
  clear q h
  induction ps with
  | nil => rfl
  | cons p ps ih =>
    cases hf : f p with
    | true => simp [List.filterMap_cons, List.filter_cons, prD, hf, ← ih]
    | false => simp [List.filterMap_cons, List.filter_cons, prD, hf, ← ih]
theorem wr_go {r q : D} {Rs C : List D} (e : F_runs [q] = some Rs) (hz : Rs.length ≤ sizeLine) (lc : lcL [2, 3] (gT 2 (gsCons (gN 2) (gsCons (gN 3) gsNil))) ct_wrong_runs_1 ce_wrong_runs_2 Rs [.sh r, .sh q, .no, .no] = .ok C [.sh r, .sh q, .no, .no]) : F_wrong_runs [r, q] = some C := by
  have it : itemsD (.list Rs) = some Rs := rfl
  unfold F_wrong_runs callF g_wrong_runs env0
  walk_at "evh"
end W

namespace W
open PySem L2 DL
local macro_rules | `(tactic| walk_at "ev") => `(tactic| simp only [eC, eV, oE, oV, eL, eT, aNil, aCons, eOp2, eOp1, eApp, tstE, eB, tNotG, tAndG, tOrG, eAndG, eOrG, eNotG, eIf, eSeq, eCall, eCallO, eCallB, eCallBF, eCallBX, sSeq, sNext, sRet, sRetF, sRetO, sRetN, sDrop, sIf, sSet, sSetO, sBreak, sCont, sBad, sPar, sPar3, fz, sFz, eCallW, idL, sApp, sPutIx, sAug, sFor, gN, gT, gsCons, gsNil, gYes, eLc, gSeq, nS, nF, Nw.sl, R.ok_bind, R.ok_map, R.lift_some, to_ok, toX_ok, toX_ex, bind_nx, bind_rt, bind_rf, bind_ex, bind_bk, bind_ct, at_ok, at_ex, res_val, map_ex, rbind_ex, Op.res, resA, valA, isOw, box0, Option.map_some, Option.bind_some, sHeardT, nlCons, nlNil, Nw.dat, mSet, eChain, eRg1, eRg2, eSl, pNo, pSo,
  List.getElem?_cons_zero, List.getElem?_cons_succ, List.set_cons_zero, List.set_cons_succ, List.length_cons, List.length_nil, if_true, if_false, Bool.false_eq_true, ite_true, ite_false, reduceIte,
  addU_int, subD_int, ltD_int, leD_int, gtD_int, geD_int, negD_int, absD_int, intD_bool, intD_int, lenD_list, lenD_tuple, lenD_scr, pow10_7, pow10_18, pow10_40, eqW_ints, neW_ints, eqW_strs, neW_strs, eqW_none, eqW_in, eqW_ni, ixD_list, ixD_tuple, ixD_scr, atI_3_0, atI_3_1, atI_3_2, ixN_3_0, ixN_3_1, ixN_3_2, wipeR, zip2D, skOf, isiD_n, isiD_b, isiD_i, isiD_s, isiD_l, isiD_t, isiTD_n, isiTD_b, isiTD_i, isiTD_s, isiTD_l, isiTD_t, isiAny, eCallX, eCallWX, xE, xIf, xL, xCb1, sSetX, sRetX, sDropX, sRaise, sTo, eMk, isX_n, sKeep, kt_ll, kt_lt, kt_ls, kt_li, kt_lb, kt_tl, kt_tt, kt_ts, kt_ti, kt_tb, kt_sl, kt_st, kt_ss, kt_si, kt_sb, kt_il, kt_it, kt_is, kt_ii, kt_ib, kt_bl, kt_bt, kt_bs, kt_bi, kt_bb, kt_nl, kt_nt, kt_ns, kt_ni, kt_nb, eqW_bools, neW_bools, isD_none, isNotD_none, isNoneD, isNone_e, List.map_cons, List.map_nil, List.replicate, List.append_nil, List.cons_append, List.nil_append, nc0, nc1, nc2, nc3, nc4, nc5, nc6, nc7, nc8, nc9, nc10, nc11, nc12, nc13, nc14, nc15, nc16, nc17, nc18, nc19, nc20, Nat.reduceAdd, Nat.reduceSub, ne_eq, decide_true, decide_false, not_true_eq_false, not_false_eq_true, reduceCtorEq, Bool.and_true, Bool.true_and, Bool.and_false, Bool.false_and, Bool.or_true, Bool.true_or, Bool.or_false, Bool.false_or, Bool.not_true, Bool.not_false])
local macro_rules | `(tactic| walk_at "evh") => `(tactic| simp only [eC, eV, oE, oV, eL, eT, aNil, aCons, eOp2, eOp1, eApp, tstE, eB, tNotG, tAndG, tOrG, eAndG, eOrG, eNotG, eIf, eSeq, eCall, eCallO, eCallB, eCallBF, eCallBX, sSeq, sNext, sRet, sRetF, sRetO, sRetN, sDrop, sIf, sSet, sSetO, sBreak, sCont, sBad, sPar, sPar3, fz, sFz, eCallW, idL, sApp, sPutIx, sAug, sFor, gN, gT, gsCons, gsNil, gYes, eLc, gSeq, nS, nF, Nw.sl, R.ok_bind, R.ok_map, R.lift_some, to_ok, toX_ok, toX_ex, bind_nx, bind_rt, bind_rf, bind_ex, bind_bk, bind_ct, at_ok, at_ex, res_val, map_ex, rbind_ex, Op.res, resA, valA, isOw, box0, Option.map_some, Option.bind_some, sHeardT, nlCons, nlNil, Nw.dat, mSet, eChain, eRg1, eRg2, eSl, pNo, pSo,
  List.getElem?_cons_zero, List.getElem?_cons_succ, List.set_cons_zero, List.set_cons_succ, List.length_cons, List.length_nil, if_true, if_false, Bool.false_eq_true, ite_true, ite_false, reduceIte,
  addU_int, subD_int, ltD_int, leD_int, gtD_int, geD_int, negD_int, absD_int, intD_bool, intD_int, lenD_list, lenD_tuple, lenD_scr, pow10_7, pow10_18, pow10_40, eqW_ints, neW_ints, eqW_strs, neW_strs, eqW_none, eqW_in, eqW_ni, ixD_list, ixD_tuple, ixD_scr, atI_3_0, atI_3_1, atI_3_2, ixN_3_0, ixN_3_1, ixN_3_2, wipeR, zip2D, skOf, isiD_n, isiD_b, isiD_i, isiD_s, isiD_l, isiD_t, isiTD_n, isiTD_b, isiTD_i, isiTD_s, isiTD_l, isiTD_t, isiAny, eCallX, eCallWX, xE, xIf, xL, xCb1, sSetX, sRetX, sDropX, sRaise, sTo, eMk, isX_n, sKeep, kt_ll, kt_lt, kt_ls, kt_li, kt_lb, kt_tl, kt_tt, kt_ts, kt_ti, kt_tb, kt_sl, kt_st, kt_ss, kt_si, kt_sb, kt_il, kt_it, kt_is, kt_ii, kt_ib, kt_bl, kt_bt, kt_bs, kt_bi, kt_bb, kt_nl, kt_nt, kt_ns, kt_ni, kt_nb, eqW_bools, neW_bools, isD_none, isNotD_none, isNoneD, isNone_e, List.map_cons, List.map_nil, List.replicate, List.append_nil, List.cons_append, List.nil_append, nc0, nc1, nc2, nc3, nc4, nc5, nc6, nc7, nc8, nc9, nc10, nc11, nc12, nc13, nc14, nc15, nc16, nc17, nc18, nc19, nc20, Nat.reduceAdd, Nat.reduceSub, ne_eq, decide_true, decide_false, not_true_eq_false, not_false_eq_true, reduceCtorEq, Bool.and_true, Bool.true_and, Bool.and_false, Bool.false_and, Bool.or_true, Bool.true_or, Bool.or_false, Bool.false_or, Bool.not_true, Bool.not_false, *])
theorem runs_len : ∀ (b : List Int) (n : Int), (runsOf b n).length = b.length
  | [], _ => rfl
  | [x], _ => rfl
  | x :: y :: r, n => by
    show (runsOf (y :: r) n).length + 1 = _
    rw [runs_len (y :: r) n]; rfl
theorem wr_eq {r q : D} {ns ms : List Int} (hr : Sq r (ns.map .int)) (hq : Sq q (ms.map .int)) (h : ms.length = ns.length) (hl : ns.length ≤ 1000) : F_wrong_runs [r, q] = some ((wrL ns ms).map .int) := by
  refine wr_go (runs_eq hq (by omega)) ?_ ?_
  · rw [List.length_map, runs_len]
    exact size_of (Nat.le_trans (begs_len ms ms.length) (by omega))
  · refine lc_pairs (wrB ns ms) fun p hp => ?_
    obtain ⟨p1, p2, p3, p4⟩ := runs_in _ _ begs_in p hp
    have e := sta_eq (a := p.1) (b := p.2) hr hq h hl p1 (by omega) (by omega) (by omega)
    exact ⟨[.sh r, .sh q, .sh (.int p.1), .sh (.int p.2)], rfl, rfl, wr_test e _ (by rw [List.length_map]; rfl), rfl⟩
/-! bar -/
def barD (ns ms : List Int) : D := match chL ns ms with
  | p :: _ => .tuple [.str "change", .int p]
  | [] => match orL ns ms with
    | p :: _ => .tuple [.str "order", .int p]
    | [] => match wrL ns ms with
      | p :: _ => .tuple [.str "run", .int p]
      | [] => .none
theorem bar_t1 {s0 s1 : Sl} {w : D} {x : Int} {xs : List Int} (z : 2 ≤ sizeLine) : gb_bar_1 [s0, s1, .sh w, .sh (.list ((x :: xs).map .int))] = .rt (.tuple [w, .int x]) [s0, s1, .sh w, .sh (.list ((x :: xs).map .int))] := by
  have ln : lenD [.list ((x :: xs).map .int)] = some (.int ((xs.length : Int) + 1)) := by rw [lenD_list, List.length_map]; rfl
  have d : decide ((0 : Int) < (xs.length : Int) + 1) = true := decide_eq_true (by omega)
  have ix : ixD (.list ((x :: xs).map .int)) (.int 0) = some (.int x) := by rw [ixD_list]; exact atI_nat0 _ _
  generalize (xs.length : Int) + 1 = j at *
  generalize PyData.list ((x :: xs).map .int) = L at *
  unfold gb_bar_1
  walk_at "evh"
theorem bar_t0 {s0 s1 : Sl} {w : D} : gb_bar_1 [s0, s1, .sh w, .sh (.list [])] = .nx [s0, s1, .sh w, .sh (.list [])] := by
  have ln : lenD [.list []] = some (.int 0) := rfl
  have d : decide ((0 : Int) < 0) = false := rfl
  unfold gb_bar_1
  generalize PyData.list [] = L at *
  walk_at "evh"
end W

namespace W
open PySem L2 DL
local macro_rules | `(tactic| walk_at "ev") => `(tactic| simp only [eC, eV, oE, oV, eL, eT, aNil, aCons, eOp2, eOp1, eApp, tstE, eB, tNotG, tAndG, tOrG, eAndG, eOrG, eNotG, eIf, eSeq, eCall, eCallO, eCallB, eCallBF, eCallBX, sSeq, sNext, sRet, sRetF, sRetO, sRetN, sDrop, sIf, sSet, sSetO, sBreak, sCont, sBad, sPar, sPar3, fz, sFz, eCallW, idL, sApp, sPutIx, sAug, sFor, gN, gT, gsCons, gsNil, gYes, eLc, gSeq, nS, nF, Nw.sl, R.ok_bind, R.ok_map, R.lift_some, to_ok, toX_ok, toX_ex, bind_nx, bind_rt, bind_rf, bind_ex, bind_bk, bind_ct, at_ok, at_ex, res_val, map_ex, rbind_ex, Op.res, resA, valA, isOw, box0, Option.map_some, Option.bind_some, sHeardT, nlCons, nlNil, Nw.dat, mSet, eChain, eRg1, eRg2, eSl, pNo, pSo,
  List.getElem?_cons_zero, List.getElem?_cons_succ, List.set_cons_zero, List.set_cons_succ, List.length_cons, List.length_nil, if_true, if_false, Bool.false_eq_true, ite_true, ite_false, reduceIte,
  addU_int, subD_int, ltD_int, leD_int, gtD_int, geD_int, negD_int, absD_int, intD_bool, intD_int, lenD_list, lenD_tuple, lenD_scr, pow10_7, pow10_18, pow10_40, eqW_ints, neW_ints, eqW_strs, neW_strs, eqW_none, eqW_in, eqW_ni, ixD_list, ixD_tuple, ixD_scr, atI_3_0, atI_3_1, atI_3_2, ixN_3_0, ixN_3_1, ixN_3_2, wipeR, zip2D, skOf, isiD_n, isiD_b, isiD_i, isiD_s, isiD_l, isiD_t, isiTD_n, isiTD_b, isiTD_i, isiTD_s, isiTD_l, isiTD_t, isiAny, eCallX, eCallWX, xE, xIf, xL, xCb1, sSetX, sRetX, sDropX, sRaise, sTo, eMk, isX_n, sKeep, kt_ll, kt_lt, kt_ls, kt_li, kt_lb, kt_tl, kt_tt, kt_ts, kt_ti, kt_tb, kt_sl, kt_st, kt_ss, kt_si, kt_sb, kt_il, kt_it, kt_is, kt_ii, kt_ib, kt_bl, kt_bt, kt_bs, kt_bi, kt_bb, kt_nl, kt_nt, kt_ns, kt_ni, kt_nb, eqW_bools, neW_bools, isD_none, isNotD_none, isNoneD, isNone_e, List.map_cons, List.map_nil, List.replicate, List.append_nil, List.cons_append, List.nil_append, nc0, nc1, nc2, nc3, nc4, nc5, nc6, nc7, nc8, nc9, nc10, nc11, nc12, nc13, nc14, nc15, nc16, nc17, nc18, nc19, nc20, Nat.reduceAdd, Nat.reduceSub, ne_eq, decide_true, decide_false, not_true_eq_false, not_false_eq_true, reduceCtorEq, Bool.and_true, Bool.true_and, Bool.and_false, Bool.false_and, Bool.or_true, Bool.true_or, Bool.or_false, Bool.false_or, Bool.not_true, Bool.not_false])
local macro_rules | `(tactic| walk_at "evh") => `(tactic| simp only [eC, eV, oE, oV, eL, eT, aNil, aCons, eOp2, eOp1, eApp, tstE, eB, tNotG, tAndG, tOrG, eAndG, eOrG, eNotG, eIf, eSeq, eCall, eCallO, eCallB, eCallBF, eCallBX, sSeq, sNext, sRet, sRetF, sRetO, sRetN, sDrop, sIf, sSet, sSetO, sBreak, sCont, sBad, sPar, sPar3, fz, sFz, eCallW, idL, sApp, sPutIx, sAug, sFor, gN, gT, gsCons, gsNil, gYes, eLc, gSeq, nS, nF, Nw.sl, R.ok_bind, R.ok_map, R.lift_some, to_ok, toX_ok, toX_ex, bind_nx, bind_rt, bind_rf, bind_ex, bind_bk, bind_ct, at_ok, at_ex, res_val, map_ex, rbind_ex, Op.res, resA, valA, isOw, box0, Option.map_some, Option.bind_some, sHeardT, nlCons, nlNil, Nw.dat, mSet, eChain, eRg1, eRg2, eSl, pNo, pSo,
  List.getElem?_cons_zero, List.getElem?_cons_succ, List.set_cons_zero, List.set_cons_succ, List.length_cons, List.length_nil, if_true, if_false, Bool.false_eq_true, ite_true, ite_false, reduceIte,
  addU_int, subD_int, ltD_int, leD_int, gtD_int, geD_int, negD_int, absD_int, intD_bool, intD_int, lenD_list, lenD_tuple, lenD_scr, pow10_7, pow10_18, pow10_40, eqW_ints, neW_ints, eqW_strs, neW_strs, eqW_none, eqW_in, eqW_ni, ixD_list, ixD_tuple, ixD_scr, atI_3_0, atI_3_1, atI_3_2, ixN_3_0, ixN_3_1, ixN_3_2, wipeR, zip2D, skOf, isiD_n, isiD_b, isiD_i, isiD_s, isiD_l, isiD_t, isiTD_n, isiTD_b, isiTD_i, isiTD_s, isiTD_l, isiTD_t, isiAny, eCallX, eCallWX, xE, xIf, xL, xCb1, sSetX, sRetX, sDropX, sRaise, sTo, eMk, isX_n, sKeep, kt_ll, kt_lt, kt_ls, kt_li, kt_lb, kt_tl, kt_tt, kt_ts, kt_ti, kt_tb, kt_sl, kt_st, kt_ss, kt_si, kt_sb, kt_il, kt_it, kt_is, kt_ii, kt_ib, kt_bl, kt_bt, kt_bs, kt_bi, kt_bb, kt_nl, kt_nt, kt_ns, kt_ni, kt_nb, eqW_bools, neW_bools, isD_none, isNotD_none, isNoneD, isNone_e, List.map_cons, List.map_nil, List.replicate, List.append_nil, List.cons_append, List.nil_append, nc0, nc1, nc2, nc3, nc4, nc5, nc6, nc7, nc8, nc9, nc10, nc11, nc12, nc13, nc14, nc15, nc16, nc17, nc18, nc19, nc20, Nat.reduceAdd, Nat.reduceSub, ne_eq, decide_true, decide_false, not_true_eq_false, not_false_eq_true, reduceCtorEq, Bool.and_true, Bool.true_and, Bool.and_false, Bool.false_and, Bool.or_true, Bool.true_or, Bool.or_false, Bool.false_or, Bool.not_true, Bool.not_false, *])
theorem mem_tops {ns : List Int} {i : Int} : decide (i ∈ topsL ns) = ((decide (0 < i) && decide (i < (ns.length : Int) - 1)) && isTop ns i) := by
  rw [← Bool.decide_and]
  cases h : isTop ns i with
  | false => rw [Bool.and_false]; exact decide_eq_false fun z => by have := (List.mem_filter.mp z).2; rw [h] at this; cases this
  | true =>
    rw [Bool.and_true]
    refine decide_eq_decide.mpr ⟨fun z => ?_, fun z => List.mem_filter.mpr ⟨in_rngI (by omega) (by omega), h⟩⟩
    have := mem_inn (List.mem_filter.mp z).1
    omega
theorem mem_dips {ns : List Int} {i : Int} : decide (i ∈ dipsL ns) = ((decide (0 < i) && decide (i < (ns.length : Int) - 1)) && isDip ns i) := by
  rw [← Bool.decide_and]
  cases h : isDip ns i with
  | false => rw [Bool.and_false]; exact decide_eq_false fun z => by have := (List.mem_filter.mp z).2; rw [h] at this; cases this
  | true =>
    rw [Bool.and_true]
    refine decide_eq_decide.mpr ⟨fun z => ?_, fun z => List.mem_filter.mpr ⟨in_rngI (by omega) (by omega), h⟩⟩
    have := mem_inn (List.mem_filter.mp z).1
    omega
theorem many_ok {r q : D} {j : Int} (h1 : lenD [r] = some (.int j)) (h2 : lenD [q] = some (.int j)) : F_look_many [r, q] = .ok .none := by
  have d : decide (j = j) = true := decide_eq_true rfl
  unfold F_look_many callX g_look_many env0
  walk_at "evh"
theorem many_ex {r q : D} {j k : Int} (h1 : lenD [r] = some (.int j)) (h2 : lenD [q] = some (.int k)) (h : j ≠ k) : F_look_many [r, q] = .ex "OtherPeople" (.int k) := by
  have d : decide (j = k) = false := decide_eq_false h
  unfold F_look_many callX g_look_many env0
  clear h
  walk_at "evh"
theorem bar_ex {r q : D} {c : Str} {d : D} (e : F_look_many [r, q] = .ex c d) : F_bar [r, q] = .ex c d := by
  unfold F_bar callX g_bar env0
  walk_at "evh"
theorem bar_for {s0 s1 : Sl} {A B : List Int} : forL (gT 2 (gsCons (gN 2) (gsCons (gN 3) gsNil))) gb_bar_1 [.tuple [.str "change", .list (A.map .int)], .tuple [.str "order", .list (B.map .int)]] [s0, s1, .no, .no] = (match A with
    | x :: xs => .rt (.tuple [.str "change", .int x]) [s0, s1, .sh (.str "change"), .sh (.list ((x :: xs).map .int))]
    | [] => match B with
      | x :: xs => .rt (.tuple [.str "order", .int x]) [s0, s1, .sh (.str "order"), .sh (.list ((x :: xs).map .int))]
      | [] => .nx [s0, s1, .sh (.str "order"), .sh (.list [])]) := by
  cases A with
  | cons x xs => exact for_rt rfl (bar_t1 (by decide))
  | nil =>
    refine for_cons (ρ2 := [s0, s1, .sh (.str "change"), .sh (.list [])]) rfl bar_t0 ?_
    cases B with
    | cons x xs => exact for_rt rfl (bar_t1 (by decide))
    | nil => exact for_cons (ρ2 := [s0, s1, .sh (.str "order"), .sh (.list [])]) rfl bar_t0 rfl
end W

namespace W
open PySem L2 DL
local macro_rules | `(tactic| walk_at "ev") => `(tactic| simp only [eC, eV, oE, oV, eL, eT, aNil, aCons, eOp2, eOp1, eApp, tstE, eB, tNotG, tAndG, tOrG, eAndG, eOrG, eNotG, eIf, eSeq, eCall, eCallO, eCallB, eCallBF, eCallBX, sSeq, sNext, sRet, sRetF, sRetO, sRetN, sDrop, sIf, sSet, sSetO, sBreak, sCont, sBad, sPar, sPar3, fz, sFz, eCallW, idL, sApp, sPutIx, sAug, sFor, gN, gT, gsCons, gsNil, gYes, eLc, gSeq, nS, nF, Nw.sl, R.ok_bind, R.ok_map, R.lift_some, to_ok, toX_ok, toX_ex, bind_nx, bind_rt, bind_rf, bind_ex, bind_bk, bind_ct, at_ok, at_ex, res_val, map_ex, rbind_ex, Op.res, resA, valA, isOw, box0, Option.map_some, Option.bind_some, sHeardT, nlCons, nlNil, Nw.dat, mSet, eChain, eRg1, eRg2, eSl, pNo, pSo,
  List.getElem?_cons_zero, List.getElem?_cons_succ, List.set_cons_zero, List.set_cons_succ, List.length_cons, List.length_nil, if_true, if_false, Bool.false_eq_true, ite_true, ite_false, reduceIte,
  addU_int, subD_int, ltD_int, leD_int, gtD_int, geD_int, negD_int, absD_int, intD_bool, intD_int, lenD_list, lenD_tuple, lenD_scr, pow10_7, pow10_18, pow10_40, eqW_ints, neW_ints, eqW_strs, neW_strs, eqW_none, eqW_in, eqW_ni, ixD_list, ixD_tuple, ixD_scr, atI_3_0, atI_3_1, atI_3_2, ixN_3_0, ixN_3_1, ixN_3_2, wipeR, zip2D, skOf, isiD_n, isiD_b, isiD_i, isiD_s, isiD_l, isiD_t, isiTD_n, isiTD_b, isiTD_i, isiTD_s, isiTD_l, isiTD_t, isiAny, eCallX, eCallWX, xE, xIf, xL, xCb1, sSetX, sRetX, sDropX, sRaise, sTo, eMk, isX_n, sKeep, kt_ll, kt_lt, kt_ls, kt_li, kt_lb, kt_tl, kt_tt, kt_ts, kt_ti, kt_tb, kt_sl, kt_st, kt_ss, kt_si, kt_sb, kt_il, kt_it, kt_is, kt_ii, kt_ib, kt_bl, kt_bt, kt_bs, kt_bi, kt_bb, kt_nl, kt_nt, kt_ns, kt_ni, kt_nb, eqW_bools, neW_bools, isD_none, isNotD_none, isNoneD, isNone_e, List.map_cons, List.map_nil, List.replicate, List.append_nil, List.cons_append, List.nil_append, nc0, nc1, nc2, nc3, nc4, nc5, nc6, nc7, nc8, nc9, nc10, nc11, nc12, nc13, nc14, nc15, nc16, nc17, nc18, nc19, nc20, Nat.reduceAdd, Nat.reduceSub, ne_eq, decide_true, decide_false, not_true_eq_false, not_false_eq_true, reduceCtorEq, Bool.and_true, Bool.true_and, Bool.and_false, Bool.false_and, Bool.or_true, Bool.true_or, Bool.or_false, Bool.false_or, Bool.not_true, Bool.not_false, xOpL])
local macro_rules | `(tactic| walk_at "evh") => `(tactic| simp only [eC, eV, oE, oV, eL, eT, aNil, aCons, eOp2, eOp1, eApp, tstE, eB, tNotG, tAndG, tOrG, eAndG, eOrG, eNotG, eIf, eSeq, eCall, eCallO, eCallB, eCallBF, eCallBX, sSeq, sNext, sRet, sRetF, sRetO, sRetN, sDrop, sIf, sSet, sSetO, sBreak, sCont, sBad, sPar, sPar3, fz, sFz, eCallW, idL, sApp, sPutIx, sAug, sFor, gN, gT, gsCons, gsNil, gYes, eLc, gSeq, nS, nF, Nw.sl, R.ok_bind, R.ok_map, R.lift_some, to_ok, toX_ok, toX_ex, bind_nx, bind_rt, bind_rf, bind_ex, bind_bk, bind_ct, at_ok, at_ex, res_val, map_ex, rbind_ex, Op.res, resA, valA, isOw, box0, Option.map_some, Option.bind_some, sHeardT, nlCons, nlNil, Nw.dat, mSet, eChain, eRg1, eRg2, eSl, pNo, pSo,
  List.getElem?_cons_zero, List.getElem?_cons_succ, List.set_cons_zero, List.set_cons_succ, List.length_cons, List.length_nil, if_true, if_false, Bool.false_eq_true, ite_true, ite_false, reduceIte,
  addU_int, subD_int, ltD_int, leD_int, gtD_int, geD_int, negD_int, absD_int, intD_bool, intD_int, lenD_list, lenD_tuple, lenD_scr, pow10_7, pow10_18, pow10_40, eqW_ints, neW_ints, eqW_strs, neW_strs, eqW_none, eqW_in, eqW_ni, ixD_list, ixD_tuple, ixD_scr, atI_3_0, atI_3_1, atI_3_2, ixN_3_0, ixN_3_1, ixN_3_2, wipeR, zip2D, skOf, isiD_n, isiD_b, isiD_i, isiD_s, isiD_l, isiD_t, isiTD_n, isiTD_b, isiTD_i, isiTD_s, isiTD_l, isiTD_t, isiAny, eCallX, eCallWX, xE, xIf, xL, xCb1, sSetX, sRetX, sDropX, sRaise, sTo, eMk, isX_n, sKeep, kt_ll, kt_lt, kt_ls, kt_li, kt_lb, kt_tl, kt_tt, kt_ts, kt_ti, kt_tb, kt_sl, kt_st, kt_ss, kt_si, kt_sb, kt_il, kt_it, kt_is, kt_ii, kt_ib, kt_bl, kt_bt, kt_bs, kt_bi, kt_bb, kt_nl, kt_nt, kt_ns, kt_ni, kt_nb, eqW_bools, neW_bools, isD_none, isNotD_none, isNoneD, isNone_e, List.map_cons, List.map_nil, List.replicate, List.append_nil, List.cons_append, List.nil_append, nc0, nc1, nc2, nc3, nc4, nc5, nc6, nc7, nc8, nc9, nc10, nc11, nc12, nc13, nc14, nc15, nc16, nc17, nc18, nc19, nc20, Nat.reduceAdd, Nat.reduceSub, ne_eq, decide_true, decide_false, not_true_eq_false, not_false_eq_true, reduceCtorEq, Bool.and_true, Bool.true_and, Bool.and_false, Bool.false_and, Bool.or_true, Bool.true_or, Bool.or_false, Bool.false_or, Bool.not_true, Bool.not_false, xOpL, *])
theorem bar_s1 {r q : D} {s2 s3 : Sl} (e0 : F_look_many [r, q] = .ok .none) : (sDropX (eCallX F_look_many (aCons (oE (eV 0)) (aCons (oE (eV 1)) aNil)))) [.sh r, .sh q, s2, s3] = .nx [.sh r, .sh q, s2, s3] := by
  walk_at "evh"
theorem bar_s2 {r q : D} {s2 s3 : Sl} {C E : List D} (e1 : F_wrong_changes [r, q] = some C) (e2 : F_wrong_orders [r, q] = some E) (z : 2 ≤ sizeLine) (it : ∀ x y : D, itemsD (.tuple [x, y]) = some [x, y]) :
    (gSeq (eT (eSeq (aCons (oE (eT (eSeq (aCons (oE (eC (.str "change"))) (aCons (oE (eL (eCall F_wrong_changes (aCons (oE (eV 0)) (aCons (oE (eV 1)) aNil))))) aNil))))) (aCons (oE (eT (eSeq (aCons (oE (eC (.str "order"))) (aCons (oE (eL (eCall F_wrong_orders (aCons (oE (eV 0)) (aCons (oE (eV 1)) aNil))))) aNil))))) aNil))))) [.sh r, .sh q, s2, s3] = .ok [.tuple [.str "change", .list C], .tuple [.str "order", .list E]] [.sh r, .sh q, s2, s3] := by
  walk_at "evh"
theorem bar_s3 {r q : D} {s2 s3 : Sl} {C : List D} (e1 : F_wrong_runs [r, q] = some C) : (sSet 3 (eL (eCall F_wrong_runs (aCons (oE (eV 0)) (aCons (oE (eV 1)) aNil))))) [.sh r, .sh q, s2, s3] = .nx [.sh r, .sh q, s2, .sh (.list C)] := by
  walk_at "evh"
theorem bar_s4 {s0 s1 s2 : Sl} {x : Int} {xs : List Int} (z : 2 ≤ sizeLine) : (sRet (eIf (tstE (eOp2 gtD (oE (eApp lenD (aCons (oE (eV 3)) aNil))) (oE (eC (.int 0))))) (eT (eSeq (aCons (oE (eC (.str "run"))) (aCons (oE (eOp2 ixD (oE (eV 3)) (oE (eC (.int 0))))) aNil)))) (eC .none))) [s0, s1, s2, .sh (.list ((x :: xs).map .int))] = .rt (.tuple [.str "run", .int x]) [s0, s1, s2, .sh (.list ((x :: xs).map .int))] := by
  have ln : lenD [.list ((x :: xs).map .int)] = some (.int ((xs.length : Int) + 1)) := by rw [lenD_list, List.length_map]; rfl
  have d : decide ((0 : Int) < (xs.length : Int) + 1) = true := decide_eq_true (by omega)
  have ix : ixD (.list ((x :: xs).map .int)) (.int 0) = some (.int x) := by rw [ixD_list]; exact atI_nat0 _ _
  generalize (xs.length : Int) + 1 = j at *
  generalize PyData.list ((x :: xs).map .int) = L at *
  walk_at "evh"
theorem bar_s5 {s0 s1 s2 : Sl} : (sRet (eIf (tstE (eOp2 gtD (oE (eApp lenD (aCons (oE (eV 3)) aNil))) (oE (eC (.int 0))))) (eT (eSeq (aCons (oE (eC (.str "run"))) (aCons (oE (eOp2 ixD (oE (eV 3)) (oE (eC (.int 0))))) aNil)))) (eC .none))) [s0, s1, s2, .sh (.list [])] = .rt .none [s0, s1, s2, .sh (.list [])] := by
  have ln : lenD [.list []] = some (.int 0) := rfl
  have d : decide ((0 : Int) < 0) = false := rfl
  generalize PyData.list [] = L at *
  walk_at "evh"
theorem bar_eq {r q : D} {ns ms : List Int} (hr : Sq r (ns.map .int)) (hq : Sq q (ms.map .int)) (h : ms.length = ns.length) (hl : ns.length ≤ 1000) : F_bar [r, q] = .ok (barD ns ms) := by
  have e0 := many_ok hr.leni (h ▸ hq.leni)
  have e1 := wch_eq hr hq h hl
  have e2 := wor_eq hr hq h hl
  have e3 := wr_eq hr hq h hl
  have bf := bar_for (s0 := .sh r) (s1 := .sh q) (A := chL ns ms) (B := orL ns ms)
  unfold F_bar
  obtain ⟨ρ, hg⟩ : ∃ ρ, g_bar [.sh r, .sh q, .no, .no] = .rt (barD ns ms) ρ := by
    unfold g_bar barD
    cases h1 : chL ns ms with
    | cons x xs =>
      rw [h1] at bf e1
      exact ⟨_, seq_nx (bar_s1 e0) (seq_rt ((sFor_to (bar_s2 e1 e2 (by decide) fun _ _ => rfl) bf)))⟩
    | nil =>
      rw [h1] at bf e1
      cases h2 : orL ns ms with
      | cons x xs =>
        rw [h2] at bf e2
        exact ⟨_, seq_nx (bar_s1 e0) (seq_rt ((sFor_to (bar_s2 e1 e2 (by decide) fun _ _ => rfl) bf)))⟩
      | nil =>
        rw [h2] at bf e2
        cases h3 : wrL ns ms with
        | cons x xs =>
          rw [h3] at e3
          exact ⟨_, seq_nx (bar_s1 e0) (seq_nx ((sFor_to (bar_s2 e1 e2 (by decide) fun _ _ => rfl) bf)) (seq_nx (bar_s3 e3) (bar_s4 (by decide))))⟩
        | nil =>
          rw [h3] at e3
          exact ⟨_, seq_nx (bar_s1 e0) (seq_nx ((sFor_to (bar_s2 e1 e2 (by decide) fun _ _ => rfl) bf)) (seq_nx (bar_s3 e3) bar_s5))⟩
  exact callX_rt rfl hg
theorem barD_is (ns ms : List Int) : barD ns ms = .none ∨ ∃ w x, barD ns ms = .tuple [.str w, .int x] := by
  unfold barD
  split
  · exact .inr ⟨_, _, rfl⟩
  · split
    · exact .inr ⟨_, _, rfl⟩
    · split
      · exact .inr ⟨_, _, rfl⟩
      · exact .inl rfl
end W

namespace W
open PySem L2 DL
local macro_rules | `(tactic| walk_at "ev") => `(tactic| simp only [eC, eV, oE, oV, eL, eT, aNil, aCons, eOp2, eOp1, eApp, tstE, eB, tNotG, tAndG, tOrG, eAndG, eOrG, eNotG, eIf, eSeq, eCall, eCallO, eCallB, eCallBF, eCallBX, sSeq, sNext, sRet, sRetF, sRetO, sRetN, sDrop, sIf, sSet, sSetO, sBreak, sCont, sBad, sPar, sPar3, fz, sFz, eCallW, idL, sApp, sPutIx, sAug, sFor, gN, gT, gsCons, gsNil, gYes, eLc, gSeq, nS, nF, Nw.sl, R.ok_bind, R.ok_map, R.lift_some, to_ok, toX_ok, toX_ex, bind_nx, bind_rt, bind_rf, bind_ex, bind_bk, bind_ct, at_ok, at_ex, res_val, map_ex, rbind_ex, Op.res, resA, valA, isOw, box0, Option.map_some, Option.bind_some, sHeardT, nlCons, nlNil, Nw.dat, mSet, eChain, eRg1, eRg2, eSl, pNo, pSo,
  List.getElem?_cons_zero, List.getElem?_cons_succ, List.set_cons_zero, List.set_cons_succ, List.length_cons, List.length_nil, if_true, if_false, Bool.false_eq_true, ite_true, ite_false, reduceIte,
  addU_int, subD_int, ltD_int, leD_int, gtD_int, geD_int, negD_int, absD_int, intD_bool, intD_int, lenD_list, lenD_tuple, lenD_scr, pow10_7, pow10_18, pow10_40, eqW_ints, neW_ints, eqW_strs, neW_strs, eqW_none, eqW_in, eqW_ni, ixD_list, ixD_tuple, ixD_scr, atI_3_0, atI_3_1, atI_3_2, ixN_3_0, ixN_3_1, ixN_3_2, wipeR, zip2D, skOf, isiD_n, isiD_b, isiD_i, isiD_s, isiD_l, isiD_t, isiTD_n, isiTD_b, isiTD_i, isiTD_s, isiTD_l, isiTD_t, isiAny, eCallX, eCallWX, xE, xIf, xL, xCb1, sSetX, sRetX, sDropX, sRaise, sTo, eMk, isX_n, sKeep, kt_ll, kt_lt, kt_ls, kt_li, kt_lb, kt_tl, kt_tt, kt_ts, kt_ti, kt_tb, kt_sl, kt_st, kt_ss, kt_si, kt_sb, kt_il, kt_it, kt_is, kt_ii, kt_ib, kt_bl, kt_bt, kt_bs, kt_bi, kt_bb, kt_nl, kt_nt, kt_ns, kt_ni, kt_nb, eqW_bools, neW_bools, isD_none, isNotD_none, isNoneD, isNone_e, List.map_cons, List.map_nil, List.replicate, List.append_nil, List.cons_append, List.nil_append, nc0, nc1, nc2, nc3, nc4, nc5, nc6, nc7, nc8, nc9, nc10, nc11, nc12, nc13, nc14, nc15, nc16, nc17, nc18, nc19, nc20, Nat.reduceAdd, Nat.reduceSub, ne_eq, decide_true, decide_false, not_true_eq_false, not_false_eq_true, reduceCtorEq, Bool.and_true, Bool.true_and, Bool.and_false, Bool.false_and, Bool.or_true, Bool.true_or, Bool.or_false, Bool.false_or, Bool.not_true, Bool.not_false, isF, List.all_cons, List.all_nil, and_self, and_true, true_and, lcL, Nat.reduceLT])
local macro_rules | `(tactic| walk_at "evh") => `(tactic| simp only [eC, eV, oE, oV, eL, eT, aNil, aCons, eOp2, eOp1, eApp, tstE, eB, tNotG, tAndG, tOrG, eAndG, eOrG, eNotG, eIf, eSeq, eCall, eCallO, eCallB, eCallBF, eCallBX, sSeq, sNext, sRet, sRetF, sRetO, sRetN, sDrop, sIf, sSet, sSetO, sBreak, sCont, sBad, sPar, sPar3, fz, sFz, eCallW, idL, sApp, sPutIx, sAug, sFor, gN, gT, gsCons, gsNil, gYes, eLc, gSeq, nS, nF, Nw.sl, R.ok_bind, R.ok_map, R.lift_some, to_ok, toX_ok, toX_ex, bind_nx, bind_rt, bind_rf, bind_ex, bind_bk, bind_ct, at_ok, at_ex, res_val, map_ex, rbind_ex, Op.res, resA, valA, isOw, box0, Option.map_some, Option.bind_some, sHeardT, nlCons, nlNil, Nw.dat, mSet, eChain, eRg1, eRg2, eSl, pNo, pSo,
  List.getElem?_cons_zero, List.getElem?_cons_succ, List.set_cons_zero, List.set_cons_succ, List.length_cons, List.length_nil, if_true, if_false, Bool.false_eq_true, ite_true, ite_false, reduceIte,
  addU_int, subD_int, ltD_int, leD_int, gtD_int, geD_int, negD_int, absD_int, intD_bool, intD_int, lenD_list, lenD_tuple, lenD_scr, pow10_7, pow10_18, pow10_40, eqW_ints, neW_ints, eqW_strs, neW_strs, eqW_none, eqW_in, eqW_ni, ixD_list, ixD_tuple, ixD_scr, atI_3_0, atI_3_1, atI_3_2, ixN_3_0, ixN_3_1, ixN_3_2, wipeR, zip2D, skOf, isiD_n, isiD_b, isiD_i, isiD_s, isiD_l, isiD_t, isiTD_n, isiTD_b, isiTD_i, isiTD_s, isiTD_l, isiTD_t, isiAny, eCallX, eCallWX, xE, xIf, xL, xCb1, sSetX, sRetX, sDropX, sRaise, sTo, eMk, isX_n, sKeep, kt_ll, kt_lt, kt_ls, kt_li, kt_lb, kt_tl, kt_tt, kt_ts, kt_ti, kt_tb, kt_sl, kt_st, kt_ss, kt_si, kt_sb, kt_il, kt_it, kt_is, kt_ii, kt_ib, kt_bl, kt_bt, kt_bs, kt_bi, kt_bb, kt_nl, kt_nt, kt_ns, kt_ni, kt_nb, eqW_bools, neW_bools, isD_none, isNotD_none, isNoneD, isNone_e, List.map_cons, List.map_nil, List.replicate, List.append_nil, List.cons_append, List.nil_append, nc0, nc1, nc2, nc3, nc4, nc5, nc6, nc7, nc8, nc9, nc10, nc11, nc12, nc13, nc14, nc15, nc16, nc17, nc18, nc19, nc20, Nat.reduceAdd, Nat.reduceSub, ne_eq, decide_true, decide_false, not_true_eq_false, not_false_eq_true, reduceCtorEq, Bool.and_true, Bool.true_and, Bool.and_false, Bool.false_and, Bool.or_true, Bool.true_or, Bool.or_false, Bool.false_or, Bool.not_true, Bool.not_false, isF, List.all_cons, List.all_nil, and_self, and_true, true_and, lcL, Nat.reduceLT, *])
/-! the law's own runs -/
theorem runsOf_app : ∀ (b : List Int) (i : Int), runsOf (b ++ [i]) (i + 1) = runsOf b i ++ [(i, i)]
  | [], i => by show [(i, i + 1 - 1)] = _; rw [show i + 1 - 1 = i by omega]; rfl
  | [x], i => by show [(x, i - 1), (i, i + 1 - 1)] = _; rw [show i + 1 - 1 = i by omega]; rfl
  | x :: y :: r, i => by
    have ih := runsOf_app (y :: r) i
    show (x, y - 1) :: runsOf ((y :: r) ++ [i]) (i + 1) = (x, y - 1) :: (runsOf (y :: r) i ++ [(i, i)])
    rw [ih]
theorem runsOf_split : ∀ (b : List Int), b ≠ [] → ∃ l f, ∀ n : Int, runsOf b n = l ++ [(f, n - 1)]
  | [], h => absurd rfl h
  | [x], _ => ⟨[], x, fun n => rfl⟩
  | x :: y :: r, _ => by
    obtain ⟨l, f, h⟩ := runsOf_split (y :: r) (by simp)
    exact ⟨(x, y - 1) :: l, f, fun n => by show (x, y - 1) :: runsOf (y :: r) n = _; rw [h]; rfl⟩
theorem begs_succ (ns : List Int) (i : Nat) : begs ns (i + 1) = begs ns i ++ (if isBeg ns i then [(i : Int)] else []) := by
  unfold begs
  rw [rngI_succ, List.filter_append, Int.zero_add]
  congr 1
  rw [List.filter_cons]; rfl
theorem begs_ne (ns : List Int) : ∀ i : Nat, 0 < i → begs ns i ≠ []
  | 0, h => absurd h (by omega)
  | 1, _ => by
    unfold begs rngI
    simp [isBeg]
  | i + 2, _ => by
    rw [begs_succ]
    intro z
    exact begs_ne ns (i + 1) (by omega) (List.append_eq_nil_iff.mp z).1
def heapsD (ns : List Int) (i : Nat) : List D := (runsOf (begs ns i) i).map prD
theorem heaps_len (ns : List Int) (i : Nat) : (heapsD ns i).length ≤ i := by
  unfold heapsD
  rw [List.length_map, runs_len]
  exact begs_len ns i
theorem hs_put {r : D} {j a b f g : Int} {X Y : List D} {k : Nat} (ix1 : ixD r (.int j) = some (.int a)) (ix2 : ixD r (.int (j - 1)) = some (.int b)) (d0 : decide (0 < j) = true) (d1 : decide (a = b) = true) (la : atI X (-1) = some (.tuple [.int f, .int g])) (li : ixN X.length (-1) = some k)
    (a0 : atI [PyData.int f, .int g] 0 = some (.int f)) (st : X.set k (.tuple [.int f, .int j]) = Y) (sz : 2 ≤ sizeLine) : gb__law_heaps_1 [.sh r, .ow X, .sh (.int j)] = .nx [.sh r, .ow Y, .sh (.int j)] := by
  unfold gb__law_heaps_1
  walk_at "evh"
theorem hs_app0 {r : D} {j : Int} {X : List D} (d0 : decide (0 < j) = false) (sz : 2 ≤ sizeLine) (hl : X.length < sizeLine) : gb__law_heaps_1 [.sh r, .ow X, .sh (.int j)] = .nx [.sh r, .ow (X ++ [.tuple [.int j, .int j]]), .sh (.int j)] := by
  unfold gb__law_heaps_1
  walk_at "evh"
theorem hs_app1 {r : D} {j a b : Int} {X : List D} (ix1 : ixD r (.int j) = some (.int a)) (ix2 : ixD r (.int (j - 1)) = some (.int b)) (d0 : decide (0 < j) = true) (d1 : decide (a = b) = false) (sz : 2 ≤ sizeLine) (hl : X.length < sizeLine) : gb__law_heaps_1 [.sh r, .ow X, .sh (.int j)] = .nx [.sh r, .ow (X ++ [.tuple [.int j, .int j]]), .sh (.int j)] := by
  unfold gb__law_heaps_1
  walk_at "evh"
theorem heaps_step {r : D} {ns : List Int} {i : Nat} (hr : Sq r (ns.map .int)) (hi : i < ns.length) (hl : ns.length ≤ 1000) : gb__law_heaps_1 [.sh r, .ow (heapsD ns i), .sh (.int (i : Int))] = .nx [.sh r, .ow (heapsD ns (i + 1)), .sh (.int (i : Int))] := by
  have sz2 : (2 : Nat) ≤ sizeLine := by decide
  have hlen : (heapsD ns i).length < sizeLine := Nat.lt_of_le_of_lt (heaps_len ns i) (Nat.lt_of_lt_of_le hi (Nat.le_trans hl (by decide)))
  have app : isBeg ns i = true → heapsD ns (i + 1) = heapsD ns i ++ [.tuple [.int (i : Int), .int (i : Int)]] := fun hb => by
    unfold heapsD
    rw [begs_succ, hb, if_pos rfl, show ((i + 1 : Nat) : Int) = (i : Int) + 1 by omega, runsOf_app, List.map_append]; rfl
  by_cases h0 : i = 0
  · subst h0
    rw [app rfl]
    exact hs_app0 rfl sz2 hlen
  · have ix1 := hr.ix (i := (i : Int)) (by omega) (by omega)
    have ix2 := hr.ix (i := (i : Int) - 1) (by omega) (by omega)
    have d0 : decide ((0 : Int) < (i : Int)) = true := decide_eq_true (by omega)
    have hne := begs_ne ns i (by omega)
    by_cases hb : nat ns i = nat ns ((i : Int) - 1)
    · have hbeg : isBeg ns i = false := by unfold isBeg; rw [decide_eq_true hb, decide_eq_false (by omega : ¬ (i : Int) = 0)]; rfl
      obtain ⟨l, f, hs⟩ := runsOf_split _ hne
      have h1 : heapsD ns i = l.map prD ++ [.tuple [.int f, .int ((i : Int) - 1)]] := by unfold heapsD; rw [hs, List.map_append]; rfl
      have h2 : heapsD ns (i + 1) = l.map prD ++ [.tuple [.int f, .int (i : Int)]] := by
        unfold heapsD
        rw [begs_succ, hbeg, if_neg (by simp), List.append_nil, hs, List.map_append, show ((i + 1 : Nat) : Int) - 1 = (i : Int) by omega]; rfl
      refine hs_put ix1 ix2 d0 (decide_eq_true hb) (f := f) (g := (i : Int) - 1) (k := (l.map prD).length) ?_ ?_ rfl ?_ sz2
      · rw [h1]; exact DL.atI_last _ _
      · rw [h1]; exact DL.ixN_last _ _
      · rw [h1, h2]; simp
    · rw [app (by unfold isBeg; rw [decide_eq_false hb]; simp)]
      exact hs_app1 ix1 ix2 d0 (decide_eq_false hb) sz2 hlen
theorem heaps_go {r : D} {j : Int} {L : List D} {f : List D} {s2 : Sl} (hj : lenD [r] = some (.int j)) (rg : rng1 [.int j] = some L) (e : forL (gN 2) gb__law_heaps_1 L [.sh r, .ow [], .no] = .nx [.sh r, .ow f, s2]) (sz : 0 ≤ sizeLine) : F__law_heaps [r] = some f := by
  unfold F__law_heaps callF g__law_heaps env0
  walk_at "evh"
theorem heaps_eq {r : D} {ns : List Int} (hr : Sq r (ns.map .int)) (hl : ns.length ≤ 1000) : F__law_heaps [r] = some ((runsOf (begs ns ns.length) ns.length).map prD) := by
  obtain ⟨j, hj, ej⟩ := hr.len
  rw [List.length_map] at ej
  obtain ⟨ρ', e3, s2, rfl⟩ := for_inv (k := gN 2) (b := gb__law_heaps_1) (ds := rangeD 0 ns.length)
    (fun i ρ => ∃ s2, ρ = [.sh r, .ow (heapsD ns i), s2])
    (fun i d ρ hd h => by
      obtain ⟨rfl, hi⟩ := rangeD_at hd
      obtain ⟨s2, rfl⟩ := h
      exact ⟨_, rfl, _, .inl (heaps_step hr hi hl), _, rfl⟩)
    (ρ := [.sh r, .ow [], .no]) ⟨.no, rfl⟩
  rw [rangeD_len] at e3
  exact heaps_go hj (by rw [ej]; exact rng1_eq (by omega) (by omega)) e3 (by decide)
end W

namespace W
open PySem L2 DL
local macro_rules | `(tactic| walk_at "ev") => `(tactic| simp only [eC, eV, oE, oV, eL, eT, aNil, aCons, eOp2, eOp1, eApp, tstE, eB, tNotG, tAndG, tOrG, eAndG, eOrG, eNotG, eIf, eSeq, eCall, eCallO, eCallB, eCallBF, eCallBX, sSeq, sNext, sRet, sRetF, sRetO, sRetN, sDrop, sIf, sSet, sSetO, sBreak, sCont, sBad, sPar, sPar3, fz, sFz, eCallW, idL, sApp, sPutIx, sAug, sFor, gN, gT, gsCons, gsNil, gYes, eLc, gSeq, nS, nF, Nw.sl, R.ok_bind, R.ok_map, R.lift_some, to_ok, toX_ok, toX_ex, bind_nx, bind_rt, bind_rf, bind_ex, bind_bk, bind_ct, at_ok, at_ex, res_val, map_ex, rbind_ex, Op.res, resA, valA, isOw, box0, Option.map_some, Option.bind_some, sHeardT, nlCons, nlNil, Nw.dat, mSet, eChain, eRg1, eRg2, eSl, pNo, pSo,
  List.getElem?_cons_zero, List.getElem?_cons_succ, List.set_cons_zero, List.set_cons_succ, List.length_cons, List.length_nil, if_true, if_false, Bool.false_eq_true, ite_true, ite_false, reduceIte,
  addU_int, subD_int, ltD_int, leD_int, gtD_int, geD_int, negD_int, absD_int, intD_bool, intD_int, lenD_list, lenD_tuple, lenD_scr, pow10_7, pow10_18, pow10_40, eqW_ints, neW_ints, eqW_strs, neW_strs, eqW_none, eqW_in, eqW_ni, ixD_list, ixD_tuple, ixD_scr, atI_3_0, atI_3_1, atI_3_2, ixN_3_0, ixN_3_1, ixN_3_2, wipeR, zip2D, skOf, isiD_n, isiD_b, isiD_i, isiD_s, isiD_l, isiD_t, isiTD_n, isiTD_b, isiTD_i, isiTD_s, isiTD_l, isiTD_t, isiAny, eCallX, eCallWX, xE, xIf, xL, xCb1, sSetX, sRetX, sDropX, sRaise, sTo, eMk, isX_n, sKeep, kt_ll, kt_lt, kt_ls, kt_li, kt_lb, kt_tl, kt_tt, kt_ts, kt_ti, kt_tb, kt_sl, kt_st, kt_ss, kt_si, kt_sb, kt_il, kt_it, kt_is, kt_ii, kt_ib, kt_bl, kt_bt, kt_bs, kt_bi, kt_bb, kt_nl, kt_nt, kt_ns, kt_ni, kt_nb, eqW_bools, neW_bools, isD_none, isNotD_none, isNoneD, isNone_e, List.map_cons, List.map_nil, List.replicate, List.append_nil, List.cons_append, List.nil_append, nc0, nc1, nc2, nc3, nc4, nc5, nc6, nc7, nc8, nc9, nc10, nc11, nc12, nc13, nc14, nc15, nc16, nc17, nc18, nc19, nc20, Nat.reduceAdd, Nat.reduceSub, ne_eq, decide_true, decide_false, not_true_eq_false, not_false_eq_true, reduceCtorEq, Bool.and_true, Bool.true_and, Bool.and_false, Bool.false_and, Bool.or_true, Bool.true_or, Bool.or_false, Bool.false_or, Bool.not_true, Bool.not_false, ePopAt, and_self, if_true])
local macro_rules | `(tactic| walk_at "evh") => `(tactic| simp only [eC, eV, oE, oV, eL, eT, aNil, aCons, eOp2, eOp1, eApp, tstE, eB, tNotG, tAndG, tOrG, eAndG, eOrG, eNotG, eIf, eSeq, eCall, eCallO, eCallB, eCallBF, eCallBX, sSeq, sNext, sRet, sRetF, sRetO, sRetN, sDrop, sIf, sSet, sSetO, sBreak, sCont, sBad, sPar, sPar3, fz, sFz, eCallW, idL, sApp, sPutIx, sAug, sFor, gN, gT, gsCons, gsNil, gYes, eLc, gSeq, nS, nF, Nw.sl, R.ok_bind, R.ok_map, R.lift_some, to_ok, toX_ok, toX_ex, bind_nx, bind_rt, bind_rf, bind_ex, bind_bk, bind_ct, at_ok, at_ex, res_val, map_ex, rbind_ex, Op.res, resA, valA, isOw, box0, Option.map_some, Option.bind_some, sHeardT, nlCons, nlNil, Nw.dat, mSet, eChain, eRg1, eRg2, eSl, pNo, pSo,
  List.getElem?_cons_zero, List.getElem?_cons_succ, List.set_cons_zero, List.set_cons_succ, List.length_cons, List.length_nil, if_true, if_false, Bool.false_eq_true, ite_true, ite_false, reduceIte,
  addU_int, subD_int, ltD_int, leD_int, gtD_int, geD_int, negD_int, absD_int, intD_bool, intD_int, lenD_list, lenD_tuple, lenD_scr, pow10_7, pow10_18, pow10_40, eqW_ints, neW_ints, eqW_strs, neW_strs, eqW_none, eqW_in, eqW_ni, ixD_list, ixD_tuple, ixD_scr, atI_3_0, atI_3_1, atI_3_2, ixN_3_0, ixN_3_1, ixN_3_2, wipeR, zip2D, skOf, isiD_n, isiD_b, isiD_i, isiD_s, isiD_l, isiD_t, isiTD_n, isiTD_b, isiTD_i, isiTD_s, isiTD_l, isiTD_t, isiAny, eCallX, eCallWX, xE, xIf, xL, xCb1, sSetX, sRetX, sDropX, sRaise, sTo, eMk, isX_n, sKeep, kt_ll, kt_lt, kt_ls, kt_li, kt_lb, kt_tl, kt_tt, kt_ts, kt_ti, kt_tb, kt_sl, kt_st, kt_ss, kt_si, kt_sb, kt_il, kt_it, kt_is, kt_ii, kt_ib, kt_bl, kt_bt, kt_bs, kt_bi, kt_bb, kt_nl, kt_nt, kt_ns, kt_ni, kt_nb, eqW_bools, neW_bools, isD_none, isNotD_none, isNoneD, isNone_e, List.map_cons, List.map_nil, List.replicate, List.append_nil, List.cons_append, List.nil_append, nc0, nc1, nc2, nc3, nc4, nc5, nc6, nc7, nc8, nc9, nc10, nc11, nc12, nc13, nc14, nc15, nc16, nc17, nc18, nc19, nc20, Nat.reduceAdd, Nat.reduceSub, ne_eq, decide_true, decide_false, not_true_eq_false, not_false_eq_true, reduceCtorEq, Bool.and_true, Bool.true_and, Bool.and_false, Bool.false_and, Bool.or_true, Bool.true_or, Bool.or_false, Bool.false_or, Bool.not_true, Bool.not_false, ePopAt, and_self, if_true, *])
/-! items in a random order; rows that follow -/
theorem while_f {c : GT} {b : GS} {n : Nat} {ρ ρ1 : Rho} (h : c ρ = .ok false ρ1) : whileL c b (n + 1) ρ = .nx ρ1 := by
  show (c ρ).to _ = _
  rw [h]; rfl
theorem while_t {c : GT} {b : GS} {n : Nat} {ρ ρ1 ρ2 : Rho} {o : O} (h : c ρ = .ok true ρ1) (h2 : b ρ1 = .nx ρ2) (h3 : whileL c b n ρ2 = o) : whileL c b (n + 1) ρ = o := by
  show (c ρ).to _ = _
  rw [h]
  show (match b ρ1 with | .nx ρ2 => whileL c b n ρ2 | .ct ρ2 => whileL c b n ρ2 | .bk ρ2 => .nx ρ2 | o => o) = _
  rw [h2]; exact h3
theorem seqIx_nat {k : Int} {n : Nat} (h0 : 0 ≤ k) (h1 : k < n) : seqIndex? k n = some k.toNat := by
  unfold seqIndex?
  have e : (if k < 0 then k + (n : Int) else k) = k := if_neg (by omega)
  show (if (decide (0 ≤ (if k < 0 then k + (n : Int) else k)) && decide ((if k < 0 then k + (n : Int) else k) < n)) = true then some (if k < 0 then k + (n : Int) else k).toNat else none) = _
  rw [e, if_pos (by rw [decide_eq_true h0, decide_eq_true h1]; rfl)]
theorem sw_step {box box1 L L' found : List D} {so : Sl} {k : Int} {j : Nat} {y : D} (e : F__law_take 8 box [.int (L.length : Int)] = some (.int k, box1)) (sq : seqIndex? k L.length = some j) (hy : L[j]? = some y) (k0 : -(2 ^ 63) ≤ k) (k1 : k < 2 ^ 63) (hL : L.eraseIdx j = L') (hz : found.length < sizeLine) :
    gb__law_strewn_2 [.ow box, so, .ow L, .ow found] = .nx [.ow box1, so, .ow L', .ow (found ++ [y])] := by
  unfold gb__law_strewn_2
  walk_at "evh"
theorem sw_test {box L found : List D} {so : Sl} {k : Bool} (h : neW (.list L) (.list []) = some (.bool k)) (z : 0 ≤ sizeLine) : wt__law_strewn_1 [.ow box, so, .ow L, .ow found] = .ok k [.ow box, so, .ow L, .ow found] := by
  unfold wt__law_strewn_1
  walk_at "evh"
/-- lists of these can be compared -/
def Cmp0 (xs : List D) : Prop := ∀ l : List D, (∀ x ∈ l, x ∈ xs) → neW (.list l) (.list []) = some (.bool (!decide (l = [])))
theorem sw_while {so : Sl} {xs : List D} (hc : Cmp0 xs) : ∀ (m : Nat) {f : Nat} {n : Int} {box L found : List D}, L.length = m → m < f → (∀ x ∈ L, x ∈ xs) → found.length + m ≤ 10000 → GoodBox n box → n + 8 * m < 2 ^ 38 →
    ∃ ys box', whileL wt__law_strewn_1 gb__law_strewn_2 f [.ow box, so, .ow L, .ow found] = .nx [.ow box', so, .ow [], .ow (found ++ ys)] ∧ ys.length = m ∧ (∀ y ∈ ys, y ∈ xs) ∧ GoodBox (n + 8 * m) box'
  | 0, f + 1, n, box, L, found, hm, hf, hL, hz, g, hn => by
    have e : L = [] := List.length_eq_zero_iff.mp hm
    subst e
    refine ⟨[], box, ?_, rfl, fun y hy => (nomatch hy), g.mono (by omega)⟩
    rw [List.append_nil]
    exact while_f (sw_test (hc [] hL) (by decide))
  | m + 1, f + 1, n, box, L, found, hm, hf, hL, hz, g, hn => by
    have ne : L ≠ [] := fun z => by rw [z] at hm; cases hm
    obtain ⟨k, box1, e, k0, k1, g1⟩ := take8 (span := (L.length : Int)) g (by omega) (by omega) (by omega)
    have hk : k.toNat < L.length := by omega
    have ht := hc L hL
    rw [decide_eq_false ne] at ht
    have st := sw_step (so := so) (found := found) e (seqIx_nat k0 k1) (List.getElem?_eq_getElem hk) (by omega) (by omega) rfl (size_lt (by omega))
    obtain ⟨ys, box', ew, ly, hy, g2⟩ := sw_while hc m (f := f) (L := L.eraseIdx k.toNat) (found := found ++ [L[k.toNat]]) (by rw [List.length_eraseIdx_of_lt hk]; omega) (by omega) (fun x hx => hL x (List.mem_of_mem_eraseIdx hx)) (by rw [List.length_append]; simp; omega) g1 (by omega)
    refine ⟨L[k.toNat] :: ys, box', ?_, by rw [List.length_cons, ly], fun y hy' => ?_, g2.mono (by omega)⟩
    · rw [show found ++ L[k.toNat] :: ys = (found ++ [L[k.toNat]]) ++ ys by rw [List.append_assoc]; rfl]
      exact while_t (sw_test ht (by decide)) st ew
    · rcases List.mem_cons.mp hy' with rfl | h
      · exact hL _ (List.getElem_mem hk)
      · exact hy y h
  | m, 0, n, box, L, found, hm, hf, hL, hz, g, hn => absurd hf (by omega)
theorem sw_go {box box' xs ys : List D} (ew : whileL wt__law_strewn_1 gb__law_strewn_2 1000 [.ow box, .sh (.list xs), .ow xs, .ow []] = .nx [.ow box', .sh (.list xs), .ow [], .ow ([] ++ ys)]) (z : 0 ≤ sizeLine) (li : listD [.list xs] = some xs) : F__law_strewn box [.list xs] = some (ys, box') := by
  unfold F__law_strewn callBF g__law_strewn envB
  walk_at "evh"
theorem strewn_eq {xs box : List D} {n : Int} (hc : Cmp0 xs) (hl : xs.length ≤ 900) (g : GoodBox n box) (hn : n < 2 ^ 37) : ∃ ys box', F__law_strewn box [.list xs] = some (ys, box') ∧ ys.length = xs.length ∧ (∀ y ∈ ys, y ∈ xs) ∧ GoodBox (n + 8 * xs.length) box' := by
  obtain ⟨ys, box', e, ly, hy, g2⟩ := sw_while (so := .sh (.list xs)) hc xs.length (f := 1000) (L := xs) (found := []) rfl (by omega) (fun x hx => hx) (by simp; omega) g (by omega)
  exact ⟨ys, box', sw_go e (by decide) rfl, ly, hy, g2⟩
theorem cmp0_ints (ns : List Int) : Cmp0 (ns.map .int) := fun l hl => by
  have : ∃ ms : List Int, l = ms.map .int := by
    induction l with
    | nil => exact ⟨[], rfl⟩
    | cons x l ih =>
      obtain ⟨ms, rfl⟩ := ih fun y hy => hl y (List.mem_cons_of_mem _ hy)
      obtain ⟨i, _, rfl⟩ := List.mem_map.mp (hl x List.mem_cons_self)
      exact ⟨i :: ms, rfl⟩
  obtain ⟨ms, rfl⟩ := this
  have := neW_li ms []
  rw [List.map_nil] at this
  rw [this]
  simp
/-! rows that follow -/
theorem mem_callN {ns : List Int} {i x : Int} (h0 : 0 ≤ i) (h1 : i < ns.length) (hx : x ∈ callN ns i) : x ∈ ns := by
  have nm : ∀ k : Int, 0 ≤ k → k < ns.length → nat ns k ∈ ns := fun k k0 k1 => by
    unfold nat
    have hk : k.toNat < ns.length := by omega
    rw [List.getElem?_eq_getElem hk]
    exact List.getElem_mem hk
  unfold callN at hx
  rcases List.mem_or_eq_of_mem_set hx with h | h
  · exact h
  · subst h
    unfold midN
    split
    · exact nm i h0 h1
    · rename_i hh
      rcases mid3_mem (nat ns (i - 1)) (nat ns i) (nat ns (i + 1)) with e | e | e <;> rw [e] <;> exact nm _ (by omega) (by omega)
theorem mem_runN : ∀ (tape : List Int) {ns : List Int} {x : Int}, (∀ i ∈ tape, 0 ≤ i ∧ i < ns.length) → x ∈ runN ns tape → x ∈ ns
  | [], _, _, _, h => h
  | i :: tape, ns, x, ht, h => by
    have hi := ht i List.mem_cons_self
    exact mem_callN hi.1 hi.2 (mem_runN tape (fun j hj => by rw [callN_len]; exact ht j (List.mem_cons_of_mem _ hj)) h)
theorem led_step {b0 s2 : Sl} {ns : List Int} {i : Int} (h0 : 0 ≤ i) (h1 : i < ns.length) (hl : ns.length ≤ 1000) : gb__law_led_1 [b0, .sh (.tuple (ns.map .int)), s2, .sh (.int i)] = .nx [b0, .sh (.tuple ((callN ns i).map .int)), s2, .sh (.int i)] := by
  have c := lcall_eq h0 h1 hl
  generalize PyData.tuple (ns.map .int) = L at *
  generalize PyData.tuple ((callN ns i).map .int) = L' at *
  clear h0 h1 hl
  unfold gb__law_led_1
  walk_at "evh"
theorem led_for {b0 s2 : Sl} : ∀ (tape : List Int) {ns : List Int} {s3 : Sl}, (∀ i ∈ tape, 0 ≤ i ∧ i < ns.length) → ns.length ≤ 1000 → ∃ s3', forL (gN 3) gb__law_led_1 (tape.map .int) [b0, .sh (.tuple (ns.map .int)), s2, s3] = .nx [b0, .sh (.tuple ((runN ns tape).map .int)), s2, s3']
  | [], ns, s3, _, _ => ⟨s3, rfl⟩
  | i :: tape, ns, s3, h, hl => by
    obtain ⟨h0, h1⟩ := h i List.mem_cons_self
    obtain ⟨s3', e⟩ := led_for tape (ns := callN ns i) (s3 := .sh (.int i)) (fun j hj => by rw [callN_len]; exact h j (List.mem_cons_of_mem _ hj)) (by rw [callN_len]; exact hl)
    exact ⟨s3', for_cons rfl (led_step h0 h1 hl) e⟩
theorem led_a {box box1 box2 : List D} {L T L' : D} {most : Int} (e1 : F__law_take 8 box [.int 2] = some (.int 0, box1)) (e2 : F__law_stroll box1 [L, .int most] = some (.tuple [T, L'], box2)) (ix : ixD (.tuple [T, L']) (.int 1) = some L') : F__law_led box [L, .int most] = some (L', box2) := by
  have d : decide ((0 : Int) = 0) = true := rfl
  unfold F__law_led callB g__law_led envB
  generalize PyData.tuple [T, L'] = P at *
  walk_at "evh"
theorem led_b {box box1 box2 : List D} {L L' : D} {most t j : Int} {Rg Sw : List D} {s3 : Sl} (e1 : F__law_take 8 box [.int 2] = some (.int t, box1)) (d : decide (t = 0) = false) (ln : lenD [L] = some (.int j)) (rg : rg2 (.int 0) (.int j) = some Rg) (e2 : F__law_strewn box1 [.list Rg] = some (Sw, box2))
    (f : forL (gN 3) gb__law_led_1 Sw [.ow box2, .sh L, .sh (.int most), .no] = .nx [.ow box2, .sh L', .sh (.int most), s3]) : F__law_led box [L, .int most] = some (L', box2) := by
  have it : itemsD (.list Sw) = some Sw := rfl
  unfold F__law_led callB g__law_led envB
  walk_at "evh"
theorem ints_of {ns : List Int} : ∀ {l : List D}, (∀ x ∈ l, x ∈ ns.map PyData.int) → ∃ ms : List Int, l = ms.map .int ∧ ∀ m ∈ ms, m ∈ ns
  | [], _ => ⟨[], rfl, fun m hm => nomatch hm⟩
  | x :: l, h => by
    obtain ⟨ms, e, hm⟩ := ints_of (l := l) fun y hy => h y (List.mem_cons_of_mem _ hy)
    obtain ⟨i, hi, rfl⟩ := List.mem_map.mp (h x List.mem_cons_self)
    exact ⟨i :: ms, by rw [e]; rfl, fun m hm' => (List.mem_cons.mp hm').elim (fun z => z ▸ hi) (hm m)⟩
theorem led_eq {n : Int} {box : List D} {ns : List Int} {most : Nat} (hb : GoodBox n box) (hn : n < 2 ^ 34) (hl : ns.length ≤ 900) (hm : most ≤ 900) :
    ∃ (tape : List Int) (box' : List D), F__law_led box [.tuple (ns.map .int), .int (most : Int)] = some (.tuple ((runN ns tape).map .int), box') ∧ (∀ i ∈ tape, 0 ≤ i ∧ i < ns.length) ∧ GoodBox (n + 16 + 8 * most + 8 * ns.length) box' := by
  obtain ⟨t, box1, e1, t0, t1, g1⟩ := take8 (span := 2) hb (by omega) (by omega) (by omega)
  by_cases h : t = 0
  · subst h
    obtain ⟨tape, box2, e2, _, hin, g2⟩ := stroll_eq (most := most) g1 (by omega) hl hm
    exact ⟨tape, box2, led_a e1 e2 rfl, hin, g2.mono (by omega)⟩
  · have rg : rg2 (.int 0) (.int (ns.length : Int)) = some ((rngI 0 ns.length).map .int) := by
      rw [← rngI_d]
      unfold rg2
      dsimp only
      rw [if_pos (by omega), Int.sub_zero, Int.toNat_natCast]
    obtain ⟨ys, box2, e2, ly, hy, g2⟩ := strewn_eq (xs := (rngI 0 ns.length).map .int) (cmp0_ints _) (by rw [List.length_map, rngI_len]; exact hl) g1 (by omega)
    obtain ⟨tape, rfl, ht⟩ := ints_of hy
    rw [List.length_map, rngI_len] at g2
    have hin : ∀ i ∈ tape, 0 ≤ i ∧ i < (ns.length : Int) := fun i hi => by have := mem_rngI (ht i hi); omega
    obtain ⟨s3, f⟩ := led_for (b0 := .ow box2) (s2 := .sh (.int (most : Int))) tape (ns := ns) (s3 := .no) hin (by omega)
    exact ⟨tape, box2, led_b e1 (decide_eq_false h) (Sq.t _).leni rg e2 f, hin, g2.mono (by omega)⟩
end W

namespace W
open PySem L2 DL
local macro_rules | `(tactic| walk_at "ev") => `(tactic| simp only [eC, eV, oE, oV, eL, eT, aNil, aCons, eOp2, eOp1, eApp, tstE, eB, tNotG, tAndG, tOrG, eAndG, eOrG, eNotG, eIf, eSeq, eCall, eCallO, eCallB, eCallBF, eCallBX, sSeq, sNext, sRet, sRetF, sRetO, sRetN, sDrop, sIf, sSet, sSetO, sBreak, sCont, sBad, sPar, sPar3, fz, sFz, eCallW, idL, sApp, sPutIx, sAug, sFor, gN, gT, gsCons, gsNil, gYes, eLc, gSeq, nS, nF, Nw.sl, R.ok_bind, R.ok_map, R.lift_some, to_ok, toX_ok, toX_ex, bind_nx, bind_rt, bind_rf, bind_ex, bind_bk, bind_ct, at_ok, at_ex, res_val, map_ex, rbind_ex, Op.res, resA, valA, isOw, box0, Option.map_some, Option.bind_some, sHeardT, nlCons, nlNil, Nw.dat, mSet, eChain, eRg1, eRg2, eSl, pNo, pSo,
  List.getElem?_cons_zero, List.getElem?_cons_succ, List.set_cons_zero, List.set_cons_succ, List.length_cons, List.length_nil, if_true, if_false, Bool.false_eq_true, ite_true, ite_false, reduceIte,
  addU_int, subD_int, ltD_int, leD_int, gtD_int, geD_int, negD_int, absD_int, intD_bool, intD_int, lenD_list, lenD_tuple, lenD_scr, pow10_7, pow10_18, pow10_40, eqW_ints, neW_ints, eqW_strs, neW_strs, eqW_none, eqW_in, eqW_ni, ixD_list, ixD_tuple, ixD_scr, atI_3_0, atI_3_1, atI_3_2, ixN_3_0, ixN_3_1, ixN_3_2, wipeR, zip2D, skOf, isiD_n, isiD_b, isiD_i, isiD_s, isiD_l, isiD_t, isiTD_n, isiTD_b, isiTD_i, isiTD_s, isiTD_l, isiTD_t, isiAny, eCallX, eCallWX, xE, xIf, xL, xCb1, sSetX, sRetX, sDropX, sRaise, sTo, eMk, isX_n, sKeep, kt_ll, kt_lt, kt_ls, kt_li, kt_lb, kt_tl, kt_tt, kt_ts, kt_ti, kt_tb, kt_sl, kt_st, kt_ss, kt_si, kt_sb, kt_il, kt_it, kt_is, kt_ii, kt_ib, kt_bl, kt_bt, kt_bs, kt_bi, kt_bb, kt_nl, kt_nt, kt_ns, kt_ni, kt_nb, eqW_bools, neW_bools, isD_none, isNotD_none, isNoneD, isNone_e, List.map_cons, List.map_nil, List.replicate, List.append_nil, List.cons_append, List.nil_append, nc0, nc1, nc2, nc3, nc4, nc5, nc6, nc7, nc8, nc9, nc10, nc11, nc12, nc13, nc14, nc15, nc16, nc17, nc18, nc19, nc20, Nat.reduceAdd, Nat.reduceSub, ne_eq, decide_true, decide_false, not_true_eq_false, not_false_eq_true, reduceCtorEq, Bool.and_true, Bool.true_and, Bool.and_false, Bool.false_and, Bool.or_true, Bool.true_or, Bool.or_false, Bool.false_or, Bool.not_true, Bool.not_false])
local macro_rules | `(tactic| walk_at "evh") => `(tactic| simp only [eC, eV, oE, oV, eL, eT, aNil, aCons, eOp2, eOp1, eApp, tstE, eB, tNotG, tAndG, tOrG, eAndG, eOrG, eNotG, eIf, eSeq, eCall, eCallO, eCallB, eCallBF, eCallBX, sSeq, sNext, sRet, sRetF, sRetO, sRetN, sDrop, sIf, sSet, sSetO, sBreak, sCont, sBad, sPar, sPar3, fz, sFz, eCallW, idL, sApp, sPutIx, sAug, sFor, gN, gT, gsCons, gsNil, gYes, eLc, gSeq, nS, nF, Nw.sl, R.ok_bind, R.ok_map, R.lift_some, to_ok, toX_ok, toX_ex, bind_nx, bind_rt, bind_rf, bind_ex, bind_bk, bind_ct, at_ok, at_ex, res_val, map_ex, rbind_ex, Op.res, resA, valA, isOw, box0, Option.map_some, Option.bind_some, sHeardT, nlCons, nlNil, Nw.dat, mSet, eChain, eRg1, eRg2, eSl, pNo, pSo,
  List.getElem?_cons_zero, List.getElem?_cons_succ, List.set_cons_zero, List.set_cons_succ, List.length_cons, List.length_nil, if_true, if_false, Bool.false_eq_true, ite_true, ite_false, reduceIte,
  addU_int, subD_int, ltD_int, leD_int, gtD_int, geD_int, negD_int, absD_int, intD_bool, intD_int, lenD_list, lenD_tuple, lenD_scr, pow10_7, pow10_18, pow10_40, eqW_ints, neW_ints, eqW_strs, neW_strs, eqW_none, eqW_in, eqW_ni, ixD_list, ixD_tuple, ixD_scr, atI_3_0, atI_3_1, atI_3_2, ixN_3_0, ixN_3_1, ixN_3_2, wipeR, zip2D, skOf, isiD_n, isiD_b, isiD_i, isiD_s, isiD_l, isiD_t, isiTD_n, isiTD_b, isiTD_i, isiTD_s, isiTD_l, isiTD_t, isiAny, eCallX, eCallWX, xE, xIf, xL, xCb1, sSetX, sRetX, sDropX, sRaise, sTo, eMk, isX_n, sKeep, kt_ll, kt_lt, kt_ls, kt_li, kt_lb, kt_tl, kt_tt, kt_ts, kt_ti, kt_tb, kt_sl, kt_st, kt_ss, kt_si, kt_sb, kt_il, kt_it, kt_is, kt_ii, kt_ib, kt_bl, kt_bt, kt_bs, kt_bi, kt_bb, kt_nl, kt_nt, kt_ns, kt_ni, kt_nb, eqW_bools, neW_bools, isD_none, isNotD_none, isNoneD, isNone_e, List.map_cons, List.map_nil, List.replicate, List.append_nil, List.cons_append, List.nil_append, nc0, nc1, nc2, nc3, nc4, nc5, nc6, nc7, nc8, nc9, nc10, nc11, nc12, nc13, nc14, nc15, nc16, nc17, nc18, nc19, nc20, Nat.reduceAdd, Nat.reduceSub, ne_eq, decide_true, decide_false, not_true_eq_false, not_false_eq_true, reduceCtorEq, Bool.and_true, Bool.true_and, Bool.and_false, Bool.false_and, Bool.or_true, Bool.true_or, Bool.or_false, Bool.false_or, Bool.not_true, Bool.not_false, *])
/-! a row that calls lead to is not barred -/
theorem mid3_top {l m r : Int} (h1 : l < m) (h2 : r < m) : (mid3 l m r = l ∨ mid3 l m r = r) ∧ l ≤ mid3 l m r ∧ r ≤ mid3 l m r := by
  simp only [mid3, srtI, insI]
  split <;> simp only [insI] <;> (repeat' split) <;> simp only [List.getElem?_cons_succ, List.getElem?_cons_zero, Option.getD_some, true_or, or_true, true_and] <;> omega
theorem mid3_dip {l m r : Int} (h1 : m < l) (h2 : m < r) : (mid3 l m r = l ∨ mid3 l m r = r) ∧ mid3 l m r ≤ l ∧ mid3 l m r ≤ r := by
  simp only [mid3, srtI, insI]
  split <;> simp only [insI] <;> (repeat' split) <;> simp only [List.getElem?_cons_succ, List.getElem?_cons_zero, Option.getD_some, true_or, or_true, true_and] <;> omega
theorem mid3_idle {l m r : Int} (h1 : ¬ (l < m ∧ r < m)) (h2 : ¬ (m < l ∧ m < r)) : mid3 l m r = m := by
  simp only [mid3, srtI, insI]
  split <;> simp only [insI] <;> (repeat' split) <;> simp only [List.getElem?_cons_succ, List.getElem?_cons_zero, Option.getD_some, true_or, or_true, true_and] <;> omega
def IsT (a : List Int) (p : Int) : Prop := 0 < p ∧ p + 1 < a.length ∧ nat a (p - 1) < nat a p ∧ nat a (p + 1) < nat a p
def IsD (a : List Int) (p : Int) : Prop := 0 < p ∧ p + 1 < a.length ∧ nat a p < nat a (p - 1) ∧ nat a p < nat a (p + 1)
/-- what a call does -/
theorem call_cases {b : List Int} {i : Int} (h0 : 0 ≤ i) (h1 : i < b.length) : callN b i = b ∨ (IsT b i ∧ (midN b i = nat b (i - 1) ∨ midN b i = nat b (i + 1)) ∧ nat b (i - 1) ≤ midN b i ∧ nat b (i + 1) ≤ midN b i) ∨ (IsD b i ∧ (midN b i = nat b (i - 1) ∨ midN b i = nat b (i + 1)) ∧ midN b i ≤ nat b (i - 1) ∧ midN b i ≤ nat b (i + 1)) := by
  by_cases he : i = 0 ∨ i = (b.length : Int) - 1
  · refine .inl ((callN_iff h0 h1).mpr ?_)
    unfold midN
    rw [if_pos he]
  · have em : midN b i = mid3 (nat b (i - 1)) (nat b i) (nat b (i + 1)) := by unfold midN; rw [if_neg he]
    by_cases ht : nat b (i - 1) < nat b i ∧ nat b (i + 1) < nat b i
    · have := mid3_top ht.1 ht.2
      rw [← em] at this
      exact .inr (.inl ⟨⟨by omega, by omega, ht⟩, this⟩)
    · by_cases hd : nat b i < nat b (i - 1) ∧ nat b i < nat b (i + 1)
      · have := mid3_dip hd.1 hd.2
        rw [← em] at this
        exact .inr (.inr ⟨⟨by omega, by omega, hd⟩, this⟩)
      · exact .inl ((callN_iff h0 h1).mpr (em.trans (mid3_idle ht hd)))
theorem nat_call {b : List Int} {i p : Int} (h0 : 0 ≤ i) (h1 : i < b.length) (hp : 0 ≤ p) : nat (callN b i) p = if p = i then midN b i else nat b p := by
  unfold callN
  rw [nat_set hp]
  by_cases e : p = i
  · rw [if_pos ⟨by omega, by omega⟩, if_pos e]
  · rw [if_neg (fun z => e (by omega)), if_neg e]
def Btw (p q r : Int) : Prop := (p ≤ r ∧ r ≤ q) ∨ (q ≤ r ∧ r ≤ p)
/-- a leads to b -/
structure Keep (a b : List Int) : Prop where
  len : b.length = a.length
  chg : ∀ p : Int, 0 ≤ p → p < a.length → nat a p = nat b p ∨ (IsT a p ∧ nat b p < nat a p) ∨ (IsD a p ∧ nat a p < nat b p)
  ord : ∀ p : Int, 0 ≤ p → p + 1 < a.length → (nat a p < nat a (p + 1) → nat b p ≤ nat b (p + 1)) ∧ (nat a (p + 1) < nat a p → nat b (p + 1) ≤ nat b p) ∧ (nat a p = nat a (p + 1) → nat b p = nat b (p + 1))
  run : ∀ p : Int, 0 ≤ p → p < a.length → ∃ q : Int, 0 ≤ q ∧ q < a.length ∧ nat a q = nat b q ∧ ∀ r, Btw p q r → nat b r = nat b p
theorem Keep.refl (a : List Int) : Keep a a := ⟨rfl, fun _ _ _ => .inl rfl, fun p _ _ => ⟨fun h => by omega, fun h => by omega, fun h => h⟩, fun p h0 h1 => ⟨p, h0, h1, rfl, fun r hr => by rw [show r = p by unfold Btw at hr; omega]⟩⟩
theorem Keep.runs {a b : List Int} {i m : Int} {c : List Int} (h : Keep a b) (h0 : 0 < i) (h1 : i + 1 < a.length) (n1 : nat b (i - 1) ≠ nat b i) (n2 : nat b (i + 1) ≠ nat b i) (hm : m = nat b (i - 1) ∨ m = nat b (i + 1)) (hc : ∀ p : Int, 0 ≤ p → nat c p = if p = i then m else nat b p) :
    ∀ p : Int, 0 ≤ p → p < a.length → ∃ q : Int, 0 ≤ q ∧ q < a.length ∧ nat a q = nat c q ∧ ∀ r, Btw p q r → nat c r = nat c p := by
  intro p hp0 hp1
  have cut : ∀ p q : Int, p ≠ i → (∀ r, Btw p q r → nat b r = nat b p) → ¬ Btw p q i := fun p q hp hr hb => by
    have e := hr i hb
    unfold Btw at hb
    rcases hb with hb | hb
    · have := hr (i - 1) (by unfold Btw; omega)
      exact n1 (by rw [this, e])
    · have := hr (i + 1) (by unfold Btw; omega)
      exact n2 (by rw [this, e])
  have go : ∀ j : Int, 0 ≤ j → j < a.length → j ≠ i → ∃ q : Int, 0 ≤ q ∧ q < a.length ∧ q ≠ i ∧ ¬ Btw j q i ∧ nat a q = nat c q ∧ ∀ r, Btw j q r → nat c r = nat b j := fun j j0 j1 ji => by
    obtain ⟨q, q0, q1, qs, qr⟩ := h.run j j0 j1
    have nb := cut j q ji qr
    have qi : q ≠ i := fun z => nb (by unfold Btw; omega)
    refine ⟨q, q0, q1, qi, nb, by rw [hc q q0, if_neg qi]; exact qs, fun r hr => ?_⟩
    have ri : r ≠ i := fun z => nb (z ▸ hr)
    rw [hc r (by unfold Btw at hr; omega), if_neg ri]
    exact qr r hr
  by_cases hp : p = i
  · subst hp
    rcases hm with hm | hm
    · obtain ⟨q, q0, q1, qi, nb, qs, qr⟩ := go (p - 1) (by omega) (by omega) (by omega)
      have ql : q ≤ p - 1 := by unfold Btw at nb; omega
      refine ⟨q, q0, q1, qs, fun r hr => ?_⟩
      rw [hc p (by omega), if_pos rfl]
      by_cases e : r = p
      · rw [e, hc p (by omega), if_pos rfl]
      · rw [hm]
        exact qr r (by unfold Btw at hr ⊢; omega)
    · obtain ⟨q, q0, q1, qi, nb, qs, qr⟩ := go (p + 1) (by omega) (by omega) (by omega)
      have ql : p + 1 ≤ q := by unfold Btw at nb; omega
      refine ⟨q, q0, q1, qs, fun r hr => ?_⟩
      rw [hc p (by omega), if_pos rfl]
      by_cases e : r = p
      · rw [e, hc p (by omega), if_pos rfl]
      · rw [hm]
        exact qr r (by unfold Btw at hr ⊢; omega)
  · obtain ⟨q, q0, q1, qi, nb, qs, qr⟩ := go p hp0 hp1 hp
    refine ⟨q, q0, q1, qs, fun r hr => ?_⟩
    rw [qr r hr, hc p hp0, if_neg hp]
theorem Keep.alone {a b : List Int} {i : Int} (h : Keep a b) (h0 : 0 < i) (h1 : i + 1 < a.length) (n1 : nat b (i - 1) ≠ nat b i) (n2 : nat b (i + 1) ≠ nat b i) : nat a i = nat b i := by
  obtain ⟨q, q0, q1, qs, qr⟩ := h.run i (by omega) (by omega)
  rcases Int.lt_trichotomy q i with hq | hq | hq
  · exact absurd (qr (i - 1) (by unfold Btw; omega)) n1
  · rw [← hq]; exact qs
  · exact absurd (qr (i + 1) (by unfold Btw; omega)) n2
theorem Keep.top {a b : List Int} {i : Int} (h : Keep a b) (t : IsT b i) : IsT a i ∧ nat a i = nat b i := by
  obtain ⟨t0, t1, t2, t3⟩ := t
  have hl := h.len
  have o1 := h.ord (i - 1) (by omega) (by omega)
  rw [show i - 1 + 1 = i by omega] at o1
  have o2 := h.ord i (by omega) (by omega)
  refine ⟨⟨t0, by omega, ?_, ?_⟩, h.alone t0 (by omega) (by omega) (by omega)⟩
  · rcases Int.lt_trichotomy (nat a (i - 1)) (nat a i) with e | e | e
    · exact e
    · have := o1.2.2 e; omega
    · have := o1.2.1 e; omega
  · rcases Int.lt_trichotomy (nat a (i + 1)) (nat a i) with e | e | e
    · exact e
    · have := o2.2.2 e.symm; omega
    · have := o2.1 e; omega
theorem Keep.dip {a b : List Int} {i : Int} (h : Keep a b) (t : IsD b i) : IsD a i ∧ nat a i = nat b i := by
  obtain ⟨t0, t1, t2, t3⟩ := t
  have hl := h.len
  have o1 := h.ord (i - 1) (by omega) (by omega)
  rw [show i - 1 + 1 = i by omega] at o1
  have o2 := h.ord i (by omega) (by omega)
  refine ⟨⟨t0, by omega, ?_, ?_⟩, h.alone t0 (by omega) (by omega) (by omega)⟩
  · rcases Int.lt_trichotomy (nat a i) (nat a (i - 1)) with e | e | e
    · exact e
    · have := o1.2.2 e.symm; omega
    · have := o1.1 e; omega
  · rcases Int.lt_trichotomy (nat a i) (nat a (i + 1)) with e | e | e
    · exact e
    · have := o2.2.2 e; omega
    · have := o2.2.1 e; omega
theorem Keep.call {a b : List Int} {i : Int} (h : Keep a b) (h0 : 0 ≤ i) (h1 : i < a.length) : Keep a (callN b i) := by
  have hl := h.len
  have hc := fun p (hp : (0 : Int) ≤ p) => nat_call (b := b) (p := p) h0 (by omega) hp
  rcases call_cases (b := b) h0 (by omega) with e | ⟨t, tm, t1, t2⟩ | ⟨t, tm, t1, t2⟩
  · rw [e]; exact h
  · obtain ⟨ta, es⟩ := h.top t
    obtain ⟨u0, u1, u2, u3⟩ := id t
    obtain ⟨v0, v1, v2, v3⟩ := id ta
    refine ⟨by rw [callN_len]; exact hl, fun p p0 p1 => ?_, fun p p0 p1 => ?_, h.runs u0 (by omega) (by omega) (by omega) tm hc⟩
    · rw [hc p p0]
      by_cases e : p = i
      · subst e
        rw [if_pos rfl]
        exact .inr (.inl ⟨ta, by omega⟩)
      · rw [if_neg e]; exact h.chg p p0 p1
    · rw [hc p p0, hc (p + 1) (by omega)]
      have o := h.ord p p0 p1
      by_cases e : p = i
      · subst e
        rw [if_pos rfl, if_neg (by omega)]
        omega
      · rw [if_neg e]
        by_cases e2 : p + 1 = i
        · subst e2
          rw [if_pos rfl]
          rw [show p + 1 - 1 = p by omega] at *
          omega
        · rw [if_neg e2]; exact o
  · obtain ⟨ta, es⟩ := h.dip t
    obtain ⟨u0, u1, u2, u3⟩ := id t
    obtain ⟨v0, v1, v2, v3⟩ := id ta
    refine ⟨by rw [callN_len]; exact hl, fun p p0 p1 => ?_, fun p p0 p1 => ?_, h.runs u0 (by omega) (by omega) (by omega) tm hc⟩
    · rw [hc p p0]
      by_cases e : p = i
      · subst e
        rw [if_pos rfl]
        exact .inr (.inr ⟨ta, by omega⟩)
      · rw [if_neg e]; exact h.chg p p0 p1
    · rw [hc p p0, hc (p + 1) (by omega)]
      have o := h.ord p p0 p1
      by_cases e : p = i
      · subst e
        rw [if_pos rfl, if_neg (by omega)]
        omega
      · rw [if_neg e]
        by_cases e2 : p + 1 = i
        · subst e2
          rw [if_pos rfl]
          rw [show p + 1 - 1 = p by omega] at *
          omega
        · rw [if_neg e2]; exact o
theorem Keep.more {a : List Int} : ∀ (tape : List Int) {b : List Int}, Keep a b → (∀ i ∈ tape, 0 ≤ i ∧ i < a.length) → Keep a (runN b tape)
  | [], _, h, _ => h
  | i :: tape, b, h, ht => by
    have hi := ht i List.mem_cons_self
    exact Keep.more tape (h.call hi.1 hi.2) fun j hj => ht j (List.mem_cons_of_mem _ hj)
theorem keep_run {a tape : List Int} (h : ∀ i ∈ tape, 0 ≤ i ∧ i < a.length) : Keep a (runN a tape) := (Keep.refl a).more tape h
/-! runs of a row -/
theorem runs_ok : ∀ (b : List Int) (n : Int), ∀ p ∈ runsOf b n, p.1 ∈ b ∧ (p.2 + 1 = n ∨ p.2 + 1 ∈ b)
  | [], n => fun p hp => nomatch hp
  | [x], n => fun p hp => by
    cases List.mem_singleton.mp hp
    exact ⟨List.mem_cons_self, .inl (by dsimp only; omega)⟩
  | x :: y :: r, n => fun p hp => by
    rcases List.mem_cons.mp hp with e | hp
    · cases e
      exact ⟨List.mem_cons_self, .inr (by rw [show y - 1 + 1 = y by omega]; exact List.mem_cons_of_mem _ List.mem_cons_self)⟩
    · obtain ⟨h1, h2⟩ := runs_ok (y :: r) n p hp
      exact ⟨List.mem_cons_of_mem _ h1, h2.elim .inl fun z => .inr (List.mem_cons_of_mem _ z)⟩
theorem runs_le' : ∀ (b : List Int) (n : Int), b.Pairwise (· < ·) → (∀ x ∈ b, x < n) → ∀ p ∈ runsOf b n, p.1 ≤ p.2
  | [], n, _, _ => fun p hp => nomatch hp
  | [x], n, _, h => fun p hp => by
    cases List.mem_singleton.mp hp
    have := h x List.mem_cons_self
    dsimp only; omega
  | x :: y :: r, n, hw, h => fun p hp => by
    rw [List.pairwise_cons] at hw
    rcases List.mem_cons.mp hp with e | hp
    · cases e
      have := hw.1 y List.mem_cons_self
      dsimp only; omega
    · exact runs_le' (y :: r) n hw.2 (fun z hz => h z (List.mem_cons_of_mem _ hz)) p hp
theorem rngI_pw (lo : Int) (n : Nat) : (rngI lo n).Pairwise (· < ·) := by
  unfold rngI
  rw [List.pairwise_map]
  exact List.pairwise_lt_range.imp fun h => by omega
theorem begs_pw (ms : List Int) (n : Nat) : (begs ms n).Pairwise (· < ·) := (rngI_pw 0 n).filter _
theorem runs_le {ms : List Int} {p : Int × Int} (hp : p ∈ runsOf (begs ms ms.length) ms.length) : p.1 ≤ p.2 := runs_le' _ _ (begs_pw _ _) (fun x hx => (begs_in x hx).2) p hp
theorem beg_ne {ms : List Int} {n : Nat} {x : Int} (h : x ∈ begs ms n) (h0 : x ≠ 0) : nat ms x ≠ nat ms (x - 1) := by
  have := (List.mem_filter.mp h).2
  unfold isBeg at this
  rw [decide_eq_false h0] at this
  simpa using this
theorem bar_none {a b : List Int} (h : Keep a b) : barD a b = .none := by
  have hl := h.len
  have e1 : chL a b = [] := by
    refine List.filter_eq_nil_iff.mpr fun p hp => ?_
    have hm := mem_rngI hp
    unfold chB
    rw [mem_tops, mem_dips]
    unfold isTop isDip
    rcases h.chg p (by omega) (by omega) with c | ⟨⟨t0, t1, t2, t3⟩, c⟩ | ⟨⟨t0, t1, t2, t3⟩, c⟩
    · rw [decide_eq_true c]; simp
    · rw [decide_eq_true t0, decide_eq_true (by omega : p < (a.length : Int) - 1), decide_eq_true t2, decide_eq_true t3, decide_eq_true c]; simp
    · rw [decide_eq_true t0, decide_eq_true (by omega : p < (a.length : Int) - 1), decide_eq_true t2, decide_eq_true t3, decide_eq_true c]; simp
  have e2 : orL a b = [] := by
    refine List.filter_eq_nil_iff.mpr fun p hp => ?_
    have hm := mem_rngI hp
    obtain ⟨o1, o2, o3⟩ := h.ord p (by omega) (by omega)
    unfold orB
    rw [← Bool.decide_and, ← Bool.decide_and, ← decide_not, ← Bool.decide_and, ← Bool.decide_or, ← Bool.decide_or]
    simp only [decide_eq_true_eq]
    omega
  have e3 : wrL a b = [] := by
    unfold wrL
    rw [List.map_eq_nil_iff]
    refine List.filter_eq_nil_iff.mpr fun p hp => ?_
    obtain ⟨p1, p2, p3, p4⟩ := runs_in _ _ begs_in p hp
    obtain ⟨k1, k2⟩ := runs_ok _ _ p hp
    obtain ⟨q, q0, q1, qs, qr⟩ := h.run p.1 p1 (by omega)
    have lo : p.1 ≤ q := by
      by_cases z : p.1 ≤ q
      · exact z
      · exact absurd (qr (p.1 - 1) (by unfold Btw; omega)).symm (beg_ne k1 (by omega))
    have hi : q ≤ p.2 := by
      by_cases z : q ≤ p.2
      · exact z
      · rcases k2 with k2 | k2
        · omega
        · have hb := begs_in _ k2
          by_cases z2 : p.1 ≤ p.2
          · have x1 := qr (p.2 + 1) (by unfold Btw; omega)
            have x2 := qr p.2 (by unfold Btw; omega)
            have := beg_ne k2 (by omega)
            rw [show p.2 + 1 - 1 = p.2 by omega] at this
            exact absurd (x1.trans x2.symm) this
          · exact absurd (runs_le hp) z2
    unfold wrB
    simp only [decide_eq_true_eq]
    intro hz
    have : q ∈ stL a b p.1 p.2 := List.mem_filter.mpr ⟨in_rngI lo (by omega), decide_eq_true qs⟩
    rw [List.length_eq_zero_iff.mp (by omega : (stL a b p.1 p.2).length = 0)] at this
    exact nomatch this
  unfold barD
  rw [e1, e2, e3]
end W

namespace W
open PySem L2 DL
local macro_rules | `(tactic| walk_at "ev") => `(tactic| simp only [eC, eV, oE, oV, eL, eT, aNil, aCons, eOp2, eOp1, eApp, tstE, eB, tNotG, tAndG, tOrG, eAndG, eOrG, eNotG, eIf, eSeq, eCall, eCallO, eCallB, eCallBF, eCallBX, sSeq, sNext, sRet, sRetF, sRetO, sRetN, sDrop, sIf, sSet, sSetO, sBreak, sCont, sBad, sPar, sPar3, fz, sFz, eCallW, idL, sApp, sPutIx, sAug, sFor, gN, gT, gsCons, gsNil, gYes, eLc, gSeq, nS, nF, Nw.sl, R.ok_bind, R.ok_map, R.lift_some, to_ok, toX_ok, toX_ex, bind_nx, bind_rt, bind_rf, bind_ex, bind_bk, bind_ct, at_ok, at_ex, res_val, map_ex, rbind_ex, Op.res, resA, valA, isOw, box0, Option.map_some, Option.bind_some, sHeardT, nlCons, nlNil, Nw.dat, mSet, eChain, eRg1, eRg2, eSl, pNo, pSo,
  List.getElem?_cons_zero, List.getElem?_cons_succ, List.set_cons_zero, List.set_cons_succ, List.length_cons, List.length_nil, if_true, if_false, Bool.false_eq_true, ite_true, ite_false, reduceIte,
  addU_int, subD_int, ltD_int, leD_int, gtD_int, geD_int, negD_int, absD_int, intD_bool, intD_int, lenD_list, lenD_tuple, lenD_scr, pow10_7, pow10_18, pow10_40, eqW_ints, neW_ints, eqW_strs, neW_strs, eqW_none, eqW_in, eqW_ni, ixD_list, ixD_tuple, ixD_scr, atI_3_0, atI_3_1, atI_3_2, ixN_3_0, ixN_3_1, ixN_3_2, wipeR, zip2D, skOf, isiD_n, isiD_b, isiD_i, isiD_s, isiD_l, isiD_t, isiTD_n, isiTD_b, isiTD_i, isiTD_s, isiTD_l, isiTD_t, isiAny, eCallX, eCallWX, xE, xIf, xL, xCb1, sSetX, sRetX, sDropX, sRaise, sTo, eMk, isX_n, sKeep, kt_ll, kt_lt, kt_ls, kt_li, kt_lb, kt_tl, kt_tt, kt_ts, kt_ti, kt_tb, kt_sl, kt_st, kt_ss, kt_si, kt_sb, kt_il, kt_it, kt_is, kt_ii, kt_ib, kt_bl, kt_bt, kt_bs, kt_bi, kt_bb, kt_nl, kt_nt, kt_ns, kt_ni, kt_nb, eqW_bools, neW_bools, isD_none, isNotD_none, isNoneD, isNone_e, List.map_cons, List.map_nil, List.replicate, List.append_nil, List.cons_append, List.nil_append, nc0, nc1, nc2, nc3, nc4, nc5, nc6, nc7, nc8, nc9, nc10, nc11, nc12, nc13, nc14, nc15, nc16, nc17, nc18, nc19, nc20, Nat.reduceAdd, Nat.reduceSub, ne_eq, decide_true, decide_false, not_true_eq_false, not_false_eq_true, reduceCtorEq, Bool.and_true, Bool.true_and, Bool.and_false, Bool.false_and, Bool.or_true, Bool.true_or, Bool.or_false, Bool.false_or, Bool.not_true, Bool.not_false])
local macro_rules | `(tactic| walk_at "evh") => `(tactic| simp only [eC, eV, oE, oV, eL, eT, aNil, aCons, eOp2, eOp1, eApp, tstE, eB, tNotG, tAndG, tOrG, eAndG, eOrG, eNotG, eIf, eSeq, eCall, eCallO, eCallB, eCallBF, eCallBX, sSeq, sNext, sRet, sRetF, sRetO, sRetN, sDrop, sIf, sSet, sSetO, sBreak, sCont, sBad, sPar, sPar3, fz, sFz, eCallW, idL, sApp, sPutIx, sAug, sFor, gN, gT, gsCons, gsNil, gYes, eLc, gSeq, nS, nF, Nw.sl, R.ok_bind, R.ok_map, R.lift_some, to_ok, toX_ok, toX_ex, bind_nx, bind_rt, bind_rf, bind_ex, bind_bk, bind_ct, at_ok, at_ex, res_val, map_ex, rbind_ex, Op.res, resA, valA, isOw, box0, Option.map_some, Option.bind_some, sHeardT, nlCons, nlNil, Nw.dat, mSet, eChain, eRg1, eRg2, eSl, pNo, pSo,
  List.getElem?_cons_zero, List.getElem?_cons_succ, List.set_cons_zero, List.set_cons_succ, List.length_cons, List.length_nil, if_true, if_false, Bool.false_eq_true, ite_true, ite_false, reduceIte,
  addU_int, subD_int, ltD_int, leD_int, gtD_int, geD_int, negD_int, absD_int, intD_bool, intD_int, lenD_list, lenD_tuple, lenD_scr, pow10_7, pow10_18, pow10_40, eqW_ints, neW_ints, eqW_strs, neW_strs, eqW_none, eqW_in, eqW_ni, ixD_list, ixD_tuple, ixD_scr, atI_3_0, atI_3_1, atI_3_2, ixN_3_0, ixN_3_1, ixN_3_2, wipeR, zip2D, skOf, isiD_n, isiD_b, isiD_i, isiD_s, isiD_l, isiD_t, isiTD_n, isiTD_b, isiTD_i, isiTD_s, isiTD_l, isiTD_t, isiAny, eCallX, eCallWX, xE, xIf, xL, xCb1, sSetX, sRetX, sDropX, sRaise, sTo, eMk, isX_n, sKeep, kt_ll, kt_lt, kt_ls, kt_li, kt_lb, kt_tl, kt_tt, kt_ts, kt_ti, kt_tb, kt_sl, kt_st, kt_ss, kt_si, kt_sb, kt_il, kt_it, kt_is, kt_ii, kt_ib, kt_bl, kt_bt, kt_bs, kt_bi, kt_bb, kt_nl, kt_nt, kt_ns, kt_ni, kt_nb, eqW_bools, neW_bools, isD_none, isNotD_none, isNoneD, isNone_e, List.map_cons, List.map_nil, List.replicate, List.append_nil, List.cons_append, List.nil_append, nc0, nc1, nc2, nc3, nc4, nc5, nc6, nc7, nc8, nc9, nc10, nc11, nc12, nc13, nc14, nc15, nc16, nc17, nc18, nc19, nc20, Nat.reduceAdd, Nat.reduceSub, ne_eq, decide_true, decide_false, not_true_eq_false, not_false_eq_true, reduceCtorEq, Bool.and_true, Bool.true_and, Bool.and_false, Bool.false_and, Bool.or_true, Bool.true_or, Bool.or_false, Bool.false_or, Bool.not_true, Bool.not_false, *])
/-! who changed, where nothing bars -/
theorem lc_emb {α : Type} {vs : List Nat} {k : GG} {t : GT} {e : GE} {ρ : Rho} {emb out : α → D} (p : α → Bool) : ∀ {as : List α}, (∀ a ∈ as, ∃ ρ1, k (emb a) ρ = some ρ1 ∧ wipeR ρ1 vs = ρ ∧ t ρ1 = .ok (p a) ρ1 ∧ (p a = true → e ρ1 = .ok (out a) ρ1)) → lcL vs k t e (as.map emb) ρ = .ok ((as.filter p).map out) ρ
  | [], _ => rfl
  | a :: as, h => by
    obtain ⟨ρ1, e1, ew, et, ee⟩ := h a List.mem_cons_self
    have ih := lc_emb (as := as) p fun x hx => h x (List.mem_cons_of_mem _ hx)
    rw [List.map_cons]
    unfold lcL
    rw [e1]
    dsimp only
    cases hp : p a with
    | true => rw [et, R.ok_bind, hp, if_pos rfl, ee hp, R.ok_bind, ew, ih, List.filter_cons, if_pos hp]; rfl
    | false => rw [et, R.ok_bind, hp, if_neg Bool.false_ne_true, ew, ih, List.filter_cons, if_neg (by rw [hp]; simp)]
theorem lc_emb1 {α : Type} {vs : List Nat} {k : GG} {e : GE} {ρ : Rho} {emb out : α → D} {as : List α} (h : ∀ a ∈ as, ∃ ρ1, k (emb a) ρ = some ρ1 ∧ wipeR ρ1 vs = ρ ∧ e ρ1 = .ok (out a) ρ1) : lcL vs k gYes e (as.map emb) ρ = .ok (as.map out) ρ := by
  have := lc_emb (vs := vs) (k := k) (t := gYes) (e := e) (ρ := ρ) (emb := emb) (out := out) (fun _ => true) (as := as) fun a ha => by
    obtain ⟨ρ1, e1, e2, e3⟩ := h a ha
    exact ⟨ρ1, e1, e2, rfl, fun _ => e3⟩
  rw [this, List.filter_eq_self.mpr fun _ _ => rfl]
theorem ll_ok {r q : D} (e : F_bar [r, q] = .ok .none) : F_look_leads [r, q] = .ok .none := by
  have h : isNotD .none .none = some (.bool false) := rfl
  unfold F_look_leads callX g_look_leads env0
  walk_at "evh"
def cgB (ns ms : List Int) (p : Int) : Bool := !decide (nat ns p = nat ms p)
def cgL (ns ms : List Int) : List Int := (rngI 0 ns.length).filter (cgB ns ms)
theorem ez_map {ns ms : List Int} (h : ms.length = ns.length) : enumFrom 0 (zipD (ns.map PyData.int) (ms.map .int)) = (rngI 0 ns.length).map fun p => .tuple [.int p, .tuple [.int (nat ns p), .int (nat ms p)]] := by
  apply List.ext_getElem?
  intro k
  by_cases hk : k < ns.length
  · rw [ez_at h hk]
    unfold rngI
    rw [List.map_map, List.getElem?_map, List.getElem?_range hk, Option.map_some]
    simp
  · rw [List.getElem?_eq_none (by rw [ez_len h]; omega), List.getElem?_eq_none (by rw [List.length_map, rngI_len]; omega)]
theorem chg_el {r q : D} {p a b : Int} : ct_changed_1 [.sh r, .sh q, .sh (.int p), .sh (.int a), .sh (.int b)] = .ok (!decide (a = b)) [.sh r, .sh q, .sh (.int p), .sh (.int a), .sh (.int b)] := by
  unfold ct_changed_1
  walk_at "ev"
theorem chg_s1 {r q : D} {s2 s3 s4 : Sl} (e : F_look_leads [r, q] = .ok .none) : (sDropX (eCallX F_look_leads (aCons (oE (eV 0)) (aCons (oE (eV 1)) aNil)))) [.sh r, .sh q, s2, s3, s4] = .nx [.sh r, .sh q, s2, s3, s4] := by
  walk_at "evh"
theorem chg_s2 {r q : D} {E : List D} {s2 s3 s4 : Sl} (e : enumZipD [r, q] = some E) : (eCall enumZipD (aCons (oE (eV 0)) (aCons (oE (eV 1)) aNil))) [.sh r, .sh q, s2, s3, s4] = .ok E [.sh r, .sh q, s2, s3, s4] := by
  walk_at "evh"
theorem chg_eq {r q : D} {ns ms : List Int} (hr : Sq r (ns.map .int)) (hq : Sq q (ms.map .int)) (h : ms.length = ns.length) (hl : ns.length ≤ 1000) (el : F_look_leads [r, q] = .ok .none) : F_changed [r, q] = .ok ((cgL ns ms).map .int) := by
  have lc : lcL [2, 3, 4] (gT 2 (gsCons (gN 2) (gsCons (gT 2 (gsCons (gN 3) (gsCons (gN 4) gsNil))) gsNil))) ct_changed_1 ce_changed_2 (enumFrom 0 (zipD (ns.map PyData.int) (ms.map .int))) [.sh r, .sh q, .no, .no, .no] = .ok ((cgL ns ms).map .int) [.sh r, .sh q, .no, .no, .no] := by
    rw [ez_map h]
    exact lc_emb (cgB ns ms) fun p hp => ⟨[.sh r, .sh q, .sh (.int p), .sh (.int (nat ns p)), .sh (.int (nat ms p))], rfl, rfl, chg_el, fun _ => rfl⟩
  unfold F_changed
  refine callXF_rf rfl (ρ := [.sh r, .sh q, .no, .no, .no]) ?_
  exact seq_nx (chg_s1 el) (sRetF_ok (eLc_ok (chg_s2 (by unfold enumZipD; dsimp only; rw [zip_sq hr hq]; rfl)) (by rw [ez_len h]; exact size_of (by omega)) lc))
theorem dst_eq {r q : D} {S : List D} (e : F_changed [r, q] = .ok S) : F_distance [r, q] = .ok (.int (S.length : Int)) := by
  have ln : lenD [.list S] = some (.int (S.length : Int)) := rfl
  unfold F_distance callX g_distance env0
  generalize (S.length : Int) = j at *
  walk_at "evh"
theorem cgL_len (ns ms : List Int) : (cgL ns ms).length ≤ ns.length := Nat.le_trans (List.length_filter_le _ _) (by rw [rngI_len]; exact Nat.le_refl _)
/-! open parts -/
abbrev OP := Int × Int × Bool × Bool
def opD (x : OP) : D := .tuple [.int x.1, .int x.2.1, .bool x.2.2.1, .bool x.2.2.2]
def gapsO (f l : Int) : List Int → List OP
  | x :: y :: r => (if 1 < y - x then [(x + 1, y - 1, decide (f ≤ x), decide (y ≤ l))] else []) ++ gapsO f l (y :: r)
  | _ => []
def edgesL (ns ms : List Int) (f l : Int) : List Int := (f - 1) :: (stL ns ms f l ++ [l + 1])
def opL (ns ms : List Int) : List OP := (runsOf (begs ms ms.length) ms.length).flatMap fun p => gapsO p.1 p.2 (edgesL ns ms p.1 p.2)
theorem gaps_le (f l : Int) : ∀ es : List Int, (gapsO f l es).length ≤ es.length
  | [] => Nat.le_refl 0
  | [x] => Nat.zero_le _
  | x :: y :: r => by
    have := gaps_le f l (y :: r)
    show ((if 1 < y - x then [(x + 1, y - 1, decide (f ≤ x), decide (y ≤ l))] else []) ++ gapsO f l (y :: r)).length ≤ _
    rw [List.length_append, List.length_cons]
    split <;> simp at this ⊢ <;> omega
theorem op_step {r q : D} {F : List D} {f l x y : Int} {s5 : Sl} (hz : F.length < sizeLine) (z : 4 ≤ sizeLine) (k : Bool) (hk : decide (1 < y - x) = k) :
    gb_open_parts_1 [.sh r, .sh q, .ow F, .sh (.int f), .sh (.int l), s5, .sh (.int x), .sh (.int y)] = .nx [.sh r, .sh q, .ow (F ++ if k then [opD (x + 1, y - 1, decide (f ≤ x), decide (y ≤ l))] else []), .sh (.int f), .sh (.int l), s5, .sh (.int x), .sh (.int y)] := by
  unfold gb_open_parts_1 opD
  dsimp only
  cases k <;> walk_at "evh"
theorem op_for {r q : D} {f l : Int} {s5 : Sl} : ∀ (es : List Int) {F : List D} {s6 s7 : Sl}, F.length + es.length ≤ 10000 → ∃ t6 t7, forL (gT 2 (gsCons (gN 6) (gsCons (gN 7) gsNil))) gb_open_parts_1 (zipD (es.map .int) ((es.drop 1).map .int)) [.sh r, .sh q, .ow F, .sh (.int f), .sh (.int l), s5, s6, s7] = .nx [.sh r, .sh q, .ow (F ++ (gapsO f l es).map opD), .sh (.int f), .sh (.int l), s5, t6, t7]
  | [], F, s6, s7, _ => ⟨s6, s7, by rw [show (gapsO f l []).map opD = [] from rfl, List.append_nil]; rfl⟩
  | [x], F, s6, s7, _ => ⟨s6, s7, by rw [show (gapsO f l [x]).map opD = [] from rfl, List.append_nil]; rfl⟩
  | x :: y :: es, F, s6, s7, hz => by
    have e1 := op_step (r := r) (q := q) (F := F) (f := f) (l := l) (x := x) (y := y) (s5 := s5) (size_lt (by simp at hz; omega)) (by decide) _ rfl
    obtain ⟨t6, t7, e2⟩ := op_for (r := r) (q := q) (f := f) (l := l) (s5 := s5) (y :: es) (F := F ++ if decide (1 < y - x) then [opD (x + 1, y - 1, decide (f ≤ x), decide (y ≤ l))] else []) (s6 := .sh (.int x)) (s7 := .sh (.int y)) (by
      rw [List.length_append]
      simp at hz ⊢
      split <;> simp <;> omega)
    refine ⟨t6, t7, for_cons (ρ1 := [.sh r, .sh q, .ow F, .sh (.int f), .sh (.int l), s5, .sh (.int x), .sh (.int y)]) rfl e1 (e2.trans ?_)⟩
    have eg : (gapsO f l (x :: y :: es)).map opD = (if decide (1 < y - x) then [opD (x + 1, y - 1, decide (f ≤ x), decide (y ≤ l))] else []) ++ (gapsO f l (y :: es)).map opD := by
      show ((if 1 < y - x then [(x + 1, y - 1, decide (f ≤ x), decide (y ≤ l))] else []) ++ gapsO f l (y :: es)).map opD = _
      rw [List.map_append]
      congr 1
      by_cases h : 1 < y - x
      · rw [if_pos h, decide_eq_true h]; rfl
      · rw [if_neg h, decide_eq_false h]; rfl
    rw [eg, List.append_assoc]
theorem op_ed {r q : D} {f l : Int} {S A B : List D} {s2 s5 s6 s7 : Sl} (e : F_stayed [r, q, .int f, .int l] = some S) (a1 : addU (.list [.int (f - 1)]) (.list S) = some (.list A)) (a2 : addU (.list A) (.list [.int (l + 1)]) = some (.list B)) (z : 1 ≤ sizeLine) :
    (sSet 5 (eOp2 addU (oE (eOp2 addU (oE (eL (eSeq (aCons (oE (eOp2 subD (oE (eV 3)) (oE (eC (.int 1))))) aNil)))) (oE (eL (eCall F_stayed (aCons (oE (eV 0)) (aCons (oE (eV 1)) (aCons (oE (eV 3)) (aCons (oE (eV 4)) aNil))))))))) (oE (eL (eSeq (aCons (oE (eOp2 addU (oE (eV 4)) (oE (eC (.int 1))))) aNil)))))) [.sh r, .sh q, s2, .sh (.int f), .sh (.int l), s5, s6, s7] = .nx [.sh r, .sh q, s2, .sh (.int f), .sh (.int l), .sh (.list B), s6, s7] := by
  walk_at "evh"
theorem op_zp {r q : D} {B C E : List D} {s2 s3 s4 s6 s7 : Sl} (sl : sliceU (.list B) (some 1) none = some (.list C)) (zp : zipD B C = E) :
    (eCall zip2D (aCons (oE (eV 5)) (aCons (oE (eSl sliceU (oE (eV 5)) (pSo (eC (.int 1))) pNo)) aNil))) [.sh r, .sh q, s2, s3, s4, .sh (.list B), s6, s7] = .ok E [.sh r, .sh q, s2, s3, s4, .sh (.list B), s6, s7] := by
  walk_at "evh"
theorem stL_len (ns ms : List Int) (f l : Int) : (stL ns ms f l).length ≤ (l + 1 - f).toNat := Nat.le_trans (List.length_filter_le _ _) (by rw [rngI_len]; exact Nat.le_refl _)
theorem op_body {r q : D} {ns ms : List Int} {p : Int × Int} {F : List D} {s5 s6 s7 : Sl} (hr : Sq r (ns.map .int)) (hq : Sq q (ms.map .int)) (h : ms.length = ns.length) (hl : ns.length ≤ 60) (h0 : 0 ≤ p.1) (h1 : p.1 ≤ 1000) (h2 : -1 ≤ p.2) (h3 : p.2 < ns.length) (hz : F.length ≤ 5000) :
    ∃ t5 t6 t7, gb_open_parts_2 [.sh r, .sh q, .ow F, .sh (.int p.1), .sh (.int p.2), s5, s6, s7] = .nx [.sh r, .sh q, .ow (F ++ (gapsO p.1 p.2 (edgesL ns ms p.1 p.2)).map opD), .sh (.int p.1), .sh (.int p.2), t5, t6, t7] := by
  have hs := stL_len ns ms p.1 p.2
  have e := sta_eq (a := p.1) (b := p.2) hr hq h (by omega) h0 (by omega) h3 (by omega)
  have a1 : addU (.list [.int (p.1 - 1)]) (.list ((stL ns ms p.1 p.2).map .int)) = some (.list (((p.1 - 1) :: stL ns ms p.1 p.2).map .int)) := by
    rw [addLL (by rw [List.length_map]; simp; omega)]; rfl
  have a2 : addU (.list (((p.1 - 1) :: stL ns ms p.1 p.2).map PyData.int)) (.list [.int (p.2 + 1)]) = some (.list ((edgesL ns ms p.1 p.2).map .int)) := by
    rw [addLL (by rw [List.length_map]; simp; omega), ← List.map_singleton, ← List.map_append]; rfl
  obtain ⟨t6, t7, f⟩ := op_for (r := r) (q := q) (f := p.1) (l := p.2) (s5 := .sh (.list ((edgesL ns ms p.1 p.2).map .int))) (edgesL ns ms p.1 p.2) (F := F) (s6 := s6) (s7 := s7) (by unfold edgesL; simp; omega)
  exact ⟨_, t6, t7, seq_nx (op_ed (s2 := .ow F) (s5 := s5) (s6 := s6) (s7 := s7) e a1 a2 (by decide)) (sFor_nx (op_zp (runs_sl _) rfl) f)⟩
theorem op_go {r q : D} {Rs F : List D} {s3 s4 s5 s6 s7 : Sl} (e : F_runs [q] = some Rs) (z : 0 ≤ sizeLine) (f : forL (gT 2 (gsCons (gN 3) (gsCons (gN 4) gsNil))) gb_open_parts_2 Rs [.sh r, .sh q, .ow [], .no, .no, .no, .no, .no] = .nx [.sh r, .sh q, .ow F, s3, s4, s5, s6, s7]) : F_open_parts [r, q] = some F := by
  have it : itemsD (.list Rs) = some Rs := rfl
  unfold F_open_parts callF g_open_parts env0
  walk_at "evh"
theorem op_runs {r q : D} {ns ms : List Int} (hr : Sq r (ns.map .int)) (hq : Sq q (ms.map .int)) (h : ms.length = ns.length) (hl : ns.length ≤ 60) : ∀ (ps : List (Int × Int)) {F : List D} {s3 s4 s5 s6 s7 : Sl}, (∀ p ∈ ps, 0 ≤ p.1 ∧ p.1 < (ms.length : Int) ∧ -1 ≤ p.2 ∧ p.2 < (ms.length : Int)) → F.length + 62 * ps.length ≤ 5000 →
    ∃ t3 t4 t5 t6 t7, forL (gT 2 (gsCons (gN 3) (gsCons (gN 4) gsNil))) gb_open_parts_2 (ps.map prD) [.sh r, .sh q, .ow F, s3, s4, s5, s6, s7] = .nx [.sh r, .sh q, .ow (F ++ (ps.flatMap fun p => gapsO p.1 p.2 (edgesL ns ms p.1 p.2)).map opD), t3, t4, t5, t6, t7]
  | [], F, s3, s4, s5, s6, s7, _, _ => ⟨s3, s4, s5, s6, s7, by
      show O.nx _ = O.nx [_, _, .ow (F ++ []), _, _, _, _, _]
      rw [List.append_nil]⟩
  | p :: ps, F, s3, s4, s5, s6, s7, hp, hz => by
    obtain ⟨p1, p2, p3, p4⟩ := hp p List.mem_cons_self
    have hz' : F.length + 62 * (ps.length + 1) ≤ 5000 := hz
    obtain ⟨t5, t6, t7, e⟩ := op_body (p := p) (F := F) (s5 := s5) (s6 := s6) (s7 := s7) hr hq h hl p1 (by omega) p3 (by omega) (by omega)
    have gl := gaps_le p.1 p.2 (edgesL ns ms p.1 p.2)
    have hs := stL_len ns ms p.1 p.2
    have el : (edgesL ns ms p.1 p.2).length = (stL ns ms p.1 p.2).length + 2 := by unfold edgesL; simp
    obtain ⟨u3, u4, u5, u6, u7, e2⟩ := op_runs hr hq h hl ps (F := F ++ (gapsO p.1 p.2 (edgesL ns ms p.1 p.2)).map opD) (s3 := .sh (.int p.1)) (s4 := .sh (.int p.2)) (s5 := t5) (s6 := t6) (s7 := t7) (fun x hx => hp x (List.mem_cons_of_mem _ hx)) (by rw [List.length_append, List.length_map]; omega)
    refine ⟨u3, u4, u5, u6, u7, for_cons (ρ1 := [.sh r, .sh q, .ow F, .sh (.int p.1), .sh (.int p.2), s5, s6, s7]) rfl e (e2.trans ?_)⟩
    rw [List.flatMap_cons, List.map_append, List.append_assoc]
theorem op_eq {r q : D} {ns ms : List Int} (hr : Sq r (ns.map .int)) (hq : Sq q (ms.map .int)) (h : ms.length = ns.length) (hl : ns.length ≤ 60) : F_open_parts [r, q] = some ((opL ns ms).map opD) := by
  have lb := begs_len ms ms.length
  obtain ⟨t3, t4, t5, t6, t7, f⟩ := op_runs hr hq h hl (runsOf (begs ms ms.length) ms.length) (F := []) (s3 := .no) (s4 := .no) (s5 := .no) (s6 := .no) (s7 := .no) (runs_in _ _ begs_in) (by rw [runs_len]; simp; omega)
  exact op_go (runs_eq hq (by omega)) (by decide) f
end W

namespace W
open PySem L2 DL
local macro_rules | `(tactic| walk_at "ev") => `(tactic| simp only [eC, eV, oE, oV, eL, eT, aNil, aCons, eOp2, eOp1, eApp, tstE, eB, tNotG, tAndG, tOrG, eAndG, eOrG, eNotG, eIf, eSeq, eCall, eCallO, eCallB, eCallBF, eCallBX, sSeq, sNext, sRet, sRetF, sRetO, sRetN, sDrop, sIf, sSet, sSetO, sBreak, sCont, sBad, sPar, sPar3, fz, sFz, eCallW, idL, sApp, sPutIx, sAug, sFor, gN, gT, gsCons, gsNil, gYes, eLc, gSeq, nS, nF, Nw.sl, R.ok_bind, R.ok_map, R.lift_some, to_ok, toX_ok, toX_ex, bind_nx, bind_rt, bind_rf, bind_ex, bind_bk, bind_ct, at_ok, at_ex, res_val, map_ex, rbind_ex, Op.res, resA, valA, isOw, box0, Option.map_some, Option.bind_some, sHeardT, nlCons, nlNil, Nw.dat, mSet, eChain, eRg1, eRg2, eSl, pNo, pSo,
  List.getElem?_cons_zero, List.getElem?_cons_succ, List.set_cons_zero, List.set_cons_succ, List.length_cons, List.length_nil, if_true, if_false, Bool.false_eq_true, ite_true, ite_false, reduceIte,
  addU_int, subD_int, ltD_int, leD_int, gtD_int, geD_int, negD_int, absD_int, intD_bool, intD_int, lenD_list, lenD_tuple, lenD_scr, pow10_7, pow10_18, pow10_40, eqW_ints, neW_ints, eqW_strs, neW_strs, eqW_none, eqW_in, eqW_ni, ixD_list, ixD_tuple, ixD_scr, atI_3_0, atI_3_1, atI_3_2, ixN_3_0, ixN_3_1, ixN_3_2, wipeR, zip2D, skOf, isiD_n, isiD_b, isiD_i, isiD_s, isiD_l, isiD_t, isiTD_n, isiTD_b, isiTD_i, isiTD_s, isiTD_l, isiTD_t, isiAny, eCallX, eCallWX, xE, xIf, xL, xCb1, sSetX, sRetX, sDropX, sRaise, sTo, eMk, isX_n, sKeep, kt_ll, kt_lt, kt_ls, kt_li, kt_lb, kt_tl, kt_tt, kt_ts, kt_ti, kt_tb, kt_sl, kt_st, kt_ss, kt_si, kt_sb, kt_il, kt_it, kt_is, kt_ii, kt_ib, kt_bl, kt_bt, kt_bs, kt_bi, kt_bb, kt_nl, kt_nt, kt_ns, kt_ni, kt_nb, eqW_bools, neW_bools, isD_none, isNotD_none, isNoneD, isNone_e, List.map_cons, List.map_nil, List.replicate, List.append_nil, List.cons_append, List.nil_append, nc0, nc1, nc2, nc3, nc4, nc5, nc6, nc7, nc8, nc9, nc10, nc11, nc12, nc13, nc14, nc15, nc16, nc17, nc18, nc19, nc20, Nat.reduceAdd, Nat.reduceSub, ne_eq, decide_true, decide_false, not_true_eq_false, not_false_eq_true, reduceCtorEq, Bool.and_true, Bool.true_and, Bool.and_false, Bool.false_and, Bool.or_true, Bool.true_or, Bool.or_false, Bool.false_or, Bool.not_true, Bool.not_false, eSrtSet])
local macro_rules | `(tactic| walk_at "evh") => `(tactic| simp only [eC, eV, oE, oV, eL, eT, aNil, aCons, eOp2, eOp1, eApp, tstE, eB, tNotG, tAndG, tOrG, eAndG, eOrG, eNotG, eIf, eSeq, eCall, eCallO, eCallB, eCallBF, eCallBX, sSeq, sNext, sRet, sRetF, sRetO, sRetN, sDrop, sIf, sSet, sSetO, sBreak, sCont, sBad, sPar, sPar3, fz, sFz, eCallW, idL, sApp, sPutIx, sAug, sFor, gN, gT, gsCons, gsNil, gYes, eLc, gSeq, nS, nF, Nw.sl, R.ok_bind, R.ok_map, R.lift_some, to_ok, toX_ok, toX_ex, bind_nx, bind_rt, bind_rf, bind_ex, bind_bk, bind_ct, at_ok, at_ex, res_val, map_ex, rbind_ex, Op.res, resA, valA, isOw, box0, Option.map_some, Option.bind_some, sHeardT, nlCons, nlNil, Nw.dat, mSet, eChain, eRg1, eRg2, eSl, pNo, pSo,
  List.getElem?_cons_zero, List.getElem?_cons_succ, List.set_cons_zero, List.set_cons_succ, List.length_cons, List.length_nil, if_true, if_false, Bool.false_eq_true, ite_true, ite_false, reduceIte,
  addU_int, subD_int, ltD_int, leD_int, gtD_int, geD_int, negD_int, absD_int, intD_bool, intD_int, lenD_list, lenD_tuple, lenD_scr, pow10_7, pow10_18, pow10_40, eqW_ints, neW_ints, eqW_strs, neW_strs, eqW_none, eqW_in, eqW_ni, ixD_list, ixD_tuple, ixD_scr, atI_3_0, atI_3_1, atI_3_2, ixN_3_0, ixN_3_1, ixN_3_2, wipeR, zip2D, skOf, isiD_n, isiD_b, isiD_i, isiD_s, isiD_l, isiD_t, isiTD_n, isiTD_b, isiTD_i, isiTD_s, isiTD_l, isiTD_t, isiAny, eCallX, eCallWX, xE, xIf, xL, xCb1, sSetX, sRetX, sDropX, sRaise, sTo, eMk, isX_n, sKeep, kt_ll, kt_lt, kt_ls, kt_li, kt_lb, kt_tl, kt_tt, kt_ts, kt_ti, kt_tb, kt_sl, kt_st, kt_ss, kt_si, kt_sb, kt_il, kt_it, kt_is, kt_ii, kt_ib, kt_bl, kt_bt, kt_bs, kt_bi, kt_bb, kt_nl, kt_nt, kt_ns, kt_ni, kt_nb, eqW_bools, neW_bools, isD_none, isNotD_none, isNoneD, isNone_e, List.map_cons, List.map_nil, List.replicate, List.append_nil, List.cons_append, List.nil_append, nc0, nc1, nc2, nc3, nc4, nc5, nc6, nc7, nc8, nc9, nc10, nc11, nc12, nc13, nc14, nc15, nc16, nc17, nc18, nc19, nc20, Nat.reduceAdd, Nat.reduceSub, ne_eq, decide_true, decide_false, not_true_eq_false, not_false_eq_true, reduceCtorEq, Bool.and_true, Bool.true_and, Bool.and_false, Bool.false_and, Bool.or_true, Bool.true_or, Bool.or_false, Bool.false_or, Bool.not_true, Bool.not_false, eSrtSet, *])
/-! open parts: where they lie, how many they are -/
theorem gaps_iff {f l : Int} {z : OP} : ∀ {es : List Int}, z ∈ gapsO f l es ↔ ∃ pre x y post, es = pre ++ x :: y :: post ∧ 1 < y - x ∧ z = (x + 1, y - 1, decide (f ≤ x), decide (y ≤ l))
  | [] => ⟨fun h => (nomatch h), fun ⟨pre, x, y, post, e, _⟩ => by cases pre <;> cases e⟩
  | [a] => ⟨fun h => (nomatch h), fun ⟨pre, x, y, post, e, _⟩ => by
      rcases pre with _ | ⟨b, pre⟩
      · cases e
      · cases pre <;> cases e⟩
  | a :: b :: r => by
    have ih := gaps_iff (f := f) (l := l) (z := z) (es := b :: r)
    show z ∈ (if 1 < b - a then [(a + 1, b - 1, decide (f ≤ a), decide (b ≤ l))] else []) ++ gapsO f l (b :: r) ↔ _
    rw [List.mem_append, ih]
    constructor
    · rintro (h | ⟨pre, x, y, post, e, h1, h2⟩)
      · split at h
        · rename_i hd
          exact ⟨[], a, b, r, rfl, hd, by simpa using h⟩
        · exact nomatch h
      · exact ⟨a :: pre, x, y, post, by rw [e]; rfl, h1, h2⟩
    · rintro ⟨pre, x, y, post, e, h1, h2⟩
      rcases pre with _ | ⟨c, pre⟩
      · cases e
        exact .inl (by rw [if_pos h1, h2]; exact List.mem_cons_self)
      · rw [List.cons_append] at e
        injection e with e1 e2
        exact .inr ⟨pre, x, y, post, e2, h1, h2⟩
theorem gaps_len2 (f l : Int) : ∀ (r : List Int) (x z : Int), (x :: r ++ [z]).Pairwise (· < ·) → 2 * ((gapsO f l (x :: r ++ [z])).length : Int) ≤ z - x
  | [], x, z, h => by
    have hx : x < z := by simpa using h
    show 2 * (((if 1 < z - x then [(x + 1, z - 1, decide (f ≤ x), decide (z ≤ l))] else []) ++ ([] : List OP)).length : Int) ≤ _
    rw [List.append_nil]
    split <;> simp <;> omega
  | y :: r, x, z, h => by
    rw [List.cons_append, List.pairwise_cons] at h
    have ih := gaps_len2 f l r y z h.2
    have hx := h.1 y (by simp)
    show 2 * (((if 1 < y - x then [(x + 1, y - 1, decide (f ≤ x), decide (y ≤ l))] else []) ++ gapsO f l (y :: r ++ [z])).length : Int) ≤ _
    rw [List.length_append]
    split <;> simp at ih ⊢ <;> omega
theorem stL_mem {ns ms : List Int} {f l p : Int} : p ∈ stL ns ms f l ↔ (f ≤ p ∧ p ≤ l) ∧ nat ns p = nat ms p := by
  unfold stL
  rw [List.mem_filter]
  constructor
  · intro ⟨h1, h2⟩
    have := mem_rngI h1
    exact ⟨⟨this.1, by omega⟩, of_decide_eq_true h2⟩
  · intro ⟨h1, h2⟩
    exact ⟨in_rngI h1.1 (by omega), decide_eq_true h2⟩
theorem edges_pw {ns ms : List Int} {f l : Int} (h : f ≤ l) : (edgesL ns ms f l).Pairwise (· < ·) := by
  unfold edgesL
  rw [List.pairwise_cons]
  refine ⟨fun p hp => ?_, ?_⟩
  · rcases List.mem_append.mp hp with hp | hp
    · have := (stL_mem.mp hp).1; omega
    · rw [List.mem_singleton.mp hp]; omega
  · rw [List.pairwise_append]
    refine ⟨(rngI_pw _ _).filter _, List.pairwise_singleton _ _, fun p hp q hq => ?_⟩
    rw [List.mem_singleton.mp hq]
    have := (stL_mem.mp hp).1
    omega
theorem gaps_cnt {ns ms : List Int} {f l : Int} (h : f ≤ l) : 2 * ((gapsO f l (edgesL ns ms f l)).length : Int) ≤ l - f + 2 := by
  have := gaps_len2 f l (stL ns ms f l) (f - 1) (l + 1) (edges_pw h)
  have e : edgesL ns ms f l = (f - 1) :: stL ns ms f l ++ [l + 1] := rfl
  rw [e]
  omega
theorem op_cnt (ns ms : List Int) : ∀ (r : List Int) (x n : Int), (x :: r).Pairwise (· < ·) → (∀ y ∈ x :: r, y < n) → 2 * (((runsOf (x :: r) n).flatMap fun p => gapsO p.1 p.2 (edgesL ns ms p.1 p.2)).length : Int) ≤ n - x + ((x :: r).length : Int)
  | [], x, n, _, h => by
    have hx := h x List.mem_cons_self
    have := gaps_cnt (ns := ns) (ms := ms) (f := x) (l := n - 1) (by omega)
    show 2 * (((gapsO x (n - 1) (edgesL ns ms x (n - 1))) ++ ([] : List OP)).length : Int) ≤ _
    rw [List.append_nil]
    simp
    omega
  | y :: r, x, n, hw, h => by
    rw [List.pairwise_cons] at hw
    have hx := hw.1 y List.mem_cons_self
    have ih := op_cnt ns ms r y n hw.2 fun z hz => h z (List.mem_cons_of_mem _ hz)
    have := gaps_cnt (ns := ns) (ms := ms) (f := x) (l := y - 1) (by omega)
    show 2 * ((((x, y - 1) :: runsOf (y :: r) n).flatMap fun p => gapsO p.1 p.2 (edgesL ns ms p.1 p.2)).length : Int) ≤ _
    rw [List.flatMap_cons, List.length_append]
    simp at ih ⊢
    omega
theorem opL_len (ns ms : List Int) : (opL ns ms).length ≤ ms.length := by
  unfold opL
  have lb := begs_len ms ms.length
  have pw := begs_pw ms ms.length
  have hi : ∀ x ∈ begs ms ms.length, 0 ≤ x ∧ x < (ms.length : Int) := begs_in
  cases hb : begs ms ms.length with
  | nil => simp [runsOf]
  | cons x r =>
    rw [hb] at lb pw hi
    have := op_cnt ns ms r x ms.length pw fun y hy => (hi y hy).2
    have := hi x List.mem_cons_self
    omega
theorem opL_in {ns ms : List Int} {x : OP} (h : x ∈ opL ns ms) : 0 ≤ x.1 ∧ x.1 ≤ x.2.1 ∧ x.2.1 < (ms.length : Int) := by
  obtain ⟨p, hp, hx⟩ := List.mem_flatMap.mp h
  obtain ⟨p1, p2, p3, p4⟩ := runs_in _ _ begs_in p hp
  have hle := runs_le hp
  obtain ⟨pre, a, b, post, e, hd, rfl⟩ := gaps_iff.mp hx
  have ma : ∀ z ∈ edgesL ns ms p.1 p.2, p.1 - 1 ≤ z ∧ z ≤ p.2 + 1 := fun z hz => by
    rcases List.mem_cons.mp hz with rfl | hz
    · omega
    · rcases List.mem_append.mp hz with hz | hz
      · have := (stL_mem.mp hz).1; omega
      · rw [List.mem_singleton.mp hz]; omega
  have h1 := ma a (by rw [e]; simp)
  have h2 := ma b (by rw [e]; simp)
  dsimp only
  omega
/-! parts -/
def ptD (x : OP) : D := .tuple (rangeD x.1 (x.2.1 + 1 - x.1).toNat)
theorem pt_el {r q : D} {x : OP} {E : List D} (rg : rg2 (.int x.1) (.int (x.2.1 + 1)) = some E) : ce_parts_1 [.sh r, .sh q, .sh (.int x.1), .sh (.int x.2.1), .sh (.bool x.2.2.1), .sh (.bool x.2.2.2)] = .ok (.tuple E) [.sh r, .sh q, .sh (.int x.1), .sh (.int x.2.1), .sh (.bool x.2.2.1), .sh (.bool x.2.2.2)] := by
  unfold ce_parts_1
  walk_at "evh"
theorem pt_s1 {r q : D} {s2 s3 s4 s5 : Sl} (e : F_look_leads [r, q] = .ok .none) : (sDropX (eCallX F_look_leads (aCons (oE (eV 0)) (aCons (oE (eV 1)) aNil)))) [.sh r, .sh q, s2, s3, s4, s5] = .nx [.sh r, .sh q, s2, s3, s4, s5] := by
  walk_at "evh"
theorem pt_s2 {r q : D} {E : List D} {s2 s3 s4 s5 : Sl} (e : F_open_parts [r, q] = some E) : (gSeq (eL (eCall F_open_parts (aCons (oE (eV 0)) (aCons (oE (eV 1)) aNil))))) [.sh r, .sh q, s2, s3, s4, s5] = .ok E [.sh r, .sh q, s2, s3, s4, s5] := by
  have it : itemsD (.list E) = some E := rfl
  walk_at "evh"
theorem pt_eq {r q : D} {ns ms : List Int} (hr : Sq r (ns.map .int)) (hq : Sq q (ms.map .int)) (h : ms.length = ns.length) (hl : ns.length ≤ 60) (el : F_look_leads [r, q] = .ok .none) : F_parts [r, q] = .ok ((opL ns ms).map ptD) := by
  have lc : lcL [2, 3, 4, 5] (gT 4 (gsCons (gN 2) (gsCons (gN 3) (gsCons (gN 4) (gsCons (gN 5) gsNil))))) gYes ce_parts_1 ((opL ns ms).map opD) [.sh r, .sh q, .no, .no, .no, .no] = .ok ((opL ns ms).map ptD) [.sh r, .sh q, .no, .no, .no, .no] := by
    refine lc_emb1 fun x hx => ⟨[.sh r, .sh q, .sh (.int x.1), .sh (.int x.2.1), .sh (.bool x.2.2.1), .sh (.bool x.2.2.2)], rfl, rfl, pt_el ?_⟩
    have := opL_in hx
    unfold rg2
    dsimp only
    rw [if_pos (by omega)]
  have lo := opL_len ns ms
  unfold F_parts
  refine callXF_rf rfl (ρ := [.sh r, .sh q, .no, .no, .no, .no]) ?_
  exact seq_nx (pt_s1 el) (sRetF_ok (eLc_ok (pt_s2 (op_eq hr hq h hl)) (by rw [List.length_map]; exact size_of (by omega)) lc))
/-! who can be called next -/
def lefts (ops : List OP) : List Int := (ops.filter fun x => x.2.2.1).map (·.1)
def rights (ops : List OP) : List Int := (ops.filter fun x => x.2.2.2).map (·.2.1)
def ncL (ops : List OP) : List Int := srtU (lefts ops ++ rights ops)
theorem nc_lc1 {s0 : Sl} {s1 : Sl} (ops : List OP) : lcL [2, 3, 4, 5] (gT 4 (gsCons (gN 2) (gsCons (gN 3) (gsCons (gN 4) (gsCons (gN 5) gsNil))))) ct_next_calls_1 ce_next_calls_2 (ops.map opD) [s0, s1, .no, .no, .no, .no] = .ok ((lefts ops).map .int) [s0, s1, .no, .no, .no, .no] := by
  have := lc_emb (vs := [2, 3, 4, 5]) (k := gT 4 (gsCons (gN 2) (gsCons (gN 3) (gsCons (gN 4) (gsCons (gN 5) gsNil))))) (t := ct_next_calls_1) (e := ce_next_calls_2) (ρ := [s0, s1, .no, .no, .no, .no]) (emb := opD) (out := fun x => .int x.1) (fun x : OP => x.2.2.1) (as := ops) fun x _ => ⟨[s0, s1, .sh (.int x.1), .sh (.int x.2.1), .sh (.bool x.2.2.1), .sh (.bool x.2.2.2)], rfl, rfl, rfl, fun _ => rfl⟩
  rw [this]
  unfold lefts
  rw [List.map_map]; rfl
theorem nc_lc2 {s0 : Sl} {s1 : Sl} (ops : List OP) : lcL [2, 3, 4, 5] (gT 4 (gsCons (gN 2) (gsCons (gN 3) (gsCons (gN 4) (gsCons (gN 5) gsNil))))) ct_next_calls_3 ce_next_calls_4 (ops.map opD) [s0, s1, .no, .no, .no, .no] = .ok ((rights ops).map .int) [s0, s1, .no, .no, .no, .no] := by
  have := lc_emb (vs := [2, 3, 4, 5]) (k := gT 4 (gsCons (gN 2) (gsCons (gN 3) (gsCons (gN 4) (gsCons (gN 5) gsNil))))) (t := ct_next_calls_3) (e := ce_next_calls_4) (ρ := [s0, s1, .no, .no, .no, .no]) (emb := opD) (out := fun x => .int x.2.1) (fun x : OP => x.2.2.2) (as := ops) fun x _ => ⟨[s0, s1, .sh (.int x.1), .sh (.int x.2.1), .sh (.bool x.2.2.1), .sh (.bool x.2.2.2)], rfl, rfl, rfl, fun _ => rfl⟩
  rw [this]
  unfold rights
  rw [List.map_map]; rfl
theorem intsOf_map : ∀ ns : List Int, intsOf (ns.map PyData.int) = some ns
  | [] => rfl
  | n :: r => by
    show (intsOf (r.map PyData.int)).map (n :: ·) = _
    rw [intsOf_map r]; rfl
theorem nc_it {L : D} {E : List D} {s1 s2 s3 s4 s5 : Sl} (it : itemsD L = some E) : (gSeq (eV 0)) [.sh L, s1, s2, s3, s4, s5] = .ok E [.sh L, s1, s2, s3, s4, s5] := by
  walk_at "evh"
theorem nc_s2 {s0 : Sl} {A B : List Int} {g : GF} {s2 s3 s4 s5 : Sl} (e : g [s0, .sh (.list (A.map .int)), s2, s3, s4, s5] = .ok (B.map .int) [s0, .sh (.list (A.map .int)), s2, s3, s4, s5]) (hz : (A ++ B).length < 64) :
    (sRetF (eSrtSet (eOp2 addU (oE (eV 1)) (oE (eL g))))) [s0, .sh (.list (A.map .int)), s2, s3, s4, s5] = .rf ((srtU (A ++ B)).map .int) [s0, .sh (.list (A.map .int)), s2, s3, s4, s5] := by
  have hz2 : A.length + B.length < 64 := by rw [← List.length_append]; exact hz
  have ad : addU (.list (A.map PyData.int)) (.list (B.map .int)) = some (.list ((A ++ B).map .int)) := by rw [addLL (by rw [List.length_map, List.length_map]; omega), ← List.map_append]
  have io := intsOf_map (A ++ B)
  refine sRetF_ok ?_
  have e1 : eOp2 addU (oE (eV 1)) (oE (eL g)) [s0, .sh (.list (A.map .int)), s2, s3, s4, s5] = .ok (.list ((A ++ B).map .int)) [s0, .sh (.list (A.map .int)), s2, s3, s4, s5] := by
    have e := eL_ok e
    generalize eL g = g' at *
    generalize PyData.list (A.map .int) = LA at *
    generalize PyData.list (B.map .int) = LB at *
    generalize PyData.list ((A ++ B).map .int) = LC at *
    clear io hz hz2
    walk_at "evh"
  unfold eSrtSet
  rw [e1, R.ok_bind]
  dsimp only
  rw [io]
  dsimp only
  rw [if_pos hz]
theorem nc_eq {L : D} {ops : List OP} (it : itemsD L = some (ops.map opD)) (hl : ops.length ≤ 31) : F_next_calls [L] = some ((ncL ops).map .int) := by
  have z : (ops.map opD).length ≤ sizeLine := by rw [List.length_map]; exact size_of (by omega)
  have l1 : (lefts ops).length ≤ ops.length := by unfold lefts; rw [List.length_map]; exact List.length_filter_le _ _
  have l2 : (rights ops).length ≤ ops.length := by unfold rights; rw [List.length_map]; exact List.length_filter_le _ _
  have S1 : (sSet 1 (eL (eLc [2, 3, 4, 5] (gSeq (eV 0)) (gT 4 (gsCons (gN 2) (gsCons (gN 3) (gsCons (gN 4) (gsCons (gN 5) gsNil))))) ct_next_calls_1 ce_next_calls_2))) [.sh L, .no, .no, .no, .no, .no] = .nx [.sh L, .sh (.list ((lefts ops).map .int)), .no, .no, .no, .no] := sSet_ok (eL_ok (eLc_ok (ρ1 := [.sh L, .no, .no, .no, .no, .no]) (nc_it it) z (nc_lc1 ops)))
  have S2 := nc_s2 (s0 := .sh L) (A := lefts ops) (B := rights ops) (s2 := .no) (s3 := .no) (s4 := .no) (s5 := .no) (g := eLc [2, 3, 4, 5] (gSeq (eV 0)) (gT 4 (gsCons (gN 2) (gsCons (gN 3) (gsCons (gN 4) (gsCons (gN 5) gsNil))))) ct_next_calls_3 ce_next_calls_4) (eLc_ok (ρ1 := [.sh L, .sh (.list ((lefts ops).map .int)), .no, .no, .no, .no]) (nc_it it) z (nc_lc2 ops)) (by rw [List.length_append]; omega)
  have st : g_next_calls [.sh L, .no, .no, .no, .no, .no] = .rf ((ncL ops).map .int) [.sh L, .sh (.list ((lefts ops).map .int)), .no, .no, .no, .no] := seq_nx S1 S2
  unfold F_next_calls callF env0
  show (match g_next_calls [.sh L, .no, .no, .no, .no, .no] with | O.rf ds ρ => some ds | x => none) = _
  rw [st]
theorem fst_go {r q : D} {E C : List D} (el : F_look_leads [r, q] = .ok .none) (e1 : F_open_parts [r, q] = some E) (e2 : F_next_calls [.list E] = some C) : F_firsts [r, q] = .ok C := by
  unfold F_firsts callXF g_firsts env0
  walk_at "evh"
theorem fst_eq {r q : D} {ns ms : List Int} (hr : Sq r (ns.map .int)) (hq : Sq q (ms.map .int)) (h : ms.length = ns.length) (hl : ns.length ≤ 31) (el : F_look_leads [r, q] = .ok .none) : F_firsts [r, q] = .ok ((ncL (opL ns ms)).map .int) :=
  fst_go el (op_eq hr hq h (by omega)) (nc_eq rfl (Nat.le_trans (opL_len ns ms) (by omega)))
end W

namespace W
open PySem L2 DL
local macro_rules | `(tactic| walk_at "ev") => `(tactic| simp only [eC, eV, oE, oV, eL, eT, aNil, aCons, eOp2, eOp1, eApp, tstE, eB, tNotG, tAndG, tOrG, eAndG, eOrG, eNotG, eIf, eSeq, eCall, eCallO, eCallB, eCallBF, eCallBX, sSeq, sNext, sRet, sRetF, sRetO, sRetN, sDrop, sIf, sSet, sSetO, sBreak, sCont, sBad, sPar, sPar3, fz, sFz, eCallW, idL, sApp, sPutIx, sAug, sFor, gN, gT, gsCons, gsNil, gYes, eLc, gSeq, nS, nF, Nw.sl, R.ok_bind, R.ok_map, R.lift_some, to_ok, toX_ok, toX_ex, bind_nx, bind_rt, bind_rf, bind_ex, bind_bk, bind_ct, at_ok, at_ex, res_val, map_ex, rbind_ex, Op.res, resA, valA, isOw, box0, Option.map_some, Option.bind_some, sHeardT, nlCons, nlNil, Nw.dat, mSet, eChain, eRg1, eRg2, eSl, pNo, pSo,
  List.getElem?_cons_zero, List.getElem?_cons_succ, List.set_cons_zero, List.set_cons_succ, List.length_cons, List.length_nil, if_true, if_false, Bool.false_eq_true, ite_true, ite_false, reduceIte,
  addU_int, subD_int, ltD_int, leD_int, gtD_int, geD_int, negD_int, absD_int, intD_bool, intD_int, lenD_list, lenD_tuple, lenD_scr, pow10_7, pow10_18, pow10_40, eqW_ints, neW_ints, eqW_strs, neW_strs, eqW_none, eqW_in, eqW_ni, ixD_list, ixD_tuple, ixD_scr, atI_3_0, atI_3_1, atI_3_2, ixN_3_0, ixN_3_1, ixN_3_2, wipeR, zip2D, skOf, isiD_n, isiD_b, isiD_i, isiD_s, isiD_l, isiD_t, isiTD_n, isiTD_b, isiTD_i, isiTD_s, isiTD_l, isiTD_t, isiAny, eCallX, eCallWX, xE, xIf, xL, xCb1, sSetX, sRetX, sDropX, sRaise, sTo, eMk, isX_n, sKeep, kt_ll, kt_lt, kt_ls, kt_li, kt_lb, kt_tl, kt_tt, kt_ts, kt_ti, kt_tb, kt_sl, kt_st, kt_ss, kt_si, kt_sb, kt_il, kt_it, kt_is, kt_ii, kt_ib, kt_bl, kt_bt, kt_bs, kt_bi, kt_bb, kt_nl, kt_nt, kt_ns, kt_ni, kt_nb, eqW_bools, neW_bools, isD_none, isNotD_none, isNoneD, isNone_e, List.map_cons, List.map_nil, List.replicate, List.append_nil, List.cons_append, List.nil_append, nc0, nc1, nc2, nc3, nc4, nc5, nc6, nc7, nc8, nc9, nc10, nc11, nc12, nc13, nc14, nc15, nc16, nc17, nc18, nc19, nc20, Nat.reduceAdd, Nat.reduceSub, ne_eq, decide_true, decide_false, not_true_eq_false, not_false_eq_true, reduceCtorEq, Bool.and_true, Bool.true_and, Bool.and_false, Bool.false_and, Bool.or_true, Bool.true_or, Bool.or_false, Bool.false_or, Bool.not_true, Bool.not_false])
local macro_rules | `(tactic| walk_at "evh") => `(tactic| simp only [eC, eV, oE, oV, eL, eT, aNil, aCons, eOp2, eOp1, eApp, tstE, eB, tNotG, tAndG, tOrG, eAndG, eOrG, eNotG, eIf, eSeq, eCall, eCallO, eCallB, eCallBF, eCallBX, sSeq, sNext, sRet, sRetF, sRetO, sRetN, sDrop, sIf, sSet, sSetO, sBreak, sCont, sBad, sPar, sPar3, fz, sFz, eCallW, idL, sApp, sPutIx, sAug, sFor, gN, gT, gsCons, gsNil, gYes, eLc, gSeq, nS, nF, Nw.sl, R.ok_bind, R.ok_map, R.lift_some, to_ok, toX_ok, toX_ex, bind_nx, bind_rt, bind_rf, bind_ex, bind_bk, bind_ct, at_ok, at_ex, res_val, map_ex, rbind_ex, Op.res, resA, valA, isOw, box0, Option.map_some, Option.bind_some, sHeardT, nlCons, nlNil, Nw.dat, mSet, eChain, eRg1, eRg2, eSl, pNo, pSo,
  List.getElem?_cons_zero, List.getElem?_cons_succ, List.set_cons_zero, List.set_cons_succ, List.length_cons, List.length_nil, if_true, if_false, Bool.false_eq_true, ite_true, ite_false, reduceIte,
  addU_int, subD_int, ltD_int, leD_int, gtD_int, geD_int, negD_int, absD_int, intD_bool, intD_int, lenD_list, lenD_tuple, lenD_scr, pow10_7, pow10_18, pow10_40, eqW_ints, neW_ints, eqW_strs, neW_strs, eqW_none, eqW_in, eqW_ni, ixD_list, ixD_tuple, ixD_scr, atI_3_0, atI_3_1, atI_3_2, ixN_3_0, ixN_3_1, ixN_3_2, wipeR, zip2D, skOf, isiD_n, isiD_b, isiD_i, isiD_s, isiD_l, isiD_t, isiTD_n, isiTD_b, isiTD_i, isiTD_s, isiTD_l, isiTD_t, isiAny, eCallX, eCallWX, xE, xIf, xL, xCb1, sSetX, sRetX, sDropX, sRaise, sTo, eMk, isX_n, sKeep, kt_ll, kt_lt, kt_ls, kt_li, kt_lb, kt_tl, kt_tt, kt_ts, kt_ti, kt_tb, kt_sl, kt_st, kt_ss, kt_si, kt_sb, kt_il, kt_it, kt_is, kt_ii, kt_ib, kt_bl, kt_bt, kt_bs, kt_bi, kt_bb, kt_nl, kt_nt, kt_ns, kt_ni, kt_nb, eqW_bools, neW_bools, isD_none, isNotD_none, isNoneD, isNone_e, List.map_cons, List.map_nil, List.replicate, List.append_nil, List.cons_append, List.nil_append, nc0, nc1, nc2, nc3, nc4, nc5, nc6, nc7, nc8, nc9, nc10, nc11, nc12, nc13, nc14, nc15, nc16, nc17, nc18, nc19, nc20, Nat.reduceAdd, Nat.reduceSub, ne_eq, decide_true, decide_false, not_true_eq_false, not_false_eq_true, reduceCtorEq, Bool.and_true, Bool.true_and, Bool.and_false, Bool.false_and, Bool.or_true, Bool.true_or, Bool.or_false, Bool.false_or, Bool.not_true, Bool.not_false, *])
/-! the law's own pieces -/
def pcD (x : OP) : D := .tuple [ptD x, .bool x.2.2.1, .bool x.2.2.2]
theorem gaps_snoc (f l : Int) : ∀ (es : List Int) (x y : Int), gapsO f l (es ++ [x, y]) = gapsO f l (es ++ [x]) ++ (if 1 < y - x then [(x + 1, y - 1, decide (f ≤ x), decide (y ≤ l))] else [])
  | [], x, y => by
    show (if 1 < y - x then [(x + 1, y - 1, decide (f ≤ x), decide (y ≤ l))] else []) ++ [] = [] ++ _
    rw [List.append_nil, List.nil_append]
  | [z], x, y => by
    have ih := gaps_snoc f l [] x y
    show (if 1 < x - z then _ else []) ++ gapsO f l ([] ++ [x, y]) = ((if 1 < x - z then _ else []) ++ gapsO f l ([] ++ [x])) ++ _
    rw [ih, List.append_assoc]
  | z :: w :: es, x, y => by
    have ih := gaps_snoc f l (w :: es) x y
    show (if 1 < w - z then _ else []) ++ gapsO f l ((w :: es) ++ [x, y]) = ((if 1 < w - z then _ else []) ++ gapsO f l ((w :: es) ++ [x])) ++ _
    rw [ih, List.append_assoc]
theorem pc_A {r q : D} {F O : List D} {f l i a b : Int} (d : decide (i ≤ l) = true) (x1 : ixD r (.int i) = some (.int a)) (x2 : ixD q (.int i) = some (.int b)) (hc : decide (a = b) = false) (hz : O.length < sizeLine) :
    gb__law_pieces_1 [.sh r, .sh q, .ow F, .sh (.int f), .sh (.int l), .ow O, .sh (.int i)] = .nx [.sh r, .sh q, .ow F, .sh (.int f), .sh (.int l), .ow (O ++ [.int i]), .sh (.int i)] := by
  unfold gb__law_pieces_1
  walk_at "evh"
theorem pc_t {s2 s3 s5 : Sl} {r q : D} {l i a b : Int} (h : decide (i ≤ l) = true → ixD r (.int i) = some (.int a) ∧ ixD q (.int i) = some (.int b) ∧ decide (a = b) = true) : (tAndG (tstE (eOp2 leD (oE (eV 6)) (oE (eV 4)))) (tstE (eOp2 neW (oE (eOp2 ixD (oE (eV 0)) (oE (eV 6)))) (oE (eOp2 ixD (oE (eV 1)) (oE (eV 6))))))) [.sh r, .sh q, s2, s3, .sh (.int l), s5, .sh (.int i)] = .ok false [.sh r, .sh q, s2, s3, .sh (.int l), s5, .sh (.int i)] := by
  cases d : decide (i ≤ l) with
  | false => clear h; walk_at "evh"
  | true =>
    obtain ⟨h1, h2, h3⟩ := h d
    clear h
    walk_at "evh"
theorem pc_B {r q : D} {F O : List D} {f l i o0 o1 : Int} {a b : Int} (h : decide (i ≤ l) = true → ixD r (.int i) = some (.int a) ∧ ixD q (.int i) = some (.int b) ∧ decide (a = b) = true) (nw : neW (.list O) (.list []) = some (.bool true)) (x0 : atI O 0 = some (.int o0)) (x1 : atI O (-1) = some (.int o1)) (hz : F.length < sizeLine) :
    gb__law_pieces_1 [.sh r, .sh q, .ow F, .sh (.int f), .sh (.int l), .ow O, .sh (.int i)] = .nx [.sh r, .sh q, .ow (F ++ [.tuple [.tuple O, .bool (decide (f < o0)), .bool (decide (o1 < l))]]), .sh (.int f), .sh (.int l), .ow [], .sh (.int i)] := by
  unfold gb__law_pieces_1
  refine sIf_f (pc_t h) ?_
  have z0 : 0 ≤ sizeLine := by decide
  have z3 : 3 ≤ sizeLine := by decide
  have tu : tupleD [.list O] = some (.tuple O) := rfl
  clear h
  walk_at "evh"
theorem pc_C {r q : D} {F : List D} {f l i : Int} {a b : Int} (h : decide (i ≤ l) = true → ixD r (.int i) = some (.int a) ∧ ixD q (.int i) = some (.int b) ∧ decide (a = b) = true) (nw : neW (.list []) (.list []) = some (.bool false)) :
    gb__law_pieces_1 [.sh r, .sh q, .ow F, .sh (.int f), .sh (.int l), .ow [], .sh (.int i)] = .nx [.sh r, .sh q, .ow F, .sh (.int f), .sh (.int l), .ow [], .sh (.int i)] := by
  unfold gb__law_pieces_1
  refine sIf_f (pc_t h) ?_
  have z0 : 0 ≤ sizeLine := by decide
  clear h
  walk_at "evh"
def stB (ns ms : List Int) (l p : Int) : Bool := decide (l < p) || decide (nat ns p = nat ms p)
theorem st_all {ns ms : List Int} {f l : Int} (h : f ≤ l + 1) : (f - 1) :: (rngI f (l + 2 - f).toNat).filter (stB ns ms l) = edgesL ns ms f l := by
  unfold edgesL stL
  congr 1
  rw [show (l + 2 - f).toNat = (l + 1 - f).toNat + 1 by omega, rngI_succ, List.filter_append]
  congr 1
  · refine List.filter_congr fun p hp => ?_
    have := mem_rngI hp
    unfold stB
    rw [decide_eq_false (by omega : ¬ l < p)]; rfl
  · rw [show f + ((l + 1 - f).toNat : Int) = l + 1 by omega, List.filter_cons, if_pos (by unfold stB; rw [decide_eq_true (by omega : l < l + 1)]; rfl)]; rfl
theorem rngI_atI0 {x : Int} {m : Nat} (h : 0 < m) : atI ((rngI x m).map PyData.int) 0 = some (.int x) := by
  refine atI_of (n := 0) rfl ?_
  unfold rngI
  rw [List.map_map, List.getElem?_map, List.getElem?_range h, Option.map_some]
  simp
theorem rngI_atI1 {x : Int} {m : Nat} : atI ((rngI x (m + 1)).map PyData.int) (-1) = some (.int (x + m)) := by
  rw [rngI_succ, List.map_append]
  exact DL.atI_last _ _
theorem neW_rng {x : Int} {m : Nat} : neW (.list ((rngI x m).map PyData.int)) (.list []) = some (.bool (decide (0 < m))) := by
  have := neW_li (rngI x m) []
  rw [List.map_nil] at this
  rw [this]
  congr 2
  rw [← decide_not]
  refine decide_eq_decide.mpr ⟨fun h => ?_, fun h z => ?_⟩
  · cases m with
    | zero => exact absurd rfl h
    | succ m => omega
  · have := rngI_len x m
    rw [z] at this
    simp at this
    omega
theorem pc_for {r q : D} {ns ms : List Int} {f l : Int} {F0 : List D} {O0 : Sl} (hr : Sq r (ns.map .int)) (hq : Sq q (ms.map .int)) (h : ms.length = ns.length) (hl : ns.length ≤ 60) (h0 : 0 ≤ f) (h1 : f ≤ l) (h3 : l < ns.length) (hz : F0.length ≤ 4000) :
    ∃ O t6, forL (gN 6) gb__law_pieces_1 (rangeD f (l + 2 - f).toNat) [.sh r, .sh q, .ow F0, .sh (.int f), .sh (.int l), .ow [], O0] = .nx [.sh r, .sh q, .ow (F0 ++ (gapsO f l (edgesL ns ms f l)).map pcD), .sh (.int f), .sh (.int l), .ow O, t6] := by
  obtain ⟨ρ', e, pre, x, s6, ee, hx0, hx1, rfl⟩ := for_inv (k := gN 6) (b := gb__law_pieces_1) (ds := rangeD f (l + 2 - f).toNat)
    (fun i ρ => ∃ pre x s6, (f - 1) :: (rngI f i).filter (stB ns ms l) = pre ++ [x] ∧ f - 1 ≤ x ∧ x < f + (i : Int) ∧ ρ = [.sh r, .sh q, .ow (F0 ++ (gapsO f l (pre ++ [x])).map pcD), .sh (.int f), .sh (.int l), .ow ((rngI (x + 1) (f + (i : Int) - 1 - x).toNat).map .int), s6])
    (fun i d ρ hd hh => by
      obtain ⟨pre, x, s6, ee, hx0, hx1, rfl⟩ := hh
      have hi : i < (l + 2 - f).toNat := by
        have := (List.getElem?_eq_some_iff.mp hd).1
        rw [rangeD_len] at this
        exact this
      rw [rangeD_get hi] at hd
      cases hd
      have gl := gaps_le f l (pre ++ [x])
      have pl : (pre ++ [x]).length ≤ 1 + i := by
        rw [← ee, List.length_cons]
        have := List.length_filter_le (stB ns ms l) (rngI f i)
        rw [rngI_len] at this
        omega
      have F1 : (F0 ++ (gapsO f l (pre ++ [x])).map pcD).length < sizeLine := by
        rw [List.length_append, List.length_map]
        exact size_lt (by omega)
      refine ⟨_, rfl, ?_⟩
      cases hs : stB ns ms l (f + (i : Int)) with
      | false =>
        unfold stB at hs
        rw [Bool.or_eq_false_iff] at hs
        have hle : f + (i : Int) ≤ l := by have := of_decide_eq_false hs.1; omega
        refine ⟨_, .inl (pc_A (decide_eq_true hle) (hr.ix (by omega) (by omega)) (hq.ix (by omega) (by omega)) hs.2 ?_), pre, x, .sh (.int (f + (i : Int))), ?_, hx0, by omega, ?_⟩
        · rw [List.length_map, rngI_len]; exact size_lt (by omega)
        · rw [rngI_succ, List.filter_append, List.filter_cons, if_neg (by unfold stB; rw [hs.1, hs.2]; simp), List.filter_nil, List.append_nil]
          exact ee
        · rw [show (f + ((i + 1 : Nat) : Int) - 1 - x).toNat = (f + (i : Int) - 1 - x).toNat + 1 by omega, rngI_succ, List.map_append, show x + 1 + ((f + (i : Int) - 1 - x).toNat : Int) = f + (i : Int) by omega]
          rfl
      | true =>
        have hB : decide (f + (i : Int) ≤ l) = true → ixD r (.int (f + (i : Int))) = some (.int (nat ns (f + (i : Int)))) ∧ ixD q (.int (f + (i : Int))) = some (.int (nat ms (f + (i : Int)))) ∧ decide (nat ns (f + (i : Int)) = nat ms (f + (i : Int))) = true := fun z => by
          have z := of_decide_eq_true z
          refine ⟨hr.ix (by omega) (by omega), hq.ix (by omega) (by omega), ?_⟩
          unfold stB at hs
          rw [decide_eq_false (by omega : ¬ l < f + (i : Int)), Bool.false_or] at hs
          exact hs
        have en : (f - 1) :: (rngI f (i + 1)).filter (stB ns ms l) = (pre ++ [x]) ++ [f + (i : Int)] := by
          rw [rngI_succ, List.filter_append, List.filter_cons, if_pos hs, List.filter_nil, ← List.cons_append, ee]
        have eg : gapsO f l ((pre ++ [x]) ++ [f + (i : Int)]) = gapsO f l (pre ++ [x]) ++ (if 1 < f + (i : Int) - x then [(x + 1, f + (i : Int) - 1, decide (f ≤ x), decide (f + (i : Int) ≤ l))] else []) := by
          rw [List.append_assoc]
          exact gaps_snoc f l pre x (f + (i : Int))
        have e0 : (rngI (f + (i : Int) + 1) (f + ((i + 1 : Nat) : Int) - 1 - (f + (i : Int))).toNat).map PyData.int = [] := by
          rw [show (f + ((i + 1 : Nat) : Int) - 1 - (f + (i : Int))).toNat = 0 by omega]; rfl
        by_cases hg : 1 < f + (i : Int) - x
        · obtain ⟨m, hm⟩ : ∃ m : Nat, (f + (i : Int) - 1 - x).toNat = m + 1 := ⟨(f + (i : Int) - 1 - x).toNat - 1, by omega⟩
          rw [hm]
          refine ⟨_, .inl (pc_B hB ?_ (rngI_atI0 (by omega)) rngI_atI1 F1), pre ++ [x], f + (i : Int), .sh (.int (f + (i : Int))), en, by omega, by omega, ?_⟩
          · rw [neW_rng, decide_eq_true (by omega)]
          · rw [eg, if_pos hg, e0, List.map_append, ← List.append_assoc]
            have ep : PyData.tuple [.tuple ((rngI (x + 1) (m + 1)).map .int), .bool (decide (f < x + 1)), .bool (decide (x + 1 + (m : Int) < l))] = pcD (x + 1, f + (i : Int) - 1, decide (f ≤ x), decide (f + (i : Int) ≤ l)) := by
              unfold pcD ptD
              dsimp only
              rw [rngI_d, show (f + (i : Int) - 1 + 1 - (x + 1)).toNat = m + 1 by omega, decide_eq_decide.mpr (show f < x + 1 ↔ f ≤ x by omega), decide_eq_decide.mpr (show x + 1 + (m : Int) < l ↔ f + (i : Int) ≤ l by omega)]
            rw [ep]; rfl
        · rw [show (f + (i : Int) - 1 - x).toNat = 0 by omega]
          refine ⟨_, .inl (pc_C hB ?_), pre ++ [x], f + (i : Int), .sh (.int (f + (i : Int))), en, by omega, by omega, ?_⟩
          · have := neW_rng (x := 0) (m := 0)
            exact this
          · rw [eg, if_neg hg, e0, List.append_nil])
    (ρ := [.sh r, .sh q, .ow F0, .sh (.int f), .sh (.int l), .ow [], O0]) ⟨[], f - 1, O0, rfl, by omega, by omega, by
      rw [show (f + ((0 : Nat) : Int) - 1 - (f - 1)).toNat = 0 by omega, show (gapsO f l ([] ++ [f - 1])).map pcD = [] from rfl, List.append_nil]; rfl⟩
  rw [rangeD_len] at ee
  rw [st_all (by omega)] at ee
  rw [← ee] at e
  exact ⟨_, s6, e⟩
theorem pc_rg {r q : D} {f l : Int} {E : List D} {s2 s5 s6 : Sl} (rg : rng2 [.int f, .int (l + 2)] = some E) : (eCall rng2 (aCons (oE (eV 3)) (aCons (oE (eOp2 addU (oE (eV 4)) (oE (eC (.int 2))))) aNil))) [.sh r, .sh q, s2, .sh (.int f), .sh (.int l), s5, s6] = .ok E [.sh r, .sh q, s2, .sh (.int f), .sh (.int l), s5, s6] := by
  walk_at "evh"
theorem pc_own {r q : D} {s2 s3 s4 s5 s6 : Sl} (z : 0 ≤ sizeLine) : (sSetO 5 (eSeq aNil)) [.sh r, .sh q, s2, s3, s4, s5, s6] = .nx [.sh r, .sh q, s2, s3, s4, .ow [], s6] := by
  walk_at "evh"
theorem pc_runs {r q : D} {ns ms : List Int} (hr : Sq r (ns.map .int)) (hq : Sq q (ms.map .int)) (h : ms.length = ns.length) (hl : ns.length ≤ 60) : ∀ (ps : List (Int × Int)) {F : List D} {s3 s4 s5 s6 : Sl}, (∀ p ∈ ps, 0 ≤ p.1 ∧ p.1 ≤ p.2 ∧ p.2 < (ms.length : Int)) → F.length + 62 * ps.length ≤ 4000 →
    ∃ t3 t4 t5 t6, forL (gT 2 (gsCons (gN 3) (gsCons (gN 4) gsNil))) gb__law_pieces_2 (ps.map prD) [.sh r, .sh q, .ow F, s3, s4, s5, s6] = .nx [.sh r, .sh q, .ow (F ++ (ps.flatMap fun p => gapsO p.1 p.2 (edgesL ns ms p.1 p.2)).map pcD), t3, t4, t5, t6]
  | [], F, s3, s4, s5, s6, _, _ => ⟨s3, s4, s5, s6, by
      show O.nx _ = O.nx [_, _, .ow (F ++ []), _, _, _, _]
      rw [List.append_nil]⟩
  | p :: ps, F, s3, s4, s5, s6, hp, hz => by
    obtain ⟨p1, p2, p4⟩ := hp p List.mem_cons_self
    have hz' : F.length + 62 * (ps.length + 1) ≤ 4000 := hz
    obtain ⟨O, t6, e⟩ := pc_for (f := p.1) (l := p.2) (F0 := F) (O0 := s6) hr hq h hl p1 p2 (by omega) (by omega)
    have gl := gaps_le p.1 p.2 (edgesL ns ms p.1 p.2)
    have hs := stL_len ns ms p.1 p.2
    have el : (edgesL ns ms p.1 p.2).length = (stL ns ms p.1 p.2).length + 2 := by unfold edgesL; simp
    obtain ⟨u3, u4, u5, u6, e2⟩ := pc_runs hr hq h hl ps (F := F ++ (gapsO p.1 p.2 (edgesL ns ms p.1 p.2)).map pcD) (s3 := .sh (.int p.1)) (s4 := .sh (.int p.2)) (s5 := .ow O) (s6 := t6) (fun x hx => hp x (List.mem_cons_of_mem _ hx)) (by rw [List.length_append, List.length_map]; omega)
    have rg : rng2 [.int p.1, .int (p.2 + 2)] = some (rangeD p.1 (p.2 + 2 - p.1).toNat) := if_pos (by omega)
    have eb : gb__law_pieces_2 [.sh r, .sh q, .ow F, .sh (.int p.1), .sh (.int p.2), s5, s6] = _ := seq_nx (pc_own (by decide)) (sFor_nx (pc_rg rg) e)
    refine ⟨u3, u4, u5, u6, for_cons (ρ1 := [.sh r, .sh q, .ow F, .sh (.int p.1), .sh (.int p.2), s5, s6]) rfl eb (e2.trans ?_)⟩
    rw [List.flatMap_cons, List.map_append, List.append_assoc]
theorem pc_go {r q : D} {Rs F : List D} {s3 s4 s5 s6 : Sl} (e : F__law_heaps [q] = some Rs) (z : 0 ≤ sizeLine) (f : forL (gT 2 (gsCons (gN 3) (gsCons (gN 4) gsNil))) gb__law_pieces_2 Rs [.sh r, .sh q, .ow [], .no, .no, .no, .no] = .nx [.sh r, .sh q, .ow F, s3, s4, s5, s6]) : F__law_pieces [r, q] = some F := by
  have it : itemsD (.list Rs) = some Rs := rfl
  unfold F__law_pieces callF g__law_pieces env0
  walk_at "evh"
theorem pieces_eq {r q : D} {ns ms : List Int} (hr : Sq r (ns.map .int)) (hq : Sq q (ms.map .int)) (h : ms.length = ns.length) (hl : ns.length ≤ 60) : F__law_pieces [r, q] = some ((opL ns ms).map pcD) := by
  have lb := begs_len ms ms.length
  obtain ⟨t3, t4, t5, t6, f⟩ := pc_runs hr hq h hl (runsOf (begs ms ms.length) ms.length) (F := []) (s3 := .no) (s4 := .no) (s5 := .no) (s6 := .no) (fun p hp => by
    obtain ⟨p1, p2, p3, p4⟩ := runs_in _ _ begs_in p hp
    exact ⟨p1, runs_le hp, p4⟩) (by rw [runs_len]; simp; omega)
  exact pc_go (heaps_eq hq (by omega)) (by decide) f
end W

namespace W
open PySem L2 DL
local macro_rules | `(tactic| walk_at "ev") => `(tactic| simp only [eC, eV, oE, oV, eL, eT, aNil, aCons, eOp2, eOp1, eApp, tstE, eB, tNotG, tAndG, tOrG, eAndG, eOrG, eNotG, eIf, eSeq, eCall, eCallO, eCallB, eCallBF, eCallBX, sSeq, sNext, sRet, sRetF, sRetO, sRetN, sDrop, sIf, sSet, sSetO, sBreak, sCont, sBad, sPar, sPar3, fz, sFz, eCallW, idL, sApp, sPutIx, sAug, sFor, gN, gT, gsCons, gsNil, gYes, eLc, gSeq, nS, nF, Nw.sl, R.ok_bind, R.ok_map, R.lift_some, to_ok, toX_ok, toX_ex, bind_nx, bind_rt, bind_rf, bind_ex, bind_bk, bind_ct, at_ok, at_ex, res_val, map_ex, rbind_ex, Op.res, resA, valA, isOw, box0, Option.map_some, Option.bind_some, sHeardT, nlCons, nlNil, Nw.dat, mSet, eChain, eRg1, eRg2, eSl, pNo, pSo,
  List.getElem?_cons_zero, List.getElem?_cons_succ, List.set_cons_zero, List.set_cons_succ, List.length_cons, List.length_nil, if_true, if_false, Bool.false_eq_true, ite_true, ite_false, reduceIte,
  addU_int, subD_int, ltD_int, leD_int, gtD_int, geD_int, negD_int, absD_int, intD_bool, intD_int, lenD_list, lenD_tuple, lenD_scr, pow10_7, pow10_18, pow10_40, eqW_ints, neW_ints, eqW_strs, neW_strs, eqW_none, eqW_in, eqW_ni, ixD_list, ixD_tuple, ixD_scr, atI_3_0, atI_3_1, atI_3_2, ixN_3_0, ixN_3_1, ixN_3_2, wipeR, zip2D, skOf, isiD_n, isiD_b, isiD_i, isiD_s, isiD_l, isiD_t, isiTD_n, isiTD_b, isiTD_i, isiTD_s, isiTD_l, isiTD_t, isiAny, eCallX, eCallWX, xE, xIf, xL, xCb1, sSetX, sRetX, sDropX, sRaise, sTo, eMk, isX_n, sKeep, kt_ll, kt_lt, kt_ls, kt_li, kt_lb, kt_tl, kt_tt, kt_ts, kt_ti, kt_tb, kt_sl, kt_st, kt_ss, kt_si, kt_sb, kt_il, kt_it, kt_is, kt_ii, kt_ib, kt_bl, kt_bt, kt_bs, kt_bi, kt_bb, kt_nl, kt_nt, kt_ns, kt_ni, kt_nb, eqW_bools, neW_bools, isD_none, isNotD_none, isNoneD, isNone_e, List.map_cons, List.map_nil, List.replicate, List.append_nil, List.cons_append, List.nil_append, nc0, nc1, nc2, nc3, nc4, nc5, nc6, nc7, nc8, nc9, nc10, nc11, nc12, nc13, nc14, nc15, nc16, nc17, nc18, nc19, nc20, Nat.reduceAdd, Nat.reduceSub, ne_eq, decide_true, decide_false, not_true_eq_false, not_false_eq_true, reduceCtorEq, Bool.and_true, Bool.true_and, Bool.and_false, Bool.false_and, Bool.or_true, Bool.true_or, Bool.or_false, Bool.false_or, Bool.not_true, Bool.not_false])
local macro_rules | `(tactic| walk_at "evh") => `(tactic| simp only [eC, eV, oE, oV, eL, eT, aNil, aCons, eOp2, eOp1, eApp, tstE, eB, tNotG, tAndG, tOrG, eAndG, eOrG, eNotG, eIf, eSeq, eCall, eCallO, eCallB, eCallBF, eCallBX, sSeq, sNext, sRet, sRetF, sRetO, sRetN, sDrop, sIf, sSet, sSetO, sBreak, sCont, sBad, sPar, sPar3, fz, sFz, eCallW, idL, sApp, sPutIx, sAug, sFor, gN, gT, gsCons, gsNil, gYes, eLc, gSeq, nS, nF, Nw.sl, R.ok_bind, R.ok_map, R.lift_some, to_ok, toX_ok, toX_ex, bind_nx, bind_rt, bind_rf, bind_ex, bind_bk, bind_ct, at_ok, at_ex, res_val, map_ex, rbind_ex, Op.res, resA, valA, isOw, box0, Option.map_some, Option.bind_some, sHeardT, nlCons, nlNil, Nw.dat, mSet, eChain, eRg1, eRg2, eSl, pNo, pSo,
  List.getElem?_cons_zero, List.getElem?_cons_succ, List.set_cons_zero, List.set_cons_succ, List.length_cons, List.length_nil, if_true, if_false, Bool.false_eq_true, ite_true, ite_false, reduceIte,
  addU_int, subD_int, ltD_int, leD_int, gtD_int, geD_int, negD_int, absD_int, intD_bool, intD_int, lenD_list, lenD_tuple, lenD_scr, pow10_7, pow10_18, pow10_40, eqW_ints, neW_ints, eqW_strs, neW_strs, eqW_none, eqW_in, eqW_ni, ixD_list, ixD_tuple, ixD_scr, atI_3_0, atI_3_1, atI_3_2, ixN_3_0, ixN_3_1, ixN_3_2, wipeR, zip2D, skOf, isiD_n, isiD_b, isiD_i, isiD_s, isiD_l, isiD_t, isiTD_n, isiTD_b, isiTD_i, isiTD_s, isiTD_l, isiTD_t, isiAny, eCallX, eCallWX, xE, xIf, xL, xCb1, sSetX, sRetX, sDropX, sRaise, sTo, eMk, isX_n, sKeep, kt_ll, kt_lt, kt_ls, kt_li, kt_lb, kt_tl, kt_tt, kt_ts, kt_ti, kt_tb, kt_sl, kt_st, kt_ss, kt_si, kt_sb, kt_il, kt_it, kt_is, kt_ii, kt_ib, kt_bl, kt_bt, kt_bs, kt_bi, kt_bb, kt_nl, kt_nt, kt_ns, kt_ni, kt_nb, eqW_bools, neW_bools, isD_none, isNotD_none, isNoneD, isNone_e, List.map_cons, List.map_nil, List.replicate, List.append_nil, List.cons_append, List.nil_append, nc0, nc1, nc2, nc3, nc4, nc5, nc6, nc7, nc8, nc9, nc10, nc11, nc12, nc13, nc14, nc15, nc16, nc17, nc18, nc19, nc20, Nat.reduceAdd, Nat.reduceSub, ne_eq, decide_true, decide_false, not_true_eq_false, not_false_eq_true, reduceCtorEq, Bool.and_true, Bool.true_and, Bool.and_false, Bool.false_and, Bool.or_true, Bool.true_or, Bool.or_false, Bool.false_or, Bool.not_true, Bool.not_false, *])
/-! runs: each person in one, all of one number; who can be called first -/
theorem runs_free : ∀ (b : List Int) (n : Int), b.Pairwise (· < ·) → ∀ q ∈ runsOf b n, ∀ z, q.1 < z → z ≤ q.2 → z ∉ b
  | [], n, _ => fun q hq => nomatch hq
  | [x], n, _ => fun q hq z z0 z1 hz => by
    cases List.mem_singleton.mp hq
    have := List.mem_singleton.mp hz
    dsimp only at z0
    omega
  | x :: y :: r, n, hw => fun q hq z z0 z1 hz => by
    have hw := List.pairwise_cons.mp hw
    have hxy := hw.1 y List.mem_cons_self
    have hy := (List.pairwise_cons.mp hw.2).1
    rcases List.mem_cons.mp hq with e | hq
    · cases e
      dsimp only at z0 z1
      rcases List.mem_cons.mp hz with e | hz
      · omega
      · rcases List.mem_cons.mp hz with e | hz
        · omega
        · have := hy z hz; omega
    · rcases List.mem_cons.mp hz with e | hz
      · rcases List.mem_cons.mp (runs_ok (y :: r) n q hq).1 with e2 | e2
        · omega
        · have := hy _ e2; omega
      · exact runs_free (y :: r) n hw.2 q hq z z0 z1 hz
theorem runs_cover : ∀ (r : List Int) (x n : Int), (x :: r).Pairwise (· < ·) → ∀ p, x ≤ p → p < n → ∃ q ∈ runsOf (x :: r) n, q.1 ≤ p ∧ p ≤ q.2
  | [], x, n, _, p, h0, h1 => ⟨(x, n - 1), List.mem_singleton.mpr rfl, h0, by dsimp only; omega⟩
  | y :: r, x, n, hw, p, h0, h1 => by
    by_cases hp : p < y
    · exact ⟨(x, y - 1), List.mem_cons_self, h0, by dsimp only; omega⟩
    · obtain ⟨q, hq, q1, q2⟩ := runs_cover r y n (List.pairwise_cons.mp hw).2 p (by omega) h1
      exact ⟨q, List.mem_cons_of_mem _ hq, q1, q2⟩
theorem beg_of {ms : List Int} {n : Nat} {x : Int} (h0 : 0 ≤ x) (h1 : x < n) (h : x ∉ begs ms n) : nat ms x = nat ms (x - 1) := by
  have : isBeg ms x = false := by
    cases e : isBeg ms x with
    | false => rfl
    | true => exact absurd (List.mem_filter.mpr ⟨in_rngI h0 (by omega), e⟩) h
  unfold isBeg at this
  rw [Bool.or_eq_false_iff] at this
  simpa using this.2
theorem run_same {ms : List Int} {q : Int × Int} (hq : q ∈ runsOf (begs ms ms.length) ms.length) {z : Int} (z0 : q.1 ≤ z) (z1 : z ≤ q.2) : nat ms z = nat ms q.1 := by
  obtain ⟨a1, a2, a3, a4⟩ := runs_in _ _ begs_in q hq
  have go : ∀ k : Nat, q.1 + k ≤ q.2 → nat ms (q.1 + k) = nat ms q.1 := fun k => by
    induction k with
    | zero => intro _; rw [show q.1 + ((0 : Nat) : Int) = q.1 by omega]
    | succ k ih =>
      intro hk
      have b := beg_of (ms := ms) (n := ms.length) (x := q.1 + ((k + 1 : Nat) : Int)) (by omega) (by omega) (runs_free _ _ (begs_pw ms ms.length) q hq _ (by omega) (by omega))
      rw [b, show q.1 + ((k + 1 : Nat) : Int) - 1 = q.1 + (k : Int) by omega]
      exact ih (by omega)
  have := go (z - q.1).toNat (by omega)
  rw [show q.1 + ((z - q.1).toNat : Int) = z by omega] at this
  exact this
theorem run_at {ms : List Int} {p : Int} (h0 : 0 ≤ p) (h1 : p < ms.length) : ∃ q ∈ runsOf (begs ms ms.length) ms.length, q.1 ≤ p ∧ p ≤ q.2 := by
  have hb : (0 : Int) ∈ begs ms ms.length := List.mem_filter.mpr ⟨in_rngI (Int.le_refl 0) (by omega), rfl⟩
  cases e : begs ms ms.length with
  | nil => rw [e] at hb; exact nomatch hb
  | cons x r =>
    have pw := begs_pw ms ms.length
    have hi : ∀ y ∈ begs ms ms.length, 0 ≤ y ∧ y < (ms.length : Int) := begs_in
    rw [e] at pw hi hb
    have x0 : x ≤ 0 := by
      rcases List.mem_cons.mp hb with z | z
      · omega
      · have := (List.pairwise_cons.mp pw).1 0 z; omega
    exact runs_cover r x ms.length pw p (by omega) h1
theorem run_left {ms : List Int} {q : Int × Int} {p : Int} (hq : q ∈ runsOf (begs ms ms.length) ms.length) (h0 : 1 ≤ p) (h : q.1 ≤ p) (e : nat ms (p - 1) = nat ms p) : q.1 ≤ p - 1 := by
  by_cases z : q.1 ≤ p - 1
  · exact z
  · have := beg_ne (runs_ok _ _ q hq).1 (by omega)
    rw [show q.1 = p by omega] at this
    exact absurd e.symm this
theorem run_right {ms : List Int} {q : Int × Int} {p : Int} (hq : q ∈ runsOf (begs ms ms.length) ms.length) (h0 : 0 ≤ p) (h1 : p + 1 < ms.length) (h : p ≤ q.2) (e : nat ms (p + 1) = nat ms p) : p + 1 ≤ q.2 := by
  by_cases z : p + 1 ≤ q.2
  · exact z
  · rcases (runs_ok _ _ q hq).2 with k | k
    · omega
    · have := beg_ne k (by omega)
      rw [show q.2 + 1 = p + 1 by omega, show p + 1 - 1 = p by omega] at this
      exact absurd e this
theorem edge_in {ns ms : List Int} {f l z : Int} (h : z ∈ edgesL ns ms f l) : z = f - 1 ∨ z ∈ stL ns ms f l ∨ z = l + 1 := by
  rcases List.mem_cons.mp h with h | h
  · exact .inl h
  · rcases List.mem_append.mp h with h | h
    · exact .inr (.inl h)
    · exact .inr (.inr (List.mem_singleton.mp h))
/-- two neighbours among the edges: nobody between them stayed -/
theorem edge_gap {es pre post : List Int} {x y z : Int} (hw : es.Pairwise (· < ·)) (e : es = pre ++ x :: y :: post) (hz : z ∈ es) (h0 : x < z) (h1 : z < y) : False := by
  rw [e] at hw hz
  rw [List.pairwise_append] at hw
  obtain ⟨_, w2, w3⟩ := hw
  have w2 := List.pairwise_cons.mp w2
  have w4 := List.pairwise_cons.mp w2.2
  rcases List.mem_append.mp hz with hz | hz
  · have := w3 z hz x List.mem_cons_self; omega
  · rcases List.mem_cons.mp hz with hz | hz
    · omega
    · rcases List.mem_cons.mp hz with hz | hz
      · omega
      · have := w4.1 z hz; omega
/-- behind each member but the last one stands a next one -/
theorem next_in : ∀ {es : List Int} {x z : Int}, es.Pairwise (· < ·) → x ∈ es → z ∈ es → x < z → ∃ pre y post, es = pre ++ x :: y :: post
  | a :: r, x, z, hw, hx, hz, h => by
    have hw := List.pairwise_cons.mp hw
    rcases List.mem_cons.mp hx with e1 | hx'
    · cases r with
      | nil =>
        have := List.mem_singleton.mp hz
        omega
      | cons y r => exact ⟨[], y, r, by rw [e1]; rfl⟩
    · have hz' : z ∈ r := by
        rcases List.mem_cons.mp hz with e2 | hz'
        · have := hw.1 x hx'; omega
        · exact hz'
      obtain ⟨pre, y, post, e3⟩ := next_in hw.2 hx' hz' h
      exact ⟨a :: pre, y, post, by rw [e3]; rfl⟩
theorem prev_in : ∀ {es : List Int} {x z : Int}, es.Pairwise (· < ·) → x ∈ es → z ∈ es → z < x → ∃ pre y post, es = pre ++ y :: x :: post
  | a :: r, x, z, hw, hx, hz, h => by
    have hw := List.pairwise_cons.mp hw
    have hx' : x ∈ r := by
      rcases List.mem_cons.mp hx with e1 | h1
      · rcases List.mem_cons.mp hz with e2 | h2
        · omega
        · have := hw.1 z h2; omega
      · exact h1
    clear hx
    rcases List.mem_cons.mp hz with e1 | hz'
    · cases r with
      | nil => cases hx'
      | cons y r =>
        by_cases e : x = y
        · exact ⟨[], a, r, by rw [e]; rfl⟩
        · have hy := (List.pairwise_cons.mp hw.2).1
          have : y < x := by
            rcases List.mem_cons.mp hx' with e2 | h2
            · exact absurd e2 e
            · exact hy x h2
          obtain ⟨pre, w, post, e2⟩ := prev_in hw.2 hx' List.mem_cons_self this
          exact ⟨a :: pre, w, post, by rw [e2]; rfl⟩
    · obtain ⟨pre, y, post, e3⟩ := prev_in hw.2 hx' hz' h
      exact ⟨a :: pre, y, post, by rw [e3]; rfl⟩
theorem mem_opL {ns ms : List Int} {x : OP} : x ∈ opL ns ms ↔ ∃ q ∈ runsOf (begs ms ms.length) ms.length, ∃ pre a b post, edgesL ns ms q.1 q.2 = pre ++ a :: b :: post ∧ 1 < b - a ∧ x = (a + 1, b - 1, decide (q.1 ≤ a), decide (b ≤ q.2)) := by
  unfold opL
  rw [List.mem_flatMap]
  exact ⟨fun ⟨q, hq, h⟩ => ⟨q, hq, gaps_iff.mp h⟩, fun ⟨q, hq, h⟩ => ⟨q, hq, gaps_iff.mpr h⟩⟩
theorem edge_mid {ns ms : List Int} {f l a b : Int} {pre post : List Int} (h : f ≤ l) (e : edgesL ns ms f l = pre ++ a :: b :: post) : f - 1 ≤ a ∧ a < b ∧ b ≤ l + 1 ∧ (f ≤ a → a ∈ stL ns ms f l) ∧ (b ≤ l → b ∈ stL ns ms f l) := by
  have pw := edges_pw (ns := ns) (ms := ms) h
  have ha : a ∈ edgesL ns ms f l := by rw [e]; simp
  have hb : b ∈ edgesL ns ms f l := by rw [e]; simp
  have bd : ∀ z ∈ edgesL ns ms f l, f - 1 ≤ z ∧ z ≤ l + 1 := fun z hz => by
    rcases edge_in hz with rfl | hz | rfl
    · omega
    · have := (stL_mem.mp hz).1; omega
    · omega
  have lt : a < b := by
    rw [e, List.pairwise_append] at pw
    exact (List.pairwise_cons.mp pw.2.1).1 b List.mem_cons_self
  have b1 := bd a ha
  have b2 := bd b hb
  refine ⟨b1.1, lt, b2.2, fun h1 => ?_, fun h1 => ?_⟩
  · rcases edge_in ha with z | z | z
    · omega
    · exact z
    · omega
  · rcases edge_in hb with z | z | z
    · omega
    · exact z
    · omega
theorem left_iff {ns ms : List Int} {p : Int} : p ∈ lefts (opL ns ms) ↔ 1 ≤ p ∧ p < ms.length ∧ nat ns p ≠ nat ms p ∧ nat ms (p - 1) = nat ms p ∧ nat ns (p - 1) = nat ms (p - 1) := by
  unfold lefts
  rw [List.mem_map]
  constructor
  · rintro ⟨x, hx, rfl⟩
    obtain ⟨hx, hl⟩ := List.mem_filter.mp hx
    obtain ⟨q, hq, pre, a, b, post, e, hd, rfl⟩ := mem_opL.mp hx
    have hl : q.1 ≤ a := of_decide_eq_true hl
    have hle := runs_le hq
    obtain ⟨a1, a2, a3, a4⟩ := runs_in _ _ begs_in q hq
    obtain ⟨m1, m2, m3, m4, m5⟩ := edge_mid hle e
    have ha := stL_mem.mp (m4 hl)
    dsimp only
    rw [show a + 1 - 1 = a by omega]
    refine ⟨by omega, by omega, fun z => ?_, (run_same hq hl ha.1.2).trans (run_same hq (by omega) (by omega)).symm, ha.2⟩
    have : a + 1 ∈ edgesL ns ms q.1 q.2 := List.mem_cons_of_mem _ (List.mem_append_left _ (stL_mem.mpr ⟨⟨by omega, by omega⟩, z⟩))
    exact edge_gap (edges_pw hle) e this (by omega) (by omega)
  · rintro ⟨h0, h1, h2, h3, h4⟩
    obtain ⟨q, hq, q1, q2⟩ := run_at (ms := ms) (p := p) (by omega) h1
    have q0 := run_left hq h0 q1 h3
    have hle := runs_le hq
    have pw := edges_pw (ns := ns) (ms := ms) hle
    have hm : p - 1 ∈ edgesL ns ms q.1 q.2 := List.mem_cons_of_mem _ (List.mem_append_left _ (stL_mem.mpr ⟨⟨q0, by omega⟩, h4⟩))
    have hz : q.2 + 1 ∈ edgesL ns ms q.1 q.2 := List.mem_cons_of_mem _ (List.mem_append_right _ (List.mem_singleton.mpr rfl))
    obtain ⟨pre, y, post, e⟩ := next_in pw hm hz (by omega)
    obtain ⟨m1, m2, m3, m4, m5⟩ := edge_mid hle e
    have ny : y ≠ p := fun z => by
      subst z
      exact h2 (stL_mem.mp (m5 q2)).2
    refine ⟨(p - 1 + 1, y - 1, decide (q.1 ≤ p - 1), decide (y ≤ q.2)), List.mem_filter.mpr ⟨mem_opL.mpr ⟨q, hq, pre, p - 1, y, post, e, by omega, rfl⟩, decide_eq_true q0⟩, by dsimp only; omega⟩
theorem right_iff {ns ms : List Int} {p : Int} : p ∈ rights (opL ns ms) ↔ 0 ≤ p ∧ p + 1 < ms.length ∧ nat ns p ≠ nat ms p ∧ nat ms (p + 1) = nat ms p ∧ nat ns (p + 1) = nat ms (p + 1) := by
  unfold rights
  rw [List.mem_map]
  constructor
  · rintro ⟨x, hx, rfl⟩
    obtain ⟨hx, hl⟩ := List.mem_filter.mp hx
    obtain ⟨q, hq, pre, a, b, post, e, hd, rfl⟩ := mem_opL.mp hx
    have hl : b ≤ q.2 := of_decide_eq_true hl
    have hle := runs_le hq
    obtain ⟨a1, a2, a3, a4⟩ := runs_in _ _ begs_in q hq
    obtain ⟨m1, m2, m3, m4, m5⟩ := edge_mid hle e
    have hb := stL_mem.mp (m5 hl)
    dsimp only
    rw [show b - 1 + 1 = b by omega]
    refine ⟨by omega, by omega, fun z => ?_, (run_same hq hb.1.1 hl).trans (run_same hq (by omega) (by omega)).symm, hb.2⟩
    have : b - 1 ∈ edgesL ns ms q.1 q.2 := List.mem_cons_of_mem _ (List.mem_append_left _ (stL_mem.mpr ⟨⟨by omega, by omega⟩, z⟩))
    exact edge_gap (edges_pw hle) e this (by omega) (by omega)
  · rintro ⟨h0, h1, h2, h3, h4⟩
    obtain ⟨q, hq, q1, q2⟩ := run_at (ms := ms) (p := p) (by omega) (by omega)
    have q0 := run_right hq h0 h1 q2 h3
    have hle := runs_le hq
    have pw := edges_pw (ns := ns) (ms := ms) hle
    have hm : p + 1 ∈ edgesL ns ms q.1 q.2 := List.mem_cons_of_mem _ (List.mem_append_left _ (stL_mem.mpr ⟨⟨by omega, q0⟩, h4⟩))
    have hz : q.1 - 1 ∈ edgesL ns ms q.1 q.2 := List.mem_cons_self
    obtain ⟨pre, y, post, e⟩ := prev_in pw hm hz (by omega)
    obtain ⟨m1, m2, m3, m4, m5⟩ := edge_mid hle e
    have ny : y ≠ p := fun z => by
      subst z
      exact h2 (stL_mem.mp (m4 q1)).2
    refine ⟨(y + 1, p + 1 - 1, decide (q.1 ≤ y), decide (p + 1 ≤ q.2)), List.mem_filter.mpr ⟨mem_opL.mpr ⟨q, hq, pre, y, p + 1, post, e, by omega, rfl⟩, decide_eq_true q0⟩, by dsimp only; omega⟩
/-- who has to change, and a neighbour of the same number to come stayed -/
def fsB (ns ms : List Int) (p : Int) : Bool := !decide (nat ns p = nat ms p) && ((decide (1 ≤ p) && (decide (nat ms (p - 1) = nat ms p) && decide (nat ns (p - 1) = nat ms (p - 1)))) || (decide (p + 1 < (ms.length : Int)) && (decide (nat ms (p + 1) = nat ms p) && decide (nat ns (p + 1) = nat ms (p + 1)))))
def fsL (ns ms : List Int) : List Int := (rngI 0 ms.length).filter (fsB ns ms)
theorem fs_eq (ns ms : List Int) : ncL (opL ns ms) = fsL ns ms := by
  refine asc_unique asc_srtU ((rngI_pw 0 _).filter _) fun p => ?_
  unfold ncL fsL fsB
  rw [mem_srtU, List.mem_append, left_iff, right_iff, List.mem_filter]
  simp only [Bool.and_eq_true, Bool.or_eq_true, decide_eq_true_eq, Bool.not_eq_true', decide_eq_false_iff_not]
  constructor
  · rintro (⟨h0, h1, h2, h3, h4⟩ | ⟨h0, h1, h2, h3, h4⟩)
    · exact ⟨in_rngI (by omega) (by omega), h2, .inl ⟨h0, h3, h4⟩⟩
    · exact ⟨in_rngI (by omega) (by omega), h2, .inr ⟨h1, h3, h4⟩⟩
  · rintro ⟨h0, h1, h2 | h2⟩
    · have := mem_rngI h0
      exact .inl ⟨h2.1, by omega, h1, h2.2⟩
    · have := mem_rngI h0
      exact .inr ⟨by omega, h2.1, h1, h2.2⟩
end W

namespace W
open PySem L2 DL
local macro_rules | `(tactic| walk_at "ev") => `(tactic| simp only [eC, eV, oE, oV, eL, eT, aNil, aCons, eOp2, eOp1, eApp, tstE, eB, tNotG, tAndG, tOrG, eAndG, eOrG, eNotG, eIf, eSeq, eCall, eCallO, eCallB, eCallBF, eCallBX, sSeq, sNext, sRet, sRetF, sRetO, sRetN, sDrop, sIf, sSet, sSetO, sBreak, sCont, sBad, sPar, sPar3, fz, sFz, eCallW, idL, sApp, sPutIx, sAug, sFor, gN, gT, gsCons, gsNil, gYes, eLc, gSeq, nS, nF, Nw.sl, R.ok_bind, R.ok_map, R.lift_some, to_ok, toX_ok, toX_ex, bind_nx, bind_rt, bind_rf, bind_ex, bind_bk, bind_ct, at_ok, at_ex, res_val, map_ex, rbind_ex, Op.res, resA, valA, isOw, box0, Option.map_some, Option.bind_some, sHeardT, nlCons, nlNil, Nw.dat, mSet, eChain, eRg1, eRg2, eSl, pNo, pSo,
  List.getElem?_cons_zero, List.getElem?_cons_succ, List.set_cons_zero, List.set_cons_succ, List.length_cons, List.length_nil, if_true, if_false, Bool.false_eq_true, ite_true, ite_false, reduceIte,
  addU_int, subD_int, ltD_int, leD_int, gtD_int, geD_int, negD_int, absD_int, intD_bool, intD_int, lenD_list, lenD_tuple, lenD_scr, pow10_7, pow10_18, pow10_40, eqW_ints, neW_ints, eqW_strs, neW_strs, eqW_none, eqW_in, eqW_ni, ixD_list, ixD_tuple, ixD_scr, atI_3_0, atI_3_1, atI_3_2, ixN_3_0, ixN_3_1, ixN_3_2, wipeR, zip2D, skOf, isiD_n, isiD_b, isiD_i, isiD_s, isiD_l, isiD_t, isiTD_n, isiTD_b, isiTD_i, isiTD_s, isiTD_l, isiTD_t, isiAny, eCallX, eCallWX, xE, xIf, xL, xCb1, sSetX, sRetX, sDropX, sRaise, sTo, eMk, isX_n, sKeep, kt_ll, kt_lt, kt_ls, kt_li, kt_lb, kt_tl, kt_tt, kt_ts, kt_ti, kt_tb, kt_sl, kt_st, kt_ss, kt_si, kt_sb, kt_il, kt_it, kt_is, kt_ii, kt_ib, kt_bl, kt_bt, kt_bs, kt_bi, kt_bb, kt_nl, kt_nt, kt_ns, kt_ni, kt_nb, eqW_bools, neW_bools, isD_none, isNotD_none, isNoneD, isNone_e, List.map_cons, List.map_nil, List.replicate, List.append_nil, List.cons_append, List.nil_append, nc0, nc1, nc2, nc3, nc4, nc5, nc6, nc7, nc8, nc9, nc10, nc11, nc12, nc13, nc14, nc15, nc16, nc17, nc18, nc19, nc20, Nat.reduceAdd, Nat.reduceSub, ne_eq, decide_true, decide_false, not_true_eq_false, not_false_eq_true, reduceCtorEq, Bool.and_true, Bool.true_and, Bool.and_false, Bool.false_and, Bool.or_true, Bool.true_or, Bool.or_false, Bool.false_or, Bool.not_true, Bool.not_false])
local macro_rules | `(tactic| walk_at "evh") => `(tactic| simp only [eC, eV, oE, oV, eL, eT, aNil, aCons, eOp2, eOp1, eApp, tstE, eB, tNotG, tAndG, tOrG, eAndG, eOrG, eNotG, eIf, eSeq, eCall, eCallO, eCallB, eCallBF, eCallBX, sSeq, sNext, sRet, sRetF, sRetO, sRetN, sDrop, sIf, sSet, sSetO, sBreak, sCont, sBad, sPar, sPar3, fz, sFz, eCallW, idL, sApp, sPutIx, sAug, sFor, gN, gT, gsCons, gsNil, gYes, eLc, gSeq, nS, nF, Nw.sl, R.ok_bind, R.ok_map, R.lift_some, to_ok, toX_ok, toX_ex, bind_nx, bind_rt, bind_rf, bind_ex, bind_bk, bind_ct, at_ok, at_ex, res_val, map_ex, rbind_ex, Op.res, resA, valA, isOw, box0, Option.map_some, Option.bind_some, sHeardT, nlCons, nlNil, Nw.dat, mSet, eChain, eRg1, eRg2, eSl, pNo, pSo,
  List.getElem?_cons_zero, List.getElem?_cons_succ, List.set_cons_zero, List.set_cons_succ, List.length_cons, List.length_nil, if_true, if_false, Bool.false_eq_true, ite_true, ite_false, reduceIte,
  addU_int, subD_int, ltD_int, leD_int, gtD_int, geD_int, negD_int, absD_int, intD_bool, intD_int, lenD_list, lenD_tuple, lenD_scr, pow10_7, pow10_18, pow10_40, eqW_ints, neW_ints, eqW_strs, neW_strs, eqW_none, eqW_in, eqW_ni, ixD_list, ixD_tuple, ixD_scr, atI_3_0, atI_3_1, atI_3_2, ixN_3_0, ixN_3_1, ixN_3_2, wipeR, zip2D, skOf, isiD_n, isiD_b, isiD_i, isiD_s, isiD_l, isiD_t, isiTD_n, isiTD_b, isiTD_i, isiTD_s, isiTD_l, isiTD_t, isiAny, eCallX, eCallWX, xE, xIf, xL, xCb1, sSetX, sRetX, sDropX, sRaise, sTo, eMk, isX_n, sKeep, kt_ll, kt_lt, kt_ls, kt_li, kt_lb, kt_tl, kt_tt, kt_ts, kt_ti, kt_tb, kt_sl, kt_st, kt_ss, kt_si, kt_sb, kt_il, kt_it, kt_is, kt_ii, kt_ib, kt_bl, kt_bt, kt_bs, kt_bi, kt_bb, kt_nl, kt_nt, kt_ns, kt_ni, kt_nb, eqW_bools, neW_bools, isD_none, isNotD_none, isNoneD, isNone_e, List.map_cons, List.map_nil, List.replicate, List.append_nil, List.cons_append, List.nil_append, nc0, nc1, nc2, nc3, nc4, nc5, nc6, nc7, nc8, nc9, nc10, nc11, nc12, nc13, nc14, nc15, nc16, nc17, nc18, nc19, nc20, Nat.reduceAdd, Nat.reduceSub, ne_eq, decide_true, decide_false, not_true_eq_false, not_false_eq_true, reduceCtorEq, Bool.and_true, Bool.true_and, Bool.and_false, Bool.false_and, Bool.or_true, Bool.true_or, Bool.or_false, Bool.false_or, Bool.not_true, Bool.not_false, *])
/-! the law's own firsts -/
theorem fi_t1 {s2 s4 : Sl} {r q : D} {p m n a b : Int} (ln : lenD [r] = some (.int n)) (k1 k2 : Bool) (d1 : decide (0 ≤ m) = k1) (d2 : decide (m < n) = k2) (h : k1 = true → k2 = true → ixD q (.int m) = some (.int a)) (x2 : ixD q (.int p) = some (.int b)) :
    ct__law_firsts_1 [.sh r, .sh q, s2, .sh (.int p), s4, .sh (.int m)] = .ok (k1 && (k2 && decide (a = b))) [.sh r, .sh q, s2, .sh (.int p), s4, .sh (.int m)] := by
  unfold ct__law_firsts_1
  cases k1 with
  | false => clear h; walk_at "evh"
  | true => cases k2 with
    | false => clear h; walk_at "evh"
    | true =>
      have x1 := h rfl rfl
      clear h
      walk_at "evh"
def bsB (n : Nat) (ms : List Int) (p m : Int) : Bool := decide (0 ≤ m) && (decide (m < (n : Int)) && decide (nat ms m = nat ms p))
def bsL (ms : List Int) (p : Int) : List Int := [p - 1, p + 1].filter (bsB ms.length ms p)
def ysL (ns ms : List Int) (p : Int) : List Int := (bsL ms p).filter fun m => decide (nat ns m = nat ms m)
theorem ys_fs {ns ms : List Int} {p : Int} (h0 : 0 ≤ p) (h1 : p < ms.length) : fsB ns ms p = (!decide (nat ns p = nat ms p) && !decide (ysL ns ms p = [])) := by
  unfold fsB
  congr 1
  have e : ∀ b : Bool, (b = true ↔ ¬ ysL ns ms p = []) → b = !decide (ysL ns ms p = []) := fun b hb => by
    rw [← decide_not]
    cases b with
    | true => rw [decide_eq_true (hb.mp rfl)]
    | false => rw [decide_eq_false (fun z => by have := hb.mpr z; cases this)]
  refine e _ ?_
  have mem : ∀ m, m ∈ ysL ns ms p ↔ ((m = p - 1 ∨ m = p + 1) ∧ (0 ≤ m ∧ m < (ms.length : Int) ∧ nat ms m = nat ms p)) ∧ nat ns m = nat ms m := fun m => by
    unfold ysL bsL bsB
    simp only [List.mem_filter, List.mem_cons, List.not_mem_nil, or_false, Bool.and_eq_true, decide_eq_true_eq]
  simp only [Bool.and_eq_true, Bool.or_eq_true, decide_eq_true_eq]
  constructor
  · rintro (⟨a, b, c⟩ | ⟨a, b, c⟩) z
    · have := (mem (p - 1)).mpr ⟨⟨.inl rfl, by omega, by omega, b⟩, c⟩
      rw [z] at this
      cases this
    · have := (mem (p + 1)).mpr ⟨⟨.inr rfl, by omega, by omega, b⟩, c⟩
      rw [z] at this
      cases this
  · intro z
    obtain ⟨m, hm⟩ := List.exists_mem_of_ne_nil _ z
    obtain ⟨⟨hm | hm, b1, b2, b3⟩, b4⟩ := (mem m).mp hm
    · subst hm; exact .inl ⟨by omega, b3, b4⟩
    · subst hm; exact .inr ⟨b2, b3, b4⟩
theorem fi_lc1 {r q : D} {ns ms : List Int} {p : Int} {s2 s4 : Sl} (hr : Sq r (ns.map .int)) (hq : Sq q (ms.map .int)) (h : ms.length = ns.length) (h0 : 0 ≤ p) (h1 : p < ns.length) :
    lcL [5] (gN 5) ct__law_firsts_1 ce__law_firsts_2 ([p - 1, p + 1].map .int) [.sh r, .sh q, s2, .sh (.int p), s4, .no] = .ok ((bsL ms p).map .int) [.sh r, .sh q, s2, .sh (.int p), s4, .no] :=
  lc_emb (bsB ms.length ms p) fun m _ => ⟨[.sh r, .sh q, s2, .sh (.int p), s4, .sh (.int m)], rfl, rfl, by
    rw [show bsB ms.length ms p m = bsB ns.length ms p m by rw [h]]
    exact fi_t1 hr.leni _ _ rfl rfl (fun a b => hq.ix (of_decide_eq_true a) (by have := of_decide_eq_true b; omega)) (hq.ix h0 (by omega)), fun _ => rfl⟩
theorem fi_lc2 {r q : D} {ns ms : List Int} {p : Int} {s2 s4 : Sl} (hr : Sq r (ns.map .int)) (hq : Sq q (ms.map .int)) (h : ms.length = ns.length) :
    lcL [5] (gN 5) ct__law_firsts_3 ce__law_firsts_2 ((bsL ms p).map .int) [.sh r, .sh q, s2, .sh (.int p), s4, .no] = .ok ((ysL ns ms p).map .int) [.sh r, .sh q, s2, .sh (.int p), s4, .no] :=
  lc_emb (fun m => decide (nat ns m = nat ms m)) fun m hm => by
    have hm := (List.mem_filter.mp hm).2
    unfold bsB at hm
    simp only [Bool.and_eq_true, decide_eq_true_eq] at hm
    refine ⟨[.sh r, .sh q, s2, .sh (.int p), s4, .sh (.int m)], rfl, rfl, ?_, fun _ => rfl⟩
    have x1 := hr.ix (i := m) hm.1 (by omega)
    have x2 := hq.ix (i := m) hm.1 (by omega)
    generalize nat ns m = a at *
    generalize nat ms m = b at *
    clear hm
    unfold ct__law_firsts_3
    walk_at "evh"
theorem fi_src {r q : D} {p : Int} {s2 s4 : Sl} (z : 2 ≤ sizeLine) : (gSeq (eT (eSeq (aCons (oE (eOp2 subD (oE (eV 3)) (oE (eC (.int 1))))) (aCons (oE (eOp2 addU (oE (eV 3)) (oE (eC (.int 1))))) aNil))))) [.sh r, .sh q, s2, .sh (.int p), s4, .no] = .ok [.int (p - 1), .int (p + 1)] [.sh r, .sh q, s2, .sh (.int p), s4, .no] := by
  have it : ∀ x y : D, itemsD (.tuple [x, y]) = some [x, y] := fun _ _ => rfl
  walk_at "evh"
theorem fi_if {r q : D} {F : List D} {p a b : Int} {Y : List D} {s4 : Sl} {g : GE} (x1 : ixD r (.int p) = some (.int a)) (x2 : ixD q (.int p) = some (.int b)) (k j : Bool) (hk : decide (a = b) = k) (hg : k = false → g [.sh r, .sh q, .ow F, .sh (.int p), s4, .no] = .ok (.list Y) [.sh r, .sh q, .ow F, .sh (.int p), s4, .no]) (nw : neW (.list Y) (.list []) = some (.bool j)) (z0 : 0 ≤ sizeLine) (zf : F.length < sizeLine) :
    (sIf (tAndG (tstE (eOp2 neW (oE (eOp2 ixD (oE (eV 0)) (oE (eV 3)))) (oE (eOp2 ixD (oE (eV 1)) (oE (eV 3)))))) (tstE (eOp2 neW (oE g) (oE (eL (eSeq aNil)))))) (sApp 2 (eV 3)) sNext) [.sh r, .sh q, .ow F, .sh (.int p), s4, .no] = .nx [.sh r, .sh q, .ow (F ++ if (!k && j) = true then [.int p] else []), .sh (.int p), s4, .no] := by
  cases k with
  | true => clear hg; walk_at "evh"
  | false =>
    have hg := hg rfl
    cases j <;> walk_at "evh"
theorem fi_step {r q : D} {ns ms : List Int} {p : Int} {F : List D} {s4 : Sl} (hr : Sq r (ns.map .int)) (hq : Sq q (ms.map .int)) (h : ms.length = ns.length) (h0 : 0 ≤ p) (h1 : p < ns.length) (zf : F.length < sizeLine) :
    ∃ t4, gb__law_firsts_4 [.sh r, .sh q, .ow F, .sh (.int p), s4, .no] = .nx [.sh r, .sh q, .ow (F ++ if fsB ns ms p = true then [.int p] else []), .sh (.int p), t4, .no] := by
  refine ⟨.sh (.list ((bsL ms p).map .int)), ?_⟩
  unfold gb__law_firsts_4
  have l2 : ((bsL ms p).map PyData.int).length ≤ 2 := by
    rw [List.length_map]
    exact List.length_filter_le _ _
  refine seq_nx (sSet_ok (eL_ok (eLc_ok (ρ1 := [.sh r, .sh q, .ow F, .sh (.int p), s4, .no]) (fi_src (by decide)) (by show 2 ≤ sizeLine; decide) (fi_lc1 hr hq h h0 h1)))) ?_
  rw [ys_fs h0 (by omega)]
  have nw : neW (.list ((ysL ns ms p).map PyData.int)) (.list []) = some (.bool (!decide (ysL ns ms p = []))) := neW_li _ []
  refine fi_if (hr.ix h0 h1) (hq.ix h0 (by omega)) _ _ rfl (fun _ => eL_ok (eLc_ok (ρ1 := [.sh r, .sh q, .ow F, .sh (.int p), .sh (.list ((bsL ms p).map .int)), .no]) ?_ (Nat.le_trans l2 (by decide)) (fi_lc2 hr hq h))) nw (by decide) zf
  have it : itemsD (.list ((bsL ms p).map PyData.int)) = some ((bsL ms p).map .int) := rfl
  generalize (bsL ms p).map PyData.int = L at *
  clear l2 nw zf h0 h1
  show gSeq (eV 4) [.sh r, .sh q, .ow F, .sh (.int p), .sh (.list L), .no] = _
  walk_at "evh"
theorem fi_go {r q : D} {j : Int} {E C : List D} {s3 s4 : Sl} (hj : lenD [r] = some (.int j)) (rg : rng1 [.int j] = some E) (z0 : 0 ≤ sizeLine) (f : forL (gN 3) gb__law_firsts_4 E [.sh r, .sh q, .ow [], .no, .no, .no] = .nx [.sh r, .sh q, .ow C, s3, s4, .no]) : F__law_firsts [r, q] = some C := by
  unfold F__law_firsts callF g__law_firsts env0
  walk_at "evh"
theorem fi_eq {r q : D} {ns ms : List Int} (hr : Sq r (ns.map .int)) (hq : Sq q (ms.map .int)) (h : ms.length = ns.length) (hl : ns.length ≤ 1000) : F__law_firsts [r, q] = some ((fsL ns ms).map .int) := by
  obtain ⟨ρ', e, s3, s4, rfl⟩ := for_inv (k := gN 3) (b := gb__law_firsts_4) (ds := rangeD 0 ns.length)
    (fun i ρ => ∃ s3 s4, ρ = [.sh r, .sh q, .ow (((rngI 0 i).filter (fsB ns ms)).map .int), s3, s4, .no])
    (fun i d ρ hd hh => by
      obtain ⟨rfl, hi⟩ := rangeD_at hd
      obtain ⟨s3, s4, rfl⟩ := hh
      have lz : (((rngI 0 i).filter (fsB ns ms)).map PyData.int).length < sizeLine := by
        rw [List.length_map]
        exact size_lt (Nat.lt_of_le_of_lt (List.length_filter_le _ _) (by rw [rngI_len]; omega))
      obtain ⟨t4, e⟩ := fi_step (s4 := s4) hr hq h (p := (i : Int)) (by omega) (by omega) lz
      refine ⟨_, rfl, _, .inl e, .sh (.int (i : Int)), t4, ?_⟩
      rw [rngI_filter, List.map_append]
      cases fsB ns ms (i : Int) <;> rfl)
    (ρ := [.sh r, .sh q, .ow [], .no, .no, .no]) ⟨.no, .no, rfl⟩
  rw [rangeD_len] at e
  unfold fsL
  rw [h]
  exact fi_go hr.leni (rng1_eq (by omega) (by omega)) (by decide) e
end W

namespace W
open PySem L2 DL
local macro_rules | `(tactic| walk_at "ev") => `(tactic| simp only [eC, eV, oE, oV, eL, eT, aNil, aCons, eOp2, eOp1, eApp, tstE, eB, tNotG, tAndG, tOrG, eAndG, eOrG, eNotG, eIf, eSeq, eCall, eCallO, eCallB, eCallBF, eCallBX, sSeq, sNext, sRet, sRetF, sRetO, sRetN, sDrop, sIf, sSet, sSetO, sBreak, sCont, sBad, sPar, sPar3, fz, sFz, eCallW, idL, sApp, sPutIx, sAug, sFor, gN, gT, gsCons, gsNil, gYes, eLc, gSeq, nS, nF, Nw.sl, R.ok_bind, R.ok_map, R.lift_some, to_ok, toX_ok, toX_ex, bind_nx, bind_rt, bind_rf, bind_ex, bind_bk, bind_ct, at_ok, at_ex, res_val, map_ex, rbind_ex, Op.res, resA, valA, isOw, box0, Option.map_some, Option.bind_some, sHeardT, nlCons, nlNil, Nw.dat, mSet, eChain, eRg1, eRg2, eSl, pNo, pSo,
  List.getElem?_cons_zero, List.getElem?_cons_succ, List.set_cons_zero, List.set_cons_succ, List.length_cons, List.length_nil, if_true, if_false, Bool.false_eq_true, ite_true, ite_false, reduceIte,
  addU_int, subD_int, ltD_int, leD_int, gtD_int, geD_int, negD_int, absD_int, intD_bool, intD_int, lenD_list, lenD_tuple, lenD_scr, pow10_7, pow10_18, pow10_40, eqW_ints, neW_ints, eqW_strs, neW_strs, eqW_none, eqW_in, eqW_ni, ixD_list, ixD_tuple, ixD_scr, atI_3_0, atI_3_1, atI_3_2, ixN_3_0, ixN_3_1, ixN_3_2, wipeR, zip2D, skOf, isiD_n, isiD_b, isiD_i, isiD_s, isiD_l, isiD_t, isiTD_n, isiTD_b, isiTD_i, isiTD_s, isiTD_l, isiTD_t, isiAny, eCallX, eCallWX, xE, xIf, xL, xCb1, sSetX, sRetX, sDropX, sRaise, sTo, eMk, isX_n, sKeep, kt_ll, kt_lt, kt_ls, kt_li, kt_lb, kt_tl, kt_tt, kt_ts, kt_ti, kt_tb, kt_sl, kt_st, kt_ss, kt_si, kt_sb, kt_il, kt_it, kt_is, kt_ii, kt_ib, kt_bl, kt_bt, kt_bs, kt_bi, kt_bb, kt_nl, kt_nt, kt_ns, kt_ni, kt_nb, eqW_bools, neW_bools, isD_none, isNotD_none, isNoneD, isNone_e, List.map_cons, List.map_nil, List.replicate, List.append_nil, List.cons_append, List.nil_append, nc0, nc1, nc2, nc3, nc4, nc5, nc6, nc7, nc8, nc9, nc10, nc11, nc12, nc13, nc14, nc15, nc16, nc17, nc18, nc19, nc20, Nat.reduceAdd, Nat.reduceSub, ne_eq, decide_true, decide_false, not_true_eq_false, not_false_eq_true, reduceCtorEq, Bool.and_true, Bool.true_and, Bool.and_false, Bool.false_and, Bool.or_true, Bool.true_or, Bool.or_false, Bool.false_or, Bool.not_true, Bool.not_false, perm_1_0, and_self, if_true])
local macro_rules | `(tactic| walk_at "evh") => `(tactic| simp only [eC, eV, oE, oV, eL, eT, aNil, aCons, eOp2, eOp1, eApp, tstE, eB, tNotG, tAndG, tOrG, eAndG, eOrG, eNotG, eIf, eSeq, eCall, eCallO, eCallB, eCallBF, eCallBX, sSeq, sNext, sRet, sRetF, sRetO, sRetN, sDrop, sIf, sSet, sSetO, sBreak, sCont, sBad, sPar, sPar3, fz, sFz, eCallW, idL, sApp, sPutIx, sAug, sFor, gN, gT, gsCons, gsNil, gYes, eLc, gSeq, nS, nF, Nw.sl, R.ok_bind, R.ok_map, R.lift_some, to_ok, toX_ok, toX_ex, bind_nx, bind_rt, bind_rf, bind_ex, bind_bk, bind_ct, at_ok, at_ex, res_val, map_ex, rbind_ex, Op.res, resA, valA, isOw, box0, Option.map_some, Option.bind_some, sHeardT, nlCons, nlNil, Nw.dat, mSet, eChain, eRg1, eRg2, eSl, pNo, pSo,
  List.getElem?_cons_zero, List.getElem?_cons_succ, List.set_cons_zero, List.set_cons_succ, List.length_cons, List.length_nil, if_true, if_false, Bool.false_eq_true, ite_true, ite_false, reduceIte,
  addU_int, subD_int, ltD_int, leD_int, gtD_int, geD_int, negD_int, absD_int, intD_bool, intD_int, lenD_list, lenD_tuple, lenD_scr, pow10_7, pow10_18, pow10_40, eqW_ints, neW_ints, eqW_strs, neW_strs, eqW_none, eqW_in, eqW_ni, ixD_list, ixD_tuple, ixD_scr, atI_3_0, atI_3_1, atI_3_2, ixN_3_0, ixN_3_1, ixN_3_2, wipeR, zip2D, skOf, isiD_n, isiD_b, isiD_i, isiD_s, isiD_l, isiD_t, isiTD_n, isiTD_b, isiTD_i, isiTD_s, isiTD_l, isiTD_t, isiAny, eCallX, eCallWX, xE, xIf, xL, xCb1, sSetX, sRetX, sDropX, sRaise, sTo, eMk, isX_n, sKeep, kt_ll, kt_lt, kt_ls, kt_li, kt_lb, kt_tl, kt_tt, kt_ts, kt_ti, kt_tb, kt_sl, kt_st, kt_ss, kt_si, kt_sb, kt_il, kt_it, kt_is, kt_ii, kt_ib, kt_bl, kt_bt, kt_bs, kt_bi, kt_bb, kt_nl, kt_nt, kt_ns, kt_ni, kt_nb, eqW_bools, neW_bools, isD_none, isNotD_none, isNoneD, isNone_e, List.map_cons, List.map_nil, List.replicate, List.append_nil, List.cons_append, List.nil_append, nc0, nc1, nc2, nc3, nc4, nc5, nc6, nc7, nc8, nc9, nc10, nc11, nc12, nc13, nc14, nc15, nc16, nc17, nc18, nc19, nc20, Nat.reduceAdd, Nat.reduceSub, ne_eq, decide_true, decide_false, not_true_eq_false, not_false_eq_true, reduceCtorEq, Bool.and_true, Bool.true_and, Bool.and_false, Bool.false_and, Bool.or_true, Bool.true_or, Bool.or_false, Bool.false_or, Bool.not_true, Bool.not_false, perm_1_0, and_self, if_true, *])
theorem par_ok {i j : Nat} {a b : Rho → R Nw} {x y : Nw} {ρ ρ1 ρ2 : Rho} (h1 : a ρ = .ok x ρ1) (h2 : b ρ1 = .ok y ρ2) : sPar i j a b ρ = .nx ((ρ2.set i x.sl).set j y.sl) := by
  unfold sPar
  rw [h1]
  show (b ρ1).to _ = _
  rw [h2]; rfl
theorem nS_ok {g : GE} {d : D} {ρ ρ1 : Rho} (h : g ρ = .ok d ρ1) : nS g ρ = .ok (.s d) ρ1 := by
  unfold nS
  rw [h]; rfl
theorem rt_rp {b0 s3 s4 s5 s6 s7 s8 s9 s10 s11 : Sl} {L T : D} {x : Str} (rp : reprD [.list [L, T]] = some (.str x)) (z : 2 ≤ sizeLine) : (eApp reprD (aCons (oE (eL (eSeq (aCons (oE (eV 1)) (aCons (oE (eV 2)) aNil))))) aNil)) [b0, .sh L, .sh T, s3, s4, s5, s6, s7, s8, s9, s10, s11] = .ok (.str x) [b0, .sh L, .sh T, s3, s4, s5, s6, s7, s8, s9, s10, s11] := by
  walk_at "evh"
theorem rt_lc {b0 s3 s4 s5 s6 s7 s8 s9 s11 : Sl} {r q : D} {ns ms : List Int} (hr : Sq r (ns.map .int)) (hq : Sq q (ms.map .int)) (h : ms.length = ns.length) :
    lcL [10] (gN 10) ct__law_right_1 ce__law_right_2 ((rngI 0 ns.length).map .int) [b0, .sh r, .sh q, s3, s4, s5, s6, s7, s8, s9, .no, s11] = .ok ((cgL ns ms).map .int) [b0, .sh r, .sh q, s3, s4, s5, s6, s7, s8, s9, .no, s11] :=
  lc_emb (cgB ns ms) fun m hm => by
    have hm := mem_rngI hm
    refine ⟨[b0, .sh r, .sh q, s3, s4, s5, s6, s7, s8, s9, .sh (.int m), s11], rfl, rfl, ?_, fun _ => rfl⟩
    have x1 := hr.ix (i := m) hm.1 (by omega)
    have x2 := hq.ix (i := m) hm.1 (by omega)
    unfold cgB
    generalize nat ns m = a at *
    generalize nat ms m = b at *
    clear hm
    unfold ct__law_right_1
    walk_at "evh"
theorem rt_rg {b0 s2 s3 s4 s5 s6 s7 s8 s9 s10 s11 : Sl} {r : D} {j : Int} {E : List D} (ln : lenD [r] = some (.int j)) (rg : rng1 [.int j] = some E) : (eCall rng1 (aCons (oE (eApp lenD (aCons (oE (eV 1)) aNil))) aNil)) [b0, .sh r, s2, s3, s4, s5, s6, s7, s8, s9, s10, s11] = .ok E [b0, .sh r, s2, s3, s4, s5, s6, s7, s8, s9, s10, s11] := by
  walk_at "evh"
theorem rt_pl {b0 s1 s2 s3 s4 s5 s6 s7 s8 s9 s10 : Sl} (ops : List OP) : lcL [11] (gN 11) gYes ce__law_right_3 (ops.map pcD) [b0, s1, s2, s3, s4, s5, s6, s7, s8, s9, s10, .no] = .ok (ops.map ptD) [b0, s1, s2, s3, s4, s5, s6, s7, s8, s9, s10, .no] :=
  lc_emb1 fun x _ => ⟨[b0, s1, s2, s3, s4, s5, s6, s7, s8, s9, s10, .sh (pcD x)], rfl, rfl, by
    have ix : ixD (pcD x) (.int 0) = some (ptD x) := rfl
    generalize pcD x = y at *
    generalize ptD x = w at *
    unfold ce__law_right_3
    walk_at "evh"⟩
theorem rt_ps {b0 s3 s4 s5 s6 s7 s8 s9 s10 s11 : Sl} {r q : D} {E : List D} (e : F__law_pieces [r, q] = some E) : (gSeq (eL (eCall F__law_pieces (aCons (oE (eV 1)) (aCons (oE (eV 2)) aNil))))) [b0, .sh r, .sh q, s3, s4, s5, s6, s7, s8, s9, s10, s11] = .ok E [b0, .sh r, .sh q, s3, s4, s5, s6, s7, s8, s9, s10, s11] := by
  have it : itemsD (.list E) = some E := rfl
  walk_at "evh"
theorem rt_due {b0 s3 s5 s6 s7 s8 s9 s10 s11 : Sl} {r q : D} {C P F : List D} {g : GF} {n : Int} (ln : lenD [.list C] = some (.int n)) (e1 : g [b0, .sh r, .sh q, s3, .sh (.list C), s5, s6, s7, s8, s9, s10, s11] = .ok P [b0, .sh r, .sh q, s3, .sh (.list C), s5, s6, s7, s8, s9, s10, s11]) (e2 : F__law_firsts [r, q] = some F) (z : 4 ≤ sizeLine) :
    (sSet 5 (eL (eSeq (aCons (oE (eV 4)) (aCons (oE (eApp lenD (aCons (oE (eV 4)) aNil))) (aCons (oE (eL g)) (aCons (oE (eL (eCall F__law_firsts (aCons (oE (eV 1)) (aCons (oE (eV 2)) aNil))))) aNil))))))) [b0, .sh r, .sh q, s3, .sh (.list C), s5, s6, s7, s8, s9, s10, s11] = .nx [b0, .sh r, .sh q, s3, .sh (.list C), .sh (.list [.list C, .int n, .list P, .list F]), s6, s7, s8, s9, s10, s11] := by
  walk_at "evh"
theorem rt_gn {b0 s3 s4 s5 s6 s7 s8 s9 s10 s11 : Sl} {r q : D} {C P F : List D} {n : Int} (e1 : F_changed [r, q] = .ok C) (e2 : F_distance [r, q] = .ok (.int n)) (e3 : F_parts [r, q] = .ok P) (e4 : F_firsts [r, q] = .ok F) :
    (nlCons (nF (eCallX F_changed (aCons (oE (eV 1)) (aCons (oE (eV 2)) aNil)))) (nlCons (nS (eCallX F_distance (aCons (oE (eV 1)) (aCons (oE (eV 2)) aNil)))) (nlCons (nF (eCallX F_parts (aCons (oE (eV 1)) (aCons (oE (eV 2)) aNil)))) (nlCons (nF (eCallX F_firsts (aCons (oE (eV 1)) (aCons (oE (eV 2)) aNil)))) nlNil)))) [b0, .sh r, .sh q, s3, s4, s5, s6, s7, s8, s9, s10, s11] = .ok [.f C, .s (.int n), .f P, .f F] [b0, .sh r, .sh q, s3, s4, s5, s6, s7, s8, s9, s10, s11] := by
  walk_at "evh"
theorem rt_ls1 {b0 s2 s3 s4 s5 s6 s7 s8 s9 s10 s11 : Sl} {r : D} {E : List D} (e : listD [r] = some E) : (eL (eApp listD (aCons (oE (eV 1)) aNil))) [b0, .sh r, s2, s3, s4, s5, s6, s7, s8, s9, s10, s11] = .ok (.list E) [b0, .sh r, s2, s3, s4, s5, s6, s7, s8, s9, s10, s11] := by
  walk_at "evh"
theorem rt_ls2 {b0 s1 s3 s4 s5 s6 s7 s8 s9 s10 s11 : Sl} {r : D} {E : List D} (e : listD [r] = some E) : (eL (eApp listD (aCons (oE (eV 2)) aNil))) [b0, s1, .sh r, s3, s4, s5, s6, s7, s8, s9, s10, s11] = .ok (.list E) [b0, s1, .sh r, s3, s4, s5, s6, s7, s8, s9, s10, s11] := by
  walk_at "evh"
theorem rt_m1 {b0 s1 s2 s3 s4 s5 s6 s9 s10 s11 : Sl} {r q : D} {C P : List D} {n : Int} (e1 : F_changed [r, q] = .ok C) (e2 : F_distance [r, q] = .ok (.int n)) (e3 : F_parts [r, q] = .ok P) (z : 3 ≤ sizeLine) :
    (sSetO 9 (eSeq (aCons (oE (eL (eCallWX F_changed 2 @perm_1_0 (aCons (oE (eV 8)) (aCons (oE (eV 7)) aNil))))) (aCons (oE (eCallWX F_distance 2 @perm_1_0 (aCons (oE (eV 8)) (aCons (oE (eV 7)) aNil)))) (aCons (oE (eL (eCallWX F_parts 2 @perm_1_0 (aCons (oE (eV 8)) (aCons (oE (eV 7)) aNil))))) aNil))))) [b0, s1, s2, s3, s4, s5, s6, .sh r, .sh q, s9, s10, s11] = .nx [b0, s1, s2, s3, s4, s5, s6, .sh r, .sh q, .ow [.list C, .int n, .list P], s10, s11] := by
  walk_at "evh"
theorem rt_m2 {b0 s1 s2 s3 s4 s5 s6 s10 s11 : Sl} {r q x y w : D} {F : List D} (e4 : F_firsts [r, q] = .ok F) (z : 3 < sizeLine) :
    (sApp 9 (eL (eCallWX F_firsts 2 @perm_1_0 (aCons (oE (eV 8)) (aCons (oE (eV 7)) aNil))))) [b0, s1, s2, s3, s4, s5, s6, .sh r, .sh q, .ow [x, y, w], s10, s11] = .nx [b0, s1, s2, s3, s4, s5, s6, .sh r, .sh q, .ow [x, y, w, .list F], s10, s11] := by
  walk_at "evh"
theorem rt_m3 {b0 s3 s4 s6 s10 s11 : Sl} {L T r q x y w u : D} {C : List D} {n : Int} (e1 : F_changed [L, q] = .ok C) (e2 : F_distance [r, T] = .ok (.int n)) (sm : F__law_same 6 [.list [x, y, w, u], .list [x, y, w, u]] = some (.bool true)) (sl : sliceU (.list [x, y, w, u]) none (some 2) = some (.list [.list C, .int n])) (sm2 : F__law_same 6 [.list [.list C, .int n], .list [.list C, .int n]] = some (.bool true)) (z : 2 ≤ sizeLine) (fl : flatD (.bool true) = true) :
    (sIf (tOrG (tNotG (tstE (eCallO (F__law_same 6) (aCons (oV 9) (aCons (oE (eV 5)) aNil))))) (tNotG (tstE (eCall (F__law_same 6) (aCons (oE (eL (eSeq (aCons (oE (eL (eCallX F_changed (aCons (oE (eV 1)) (aCons (oE (eV 8)) aNil))))) (aCons (oE (eCallX F_distance (aCons (oE (eV 7)) (aCons (oE (eV 2)) aNil)))) aNil))))) (aCons (oE (eSl sliceU (oE (eV 5)) pNo (pSo (eC (.int 2))))) aNil)))))) (sRet (eC (.bool false)))
    sNext) [b0, .sh L, .sh T, s3, s4, .sh (.list [x, y, w, u]), s6, .sh r, .sh q, .ow [x, y, w, u], s10, s11] = .nx [b0, .sh L, .sh T, s3, s4, .sh (.list [x, y, w, u]), s6, .sh r, .sh q, .ow [x, y, w, u], s10, s11] := by
  walk_at "evh"
theorem rt_m4 {b0 s4 s5 s6 s7 s8 s9 s10 s11 : Sl} {L T : D} {x : Str} (rp : reprD [.list [L, T]] = some (.str x)) (z : 2 ≤ sizeLine) (dx : decide (x = x) = true) :
    (sIf (tstE (eOp2 neW (oE (eApp reprD (aCons (oE (eL (eSeq (aCons (oE (eV 1)) (aCons (oE (eV 2)) aNil))))) aNil))) (oE (eV 3)))) (sRet (eC (.bool false)))
    sNext) [b0, .sh L, .sh T, .sh (.str x), s4, s5, s6, s7, s8, s9, s10, s11] = .nx [b0, .sh L, .sh T, .sh (.str x), s4, s5, s6, s7, s8, s9, s10, s11] := by
  walk_at "evh"
theorem shw_gr {ms : List Int} (h : ms.length ≤ 40) (hr : ∀ x ∈ ms, x.natAbs ≤ 10 ^ 42) : Shw 1 (3 + 40 * 63) (.tuple (ms.map .int)) := (shw_tuple (L := 61) (h := 0) fun x hx => by
    obtain ⟨i, hi, rfl⟩ := List.mem_map.mp hx
    exact shw_int (Nat.lt_of_le_of_lt (hr i hi) (by decide))).mono (Nat.le_refl _) (by rw [List.length_map]; omega)
theorem pl_ints {n : Nat} (ns : List Int) (h : ns.length ≤ 10000) : Pl (n + 1) (.list (ns.map .int)) := .list (by rw [List.length_map]; exact size_of (by omega)) fun x hx => by
  obtain ⟨i, _, rfl⟩ := List.mem_map.mp hx
  exact .int _ i
theorem pl_pts {n : Nat} {ns ms : List Int} (hl : ms.length ≤ 1000) : Pl (n + 2) (.list ((opL ns ms).map ptD)) := by
  have lo := opL_len ns ms
  refine .list (by rw [List.length_map]; exact size_of (by omega)) fun x hx => ?_
  obtain ⟨o, ho, rfl⟩ := List.mem_map.mp hx
  have hi := opL_in ho
  unfold ptD
  refine .tuple (by rw [rangeD_len]; exact size_of (by omega)) fun y hy => ?_
  rw [rngI_d] at hy
  obtain ⟨i, _, rfl⟩ := List.mem_map.mp hy
  exact .int _ i
theorem body_eq {b0 s3 s4 s5 s6 s7 s8 s9 : Sl} {ns ms : List Int} (k : Keep ns ms) (h1 : ns.length ≤ 16) (r1 : ∀ x ∈ ns, x.natAbs ≤ 10 ^ 42) (r2 : ∀ x ∈ ms, x.natAbs ≤ 10 ^ 42) :
    ∃ t3 t4 t5 t6 t7 t8 t9, gb__law_right_5 [b0, .sh (.tuple (ns.map .int)), .sh (.tuple (ms.map .int)), s3, s4, s5, s6, s7, s8, s9, .no, .no] = .nx [b0, .sh (.tuple (ns.map .int)), .sh (.tuple (ms.map .int)), t3, t4, t5, t6, t7, t8, t9, .no, .no] := by
  have h := k.len
  have T := Sq.t (ns.map PyData.int)
  have Tl := Sq.l (ns.map PyData.int)
  have U := Sq.t (ms.map PyData.int)
  have Ul := Sq.l (ms.map PyData.int)
  have sh : Shw 2 (2 + 2 * (3 + 40 * 63 + 2)) (.list [.tuple (ns.map .int), .tuple (ms.map .int)]) := shw_list (xs := [.tuple (ns.map .int), .tuple (ms.map .int)]) fun x hx => by
    simp only [List.mem_cons, List.not_mem_nil, or_false] at hx
    rcases hx with rfl | rfl
    · exact shw_gr (by omega) r1
    · exact shw_gr (by omega) r2
  have rp := repr_of sh rfl (by decide) (by decide)
  have ll := fun {r q : D} (hr : Sq r (ns.map .int)) (hq : Sq q (ms.map .int)) => ll_ok ((bar_eq hr hq h (by omega)).trans (by rw [bar_none k]))
  have cg := fun {r q : D} (hr : Sq r (ns.map .int)) (hq : Sq q (ms.map .int)) => chg_eq hr hq h (by omega) (ll hr hq)
  have ds := fun {r q : D} (hr : Sq r (ns.map .int)) (hq : Sq q (ms.map .int)) => dst_eq (cg hr hq)
  have pt := fun {r q : D} (hr : Sq r (ns.map .int)) (hq : Sq q (ms.map .int)) => pt_eq hr hq h (by omega) (ll hr hq)
  have fs := fun {r q : D} (hr : Sq r (ns.map .int)) (hq : Sq q (ms.map .int)) => fst_eq hr hq h (by omega) (ll hr hq)
  rw [fs_eq] at fs
  have lc := cgL_len ns ms
  have lo := opL_len ns ms
  have lf : (fsL ns ms).length ≤ ms.length := Nat.le_trans (List.length_filter_le _ _) (by rw [rngI_len]; exact Nat.le_refl _)
  have L1 : (eL (eLc [10] (eCall rng1 (aCons (oE (eApp lenD (aCons (oE (eV 1)) aNil))) aNil)) (gN 10) ct__law_right_1 ce__law_right_2)) [b0, .sh (.tuple (ns.map .int)), .sh (.tuple (ms.map .int)), s3, s4, s5, s6, s7, s8, s9, .no, .no] = .ok (.list ((cgL ns ms).map .int)) [b0, .sh (.tuple (ns.map .int)), .sh (.tuple (ms.map .int)), s3, s4, s5, s6, s7, s8, s9, .no, .no] := by
    refine eL_ok (eLc_ok (ρ1 := [b0, .sh (.tuple (ns.map .int)), .sh (.tuple (ms.map .int)), s3, s4, s5, s6, s7, s8, s9, .no, .no]) (ρ2 := [b0, .sh (.tuple (ns.map .int)), .sh (.tuple (ms.map .int)), s3, s4, s5, s6, s7, s8, s9, .no, .no]) (ds := rangeD 0 ns.length) (rt_rg T.leni (rng1_eq (by omega) (by omega))) (by rw [rangeD_len]; exact size_of (by omega)) ?_)
    rw [rngI_d]
    exact rt_lc T U h
  have S1 := par_ok (i := 3) (j := 4) (nS_ok (rt_rp (b0 := b0) (s3 := s3) (s4 := s4) (s5 := s5) (s6 := s6) (s7 := s7) (s8 := s8) (s9 := s9) (s10 := .no) (s11 := .no) rp (by decide))) (nS_ok L1)
  have S2 := rt_due (b0 := b0) (s3 := .sh (.str (PyData.shown (.list [.tuple (ns.map .int), .tuple (ms.map .int)])))) (s5 := s5) (s6 := s6) (s7 := s7) (s8 := s8) (s9 := s9) (s10 := .no) (s11 := .no) (r := .tuple (ns.map .int)) (q := .tuple (ms.map .int)) (C := (cgL ns ms).map .int) (P := (opL ns ms).map ptD) (F := (fsL ns ms).map .int) (n := (((cgL ns ms).map PyData.int).length : Int)) rfl
    (g := eLc [11] (gSeq (eL (eCall F__law_pieces (aCons (oE (eV 1)) (aCons (oE (eV 2)) aNil))))) (gN 11) gYes ce__law_right_3) (eLc_ok (ρ1 := [b0, .sh (.tuple (ns.map .int)), .sh (.tuple (ms.map .int)), .sh (.str (PyData.shown (.list [.tuple (ns.map .int), .tuple (ms.map .int)]))), .sh (.list ((cgL ns ms).map .int)), s5, s6, s7, s8, s9, .no, .no]) (ρ2 := [b0, .sh (.tuple (ns.map .int)), .sh (.tuple (ms.map .int)), .sh (.str (PyData.shown (.list [.tuple (ns.map .int), .tuple (ms.map .int)]))), .sh (.list ((cgL ns ms).map .int)), s5, s6, s7, s8, s9, .no, .no]) (rt_ps (pieces_eq T U h (by omega))) (by rw [List.length_map]; exact size_of (by omega)) (rt_pl _)) (fi_eq T U h (by omega)) (by decide)
  have pC : Pl 4 (.list ((cgL ns ms).map .int)) := pl_ints _ (by omega)
  have pP : Pl 4 (.list ((opL ns ms).map ptD)) := pl_pts (by omega)
  have pF : Pl 4 (.list ((fsL ns ms).map .int)) := pl_ints _ (by omega)
  have sm : F__law_same 6 [.list [.list ((cgL ns ms).map .int), .int (((cgL ns ms).map PyData.int).length : Int), .list ((opL ns ms).map ptD), .list ((fsL ns ms).map .int)], .list [.list ((cgL ns ms).map .int), .int (((cgL ns ms).map PyData.int).length : Int), .list ((opL ns ms).map ptD), .list ((fsL ns ms).map .int)]] = some (.bool true) :=
    same_refl 5 (.list (by show 4 ≤ sizeLine; decide) fun x hx => by
      simp only [List.mem_cons, List.not_mem_nil, or_false] at hx
      rcases hx with rfl | rfl | rfl | rfl
      · exact pC
      · exact .int _ _
      · exact pP
      · exact pF)
  have sm2 : F__law_same 6 [.list [.list ((cgL ns ms).map .int), .int (((cgL ns ms).map PyData.int).length : Int)], .list [.list ((cgL ns ms).map .int), .int (((cgL ns ms).map PyData.int).length : Int)]] = some (.bool true) :=
    same_refl 5 (.list (by show 2 ≤ sizeLine; decide) fun x hx => by
      simp only [List.mem_cons, List.not_mem_nil, or_false] at hx
      rcases hx with rfl | rfl
      · exact pC
      · exact .int _ _)
  have sl : sliceU (.list [.list ((cgL ns ms).map .int), .int (((cgL ns ms).map PyData.int).length : Int), .list ((opL ns ms).map ptD), .list ((fsL ns ms).map .int)]) none (some 2) = some (.list [.list ((cgL ns ms).map .int), .int (((cgL ns ms).map PyData.int).length : Int)]) := rfl
  have zC : ((cgL ns ms).map PyData.int).length + 3 ≤ sizeLine := by rw [List.length_map]; exact size_of (by omega)
  have zP : ((opL ns ms).map ptD).length + 3 ≤ sizeLine := by rw [List.length_map]; exact size_of (by omega)
  have zF : ((fsL ns ms).map PyData.int).length + 3 ≤ sizeLine := by rw [List.length_map]; exact size_of (by omega)
  have c1 := cg T U
  have c2 := cg Tl Ul
  have c3 := cg T Ul
  have d1 := ds T U
  have d2 := ds Tl Ul
  have d3 := ds Tl U
  have p1 := pt T U
  have p2 := pt Tl Ul
  have f1 := fs T U
  have f2 := fs Tl Ul
  have l1 := T.lst
  have l2 := U.lst
  clear cg ds pt fs ll sh pC pP pF lc lo lf r1 r2 h1 k
  generalize (cgL ns ms).map PyData.int = C at *
  generalize (opL ns ms).map ptD = P at *
  generalize (fsL ns ms).map PyData.int = F at *
  generalize PyData.shown (.list [.tuple (ns.map .int), .tuple (ms.map .int)]) = x at *
  generalize PyData.tuple (ns.map .int) = L at *
  generalize PyData.tuple (ms.map .int) = M at *
  have TL : gr__law_right_4 [b0, .sh L, .sh M, .sh (.str x), .sh (.list C), .sh (.list [.list C, .int (C.length : Int), .list P, .list F]), .no, .sh (.list (ns.map .int)), .sh (.list (ms.map .int)), s9, .no, .no] = .nx [b0, .sh L, .sh M, .sh (.str x), .sh (.list C), .sh (.list [.list C, .int (C.length : Int), .list P, .list F]), .no, .sh (.list (ns.map .int)), .sh (.list (ms.map .int)), .ow [.list C, .int (C.length : Int), .list P, .list F], .no, .no] :=
    seq_nx (rt_m1 c2 d2 p2 (by decide)) (seq_nx (rt_m2 f2 (by decide)) (seq_nx (rt_m3 c3 d3 sm sl sm2 (by decide) rfl) (rt_m4 rp (by decide) (decide_eq_true rfl))))
  have hj : ∀ j ∈ [0, 2, 3], ∃ T, [Nw.f C, .s (.int (C.length : Int)), .f P, .f F][j]? = some (.f T) ∧ T.length + 3 ≤ sizeLine := fun j hj => by
    simp only [List.mem_cons, List.not_mem_nil, or_false] at hj
    rcases hj with rfl | rfl | rfl
    · exact ⟨C, rfl, zC⟩
    · exact ⟨P, rfl, zP⟩
    · exact ⟨F, rfl, zF⟩
  exact ⟨_, _, _, _, _, _, _, seq_nx S1 (seq_nx S2 (heardTA_ok (ns := [.f C, .s (.int (C.length : Int)), .f P, .f F]) (ρ1 := [b0, .sh L, .sh M, .sh (.str x), .sh (.list C), .sh (.list [.list C, .int (C.length : Int), .list P, .list F]), s6, s7, s8, s9, .no, .no]) (due := .list [.list C, .int (C.length : Int), .list P, .list F]) (rt_gn c1 d1 p1 f1) (by show 4 ≤ sizeLine; decide) (by show 6 < 12; decide) (by show 3 ≤ sizeLine; decide) rfl sm hj (rt_ls1 l1) (rt_ls2 l2) rfl TL))⟩
end W

namespace W
open PySem L2 DL
local macro_rules | `(tactic| walk_at "ev") => `(tactic| simp only [eC, eV, oE, oV, eL, eT, aNil, aCons, eOp2, eOp1, eApp, tstE, eB, tNotG, tAndG, tOrG, eAndG, eOrG, eNotG, eIf, eSeq, eCall, eCallO, eCallB, eCallBF, eCallBX, sSeq, sNext, sRet, sRetF, sRetO, sRetN, sDrop, sIf, sSet, sSetO, sBreak, sCont, sBad, sPar, sPar3, fz, sFz, eCallW, idL, sApp, sPutIx, sAug, sFor, gN, gT, gsCons, gsNil, gYes, eLc, gSeq, nS, nF, Nw.sl, R.ok_bind, R.ok_map, R.lift_some, to_ok, toX_ok, toX_ex, bind_nx, bind_rt, bind_rf, bind_ex, bind_bk, bind_ct, at_ok, at_ex, res_val, map_ex, rbind_ex, Op.res, resA, valA, isOw, box0, Option.map_some, Option.bind_some, sHeardT, nlCons, nlNil, Nw.dat, mSet, eChain, eRg1, eRg2, eSl, pNo, pSo,
  List.getElem?_cons_zero, List.getElem?_cons_succ, List.set_cons_zero, List.set_cons_succ, List.length_cons, List.length_nil, if_true, if_false, Bool.false_eq_true, ite_true, ite_false, reduceIte,
  addU_int, subD_int, ltD_int, leD_int, gtD_int, geD_int, negD_int, absD_int, intD_bool, intD_int, lenD_list, lenD_tuple, lenD_scr, pow10_7, pow10_18, pow10_40, eqW_ints, neW_ints, eqW_strs, neW_strs, eqW_none, eqW_in, eqW_ni, ixD_list, ixD_tuple, ixD_scr, atI_3_0, atI_3_1, atI_3_2, ixN_3_0, ixN_3_1, ixN_3_2, wipeR, zip2D, skOf, isiD_n, isiD_b, isiD_i, isiD_s, isiD_l, isiD_t, isiTD_n, isiTD_b, isiTD_i, isiTD_s, isiTD_l, isiTD_t, isiAny, eCallX, eCallWX, xE, xIf, xL, xCb1, sSetX, sRetX, sDropX, sRaise, sTo, eMk, isX_n, sKeep, kt_ll, kt_lt, kt_ls, kt_li, kt_lb, kt_tl, kt_tt, kt_ts, kt_ti, kt_tb, kt_sl, kt_st, kt_ss, kt_si, kt_sb, kt_il, kt_it, kt_is, kt_ii, kt_ib, kt_bl, kt_bt, kt_bs, kt_bi, kt_bb, kt_nl, kt_nt, kt_ns, kt_ni, kt_nb, eqW_bools, neW_bools, isD_none, isNotD_none, isNoneD, isNone_e, List.map_cons, List.map_nil, List.replicate, List.append_nil, List.cons_append, List.nil_append, nc0, nc1, nc2, nc3, nc4, nc5, nc6, nc7, nc8, nc9, nc10, nc11, nc12, nc13, nc14, nc15, nc16, nc17, nc18, nc19, nc20, Nat.reduceAdd, Nat.reduceSub, ne_eq, decide_true, decide_false, not_true_eq_false, not_false_eq_true, reduceCtorEq, Bool.and_true, Bool.true_and, Bool.and_false, Bool.false_and, Bool.or_true, Bool.true_or, Bool.or_false, Bool.false_or, Bool.not_true, Bool.not_false, and_self, if_true])
local macro_rules | `(tactic| walk_at "evh") => `(tactic| simp only [eC, eV, oE, oV, eL, eT, aNil, aCons, eOp2, eOp1, eApp, tstE, eB, tNotG, tAndG, tOrG, eAndG, eOrG, eNotG, eIf, eSeq, eCall, eCallO, eCallB, eCallBF, eCallBX, sSeq, sNext, sRet, sRetF, sRetO, sRetN, sDrop, sIf, sSet, sSetO, sBreak, sCont, sBad, sPar, sPar3, fz, sFz, eCallW, idL, sApp, sPutIx, sAug, sFor, gN, gT, gsCons, gsNil, gYes, eLc, gSeq, nS, nF, Nw.sl, R.ok_bind, R.ok_map, R.lift_some, to_ok, toX_ok, toX_ex, bind_nx, bind_rt, bind_rf, bind_ex, bind_bk, bind_ct, at_ok, at_ex, res_val, map_ex, rbind_ex, Op.res, resA, valA, isOw, box0, Option.map_some, Option.bind_some, sHeardT, nlCons, nlNil, Nw.dat, mSet, eChain, eRg1, eRg2, eSl, pNo, pSo,
  List.getElem?_cons_zero, List.getElem?_cons_succ, List.set_cons_zero, List.set_cons_succ, List.length_cons, List.length_nil, if_true, if_false, Bool.false_eq_true, ite_true, ite_false, reduceIte,
  addU_int, subD_int, ltD_int, leD_int, gtD_int, geD_int, negD_int, absD_int, intD_bool, intD_int, lenD_list, lenD_tuple, lenD_scr, pow10_7, pow10_18, pow10_40, eqW_ints, neW_ints, eqW_strs, neW_strs, eqW_none, eqW_in, eqW_ni, ixD_list, ixD_tuple, ixD_scr, atI_3_0, atI_3_1, atI_3_2, ixN_3_0, ixN_3_1, ixN_3_2, wipeR, zip2D, skOf, isiD_n, isiD_b, isiD_i, isiD_s, isiD_l, isiD_t, isiTD_n, isiTD_b, isiTD_i, isiTD_s, isiTD_l, isiTD_t, isiAny, eCallX, eCallWX, xE, xIf, xL, xCb1, sSetX, sRetX, sDropX, sRaise, sTo, eMk, isX_n, sKeep, kt_ll, kt_lt, kt_ls, kt_li, kt_lb, kt_tl, kt_tt, kt_ts, kt_ti, kt_tb, kt_sl, kt_st, kt_ss, kt_si, kt_sb, kt_il, kt_it, kt_is, kt_ii, kt_ib, kt_bl, kt_bt, kt_bs, kt_bi, kt_bb, kt_nl, kt_nt, kt_ns, kt_ni, kt_nb, eqW_bools, neW_bools, isD_none, isNotD_none, isNoneD, isNone_e, List.map_cons, List.map_nil, List.replicate, List.append_nil, List.cons_append, List.nil_append, nc0, nc1, nc2, nc3, nc4, nc5, nc6, nc7, nc8, nc9, nc10, nc11, nc12, nc13, nc14, nc15, nc16, nc17, nc18, nc19, nc20, Nat.reduceAdd, Nat.reduceSub, ne_eq, decide_true, decide_false, not_true_eq_false, not_false_eq_true, reduceCtorEq, Bool.and_true, Bool.true_and, Bool.and_false, Bool.false_and, Bool.or_true, Bool.true_or, Bool.or_false, Bool.false_or, Bool.not_true, Bool.not_false, and_self, if_true, *])
theorem rt_a {box box1 box2 : List D} {t : Int} {L : D} (e1 : F__law_of box [.list [.int 2, .int 9, .int 10000000000000000000000000000000000000000]] = some (.int t, box1)) (e2 : F__law_random_line box1 [.int 16, .int t] = some (L, box2)) (sz3 : 3 ≤ sizeLine) (p : powD (.int 10) (.int 40) = some (.int 10000000000000000000000000000000000000000)) :
    (sSet 1 (eCallB F__law_random_line 0 (aCons (oE (eC (.int 16))) (aCons (oE (eCallB F__law_of 0 (aCons (oE (eL (eSeq (aCons (oE (eC (.int 2))) (aCons (oE (eC (.int 9))) (aCons (oE (eOp2 powD (oE (eC (.int 10))) (oE (eC (.int 40))))) aNil)))))) aNil))) aNil)))) [.ow box, .no, .no, .no, .no, .no, .no, .no, .no, .no, .no, .no] = .nx [.ow box2, .sh L, .no, .no, .no, .no, .no, .no, .no, .no, .no, .no] := by
  walk_at "evh"
theorem rt_b {box box1 box2 : List D} {L A B : D} (e1 : F__law_led box [L, .int 6] = some (A, box1)) (e2 : F__law_led box1 [L, .int 60] = some (B, box2)) (z : 3 ≤ sizeLine) (it : itemsD (.tuple [L, A, B]) = some [L, A, B]) :
    (gSeq (eT (eSeq (aCons (oE (eV 1)) (aCons (oE (eCallB F__law_led 0 (aCons (oE (eV 1)) (aCons (oE (eC (.int 6))) aNil)))) (aCons (oE (eCallB F__law_led 0 (aCons (oE (eV 1)) (aCons (oE (eC (.int 60))) aNil)))) aNil)))))) [.ow box, .sh L, .no, .no, .no, .no, .no, .no, .no, .no, .no, .no] = .ok [L, A, B] [.ow box2, .sh L, .no, .no, .no, .no, .no, .no, .no, .no, .no, .no] := by
  walk_at "evh"
theorem right_eq {n : Int} {box : List D} (hb : GoodBox n box) (hn : n < 2 ^ 30) : ∃ box', F__law_right box [] = some (.bool true, box') ∧ GoodBox (n + 10000) box' := by
  obtain ⟨y, box1, e1, hy, g1⟩ := of_eq (xs := [.int 2, .int 9, .int 10000000000000000000000000000000000000000]) hb (by omega) (by decide) (by decide)
  obtain ⟨t, rfl, ht⟩ : ∃ t : Int, y = .int t ∧ 1 ≤ t ∧ t ≤ 10 ^ 40 := by
    simp only [List.mem_cons, List.not_mem_nil, or_false] at hy
    rcases hy with rfl | rfl | rfl
    · exact ⟨2, rfl, by omega, by omega⟩
    · exact ⟨9, rfl, by omega, by omega⟩
    · exact ⟨_, rfl, by omega, by omega⟩
  obtain ⟨ns, box2, e2, h16, hr, g2⟩ := rline_eq (most := 16) g1 (by omega) (by omega) ht
  have hr' : ∀ x ∈ ns, x.natAbs ≤ 10 ^ 42 := fun x hx => Nat.le_trans (hr x hx) (by decide)
  obtain ⟨ta, box3, e3, ha, g3⟩ := led_eq (most := 6) (ns := ns) g2 (by omega) (by omega) (by omega)
  obtain ⟨tb, box4, e4, hB, g4⟩ := led_eq (most := 60) (ns := ns) g3 (by omega) (by omega) (by omega)
  have e3 : F__law_led box2 [.tuple (ns.map .int), .int 6] = some (.tuple ((runN ns ta).map .int), box3) := e3
  have e4 : F__law_led box3 [.tuple (ns.map .int), .int 60] = some (.tuple ((runN ns tb).map .int), box4) := e4
  have all : ∀ d ∈ [PyData.tuple (ns.map .int), .tuple ((runN ns ta).map .int), .tuple ((runN ns tb).map .int)], ∃ ms : List Int, d = .tuple (ms.map .int) ∧ Keep ns ms ∧ ∀ x ∈ ms, x.natAbs ≤ 10 ^ 42 := fun d hd => by
    simp only [List.mem_cons, List.not_mem_nil, or_false] at hd
    rcases hd with rfl | rfl | rfl
    · exact ⟨ns, rfl, Keep.refl ns, hr'⟩
    · exact ⟨_, rfl, keep_run ha, fun x hx => hr' x (mem_runN ta ha hx)⟩
    · exact ⟨_, rfl, keep_run hB, fun x hx => hr' x (mem_runN tb hB hx)⟩
  obtain ⟨ρ', f, t2, t3, t4, t5, t6, t7, t8, t9, rfl⟩ := for_all (k := gN 2) (b := gb__law_right_5) (ds := [PyData.tuple (ns.map .int), .tuple ((runN ns ta).map .int), .tuple ((runN ns tb).map .int)]) (fun ρ => ∃ s2 s3 s4 s5 s6 s7 s8 s9, ρ = [.ow box4, .sh (.tuple (ns.map .int)), s2, s3, s4, s5, s6, s7, s8, s9, .no, .no]) (fun d hd ρ h => by
    obtain ⟨s2, s3, s4, s5, s6, s7, s8, s9, rfl⟩ := h
    obtain ⟨ms, rfl, k, r⟩ := all d hd
    obtain ⟨t3, t4, t5, t6, t7, t8, t9, e⟩ := body_eq (b0 := .ow box4) (s3 := s3) (s4 := s4) (s5 := s5) (s6 := s6) (s7 := s7) (s8 := s8) (s9 := s9) (ns := ns) (ms := ms) k h16 hr' r
    exact ⟨_, rfl, _, e, _, _, _, _, _, _, _, _, rfl⟩) (ρ := [.ow box4, .sh (.tuple (ns.map .int)), .no, .no, .no, .no, .no, .no, .no, .no, .no, .no]) ⟨_, _, _, _, _, _, _, _, rfl⟩
  have st : g__law_right [.ow box, .no, .no, .no, .no, .no, .no, .no, .no, .no, .no, .no] = .rt (.bool true) [.ow box4, .sh (.tuple (ns.map .int)), t2, t3, t4, t5, t6, t7, t8, t9, .no, .no] := seq_nx (rt_a e1 e2 (by decide) rfl) (seq_nx (sFor_nx (rt_b e3 e4 (by decide) rfl) f) rfl)
  refine ⟨box4, ?_, g4.mono (by omega)⟩
  unfold F__law_right callB envB
  show (match g__law_right [.ow box, .no, .no, .no, .no, .no, .no, .no, .no, .no, .no, .no] with
    | .rt d ρ => (box0 ρ).map (d, ·)
    | .nx ρ => (box0 ρ).map (.none, ·)
    | .rf ds ρ => (box0 ρ).map (.list ds, ·)
    | _ => none) = _
  rw [st]; rfl
end W

namespace W
open PySem L2 DL
local macro_rules | `(tactic| walk_at "ev") => `(tactic| simp only [eC, eV, oE, oV, eL, eT, aNil, aCons, eOp2, eOp1, eApp, tstE, eB, tNotG, tAndG, tOrG, eAndG, eOrG, eNotG, eIf, eSeq, eCall, eCallO, eCallB, eCallBF, eCallBX, sSeq, sNext, sRet, sRetF, sRetO, sRetN, sDrop, sIf, sSet, sSetO, sBreak, sCont, sBad, sPar, sPar3, fz, sFz, eCallW, idL, sApp, sPutIx, sAug, sFor, gN, gT, gsCons, gsNil, gYes, eLc, gSeq, nS, nF, Nw.sl, R.ok_bind, R.ok_map, R.lift_some, to_ok, toX_ok, toX_ex, bind_nx, bind_rt, bind_rf, bind_ex, bind_bk, bind_ct, at_ok, at_ex, res_val, map_ex, rbind_ex, Op.res, resA, valA, isOw, box0, Option.map_some, Option.bind_some, sHeardT, nlCons, nlNil, Nw.dat, mSet, eChain, eRg1, eRg2, eSl, pNo, pSo,
  List.getElem?_cons_zero, List.getElem?_cons_succ, List.set_cons_zero, List.set_cons_succ, List.length_cons, List.length_nil, if_true, if_false, Bool.false_eq_true, ite_true, ite_false, reduceIte,
  addU_int, subD_int, ltD_int, leD_int, gtD_int, geD_int, negD_int, absD_int, intD_bool, intD_int, lenD_list, lenD_tuple, lenD_scr, pow10_7, pow10_18, pow10_40, eqW_ints, neW_ints, eqW_strs, neW_strs, eqW_none, eqW_in, eqW_ni, ixD_list, ixD_tuple, ixD_scr, atI_3_0, atI_3_1, atI_3_2, ixN_3_0, ixN_3_1, ixN_3_2, wipeR, zip2D, skOf, isiD_n, isiD_b, isiD_i, isiD_s, isiD_l, isiD_t, isiTD_n, isiTD_b, isiTD_i, isiTD_s, isiTD_l, isiTD_t, isiAny, eCallX, eCallWX, xE, xIf, xL, xCb1, sSetX, sRetX, sDropX, sRaise, sTo, eMk, isX_n, sKeep, kt_ll, kt_lt, kt_ls, kt_li, kt_lb, kt_tl, kt_tt, kt_ts, kt_ti, kt_tb, kt_sl, kt_st, kt_ss, kt_si, kt_sb, kt_il, kt_it, kt_is, kt_ii, kt_ib, kt_bl, kt_bt, kt_bs, kt_bi, kt_bb, kt_nl, kt_nt, kt_ns, kt_ni, kt_nb, eqW_bools, neW_bools, isD_none, isNotD_none, isNoneD, isNone_e, List.map_cons, List.map_nil, List.replicate, List.append_nil, List.cons_append, List.nil_append, nc0, nc1, nc2, nc3, nc4, nc5, nc6, nc7, nc8, nc9, nc10, nc11, nc12, nc13, nc14, nc15, nc16, nc17, nc18, nc19, nc20, Nat.reduceAdd, Nat.reduceSub, ne_eq, decide_true, decide_false, not_true_eq_false, not_false_eq_true, reduceCtorEq, Bool.and_true, Bool.true_and, Bool.and_false, Bool.false_and, Bool.or_true, Bool.true_or, Bool.or_false, Bool.false_or, Bool.not_true, Bool.not_false])
local macro_rules | `(tactic| walk_at "evh") => `(tactic| simp only [eC, eV, oE, oV, eL, eT, aNil, aCons, eOp2, eOp1, eApp, tstE, eB, tNotG, tAndG, tOrG, eAndG, eOrG, eNotG, eIf, eSeq, eCall, eCallO, eCallB, eCallBF, eCallBX, sSeq, sNext, sRet, sRetF, sRetO, sRetN, sDrop, sIf, sSet, sSetO, sBreak, sCont, sBad, sPar, sPar3, fz, sFz, eCallW, idL, sApp, sPutIx, sAug, sFor, gN, gT, gsCons, gsNil, gYes, eLc, gSeq, nS, nF, Nw.sl, R.ok_bind, R.ok_map, R.lift_some, to_ok, toX_ok, toX_ex, bind_nx, bind_rt, bind_rf, bind_ex, bind_bk, bind_ct, at_ok, at_ex, res_val, map_ex, rbind_ex, Op.res, resA, valA, isOw, box0, Option.map_some, Option.bind_some, sHeardT, nlCons, nlNil, Nw.dat, mSet, eChain, eRg1, eRg2, eSl, pNo, pSo,
  List.getElem?_cons_zero, List.getElem?_cons_succ, List.set_cons_zero, List.set_cons_succ, List.length_cons, List.length_nil, if_true, if_false, Bool.false_eq_true, ite_true, ite_false, reduceIte,
  addU_int, subD_int, ltD_int, leD_int, gtD_int, geD_int, negD_int, absD_int, intD_bool, intD_int, lenD_list, lenD_tuple, lenD_scr, pow10_7, pow10_18, pow10_40, eqW_ints, neW_ints, eqW_strs, neW_strs, eqW_none, eqW_in, eqW_ni, ixD_list, ixD_tuple, ixD_scr, atI_3_0, atI_3_1, atI_3_2, ixN_3_0, ixN_3_1, ixN_3_2, wipeR, zip2D, skOf, isiD_n, isiD_b, isiD_i, isiD_s, isiD_l, isiD_t, isiTD_n, isiTD_b, isiTD_i, isiTD_s, isiTD_l, isiTD_t, isiAny, eCallX, eCallWX, xE, xIf, xL, xCb1, sSetX, sRetX, sDropX, sRaise, sTo, eMk, isX_n, sKeep, kt_ll, kt_lt, kt_ls, kt_li, kt_lb, kt_tl, kt_tt, kt_ts, kt_ti, kt_tb, kt_sl, kt_st, kt_ss, kt_si, kt_sb, kt_il, kt_it, kt_is, kt_ii, kt_ib, kt_bl, kt_bt, kt_bs, kt_bi, kt_bb, kt_nl, kt_nt, kt_ns, kt_ni, kt_nb, eqW_bools, neW_bools, isD_none, isNotD_none, isNoneD, isNone_e, List.map_cons, List.map_nil, List.replicate, List.append_nil, List.cons_append, List.nil_append, nc0, nc1, nc2, nc3, nc4, nc5, nc6, nc7, nc8, nc9, nc10, nc11, nc12, nc13, nc14, nc15, nc16, nc17, nc18, nc19, nc20, Nat.reduceAdd, Nat.reduceSub, ne_eq, decide_true, decide_false, not_true_eq_false, not_false_eq_true, reduceCtorEq, Bool.and_true, Bool.true_and, Bool.and_false, Bool.false_and, Bool.or_true, Bool.true_or, Bool.or_false, Bool.false_or, Bool.not_true, Bool.not_false, *])
/-! the law over up to three cells, 3 turns each, from right_eq -/
theorem paired_c {c : D} : ∀ {ds ys : List D}, Paired (fun _ y => y = c) ds ys → ys = ds.map fun _ => c
  | _, _, .nil => rfl
  | _, _, .cons h r => by rw [List.map_cons, ← paired_c r, h]
theorem law_turns (m : Nat) {box : List D} {s0 s1 s2 : Sl} (hb : GoodBox 0 box) (hm : m ≤ 100) : ∃ box', lcL [4] (gN 4) gYes ce_law_1 (rangeD 0 m) [s0, s1, s2, .ow box, .no] = .ok ((rangeD 0 m).map fun _ => PyData.bool true) [s0, s1, s2, .ow box', .no] := by
  obtain ⟨ys, ρ', e, ⟨box', rfl, _⟩, hp⟩ := lc_inv (vs := [4]) (k := gN 4) (t := gYes) (e := ce_law_1) (ds := rangeD 0 m) (fun i ρ => ∃ box, ρ = [s0, s1, s2, .ow box, .no] ∧ GoodBox (100000 * i) box) (fun _ y => y = .bool true)
    (fun i d ρ hd h => by
      obtain ⟨rfl, hi⟩ := rangeD_at hd
      obtain ⟨box, rfl, g⟩ := h
      obtain ⟨box', e, g'⟩ := right_eq g (by omega)
      refine ⟨[s0, s1, s2, .ow box, .sh (.int (i : Int))], rfl, _, rfl, .bool true, [s0, s1, s2, .ow box', .sh (.int (i : Int))], ?_, rfl, box', rfl, g'.mono (by omega)⟩
      clear g g'
      unfold ce_law_1
      walk_at "evh")
    (ρ := [s0, s1, s2, .ow box, .no]) ⟨box, rfl, hb.mono (by omega)⟩
  exact ⟨box', by rw [e, paired_c hp]⟩
theorem turn_go {c : D} {k : Int} {box box' Rg : List D} {s0 s3 : Sl} (e1 : F__law_box [c, .int k] = some box) (rg : rng1 [.int 3] = some Rg) (hz : Rg.length ≤ sizeLine) (e2 : lcL [4] (gN 4) gYes ce_law_1 Rg [s0, .sh c, .sh (.int k), .ow box, .no] = .ok (Rg.map fun _ => PyData.bool true) [s0, .sh c, .sh (.int k), .ow box', .no]) (al : allD [.list (Rg.map fun _ => PyData.bool true)] = some (.bool true)) :
    gb_law_2 [s0, .sh c, .sh (.int k), s3, .no] = .nx [s0, .sh c, .sh (.int k), .ow box', .no] := by
  unfold gb_law_2
  refine seq_nx (ρ1 := [s0, .sh c, .sh (.int k), .ow box, .no]) ?_ ?_
  · clear e2 al rg hz
    walk_at "evh"
  · have lc := eLc_ok (vs := [4]) (gi := eCall rng1 (aCons (oE (eC (.int 3))) aNil)) (k := gN 4) (t := gYes) (e := ce_law_1) (ρ := [s0, .sh c, .sh (.int k), .ow box, .no]) (ρ1 := [s0, .sh c, .sh (.int k), .ow box, .no]) (by clear e2 al; walk_at "evh") hz e2
    generalize eLc [4] (eCall rng1 (aCons (oE (eC (.int 3))) aNil)) (gN 4) gYes ce_law_1 = g at lc
    generalize (Rg.map fun _ => PyData.bool true) = ys at *
    clear e2 rg hz e1
    walk_at "evh"
theorem law_go {r c : D} {Rg : List D} {j : Int} {ρ : Rho} (e1 : F__law_cells [r, .int 3] = some c) (hj : lenD [c] = some (.int j)) (rg : rng1 [.int j] = some Rg) (e2 : forL (gN 2) gb_law_2 Rg [.sh r, .sh c, .no, .no, .no] = .nx ρ) : F_law [r] = some (.bool true) := by
  unfold F_law callP g_law env0
  walk_at "evh"
theorem law_true (ns : List Int) (hl : ns.length ≤ 63) : F_law [.dict [(.list (ns.map .int), .none)]] = some (.bool true) := by
  obtain ⟨ms, e1, m1, m2⟩ := cells_eq (ns := ns) (m := 3) (by decide)
  have rT : rng1 [.int 3] = some (rangeD 0 3) := rng1_eq (by omega) (by omega)
  obtain ⟨ρ', e3, _⟩ := for_inv (k := gN 2) (b := gb_law_2) (ds := rangeD 0 ms.length)
    (fun i ρ => ∃ s2 s3, ρ = [.sh (.dict [(.list (ns.map .int), .none)]), .sh (.list (ms.map .int)), s2, s3, .no])
    (fun i d ρ hd h => by
      obtain ⟨rfl, hi⟩ := rangeD_at hd
      obtain ⟨s2, s3, rfl⟩ := h
      obtain ⟨box, eb, g⟩ := box_eq (ns := ms) (k := i) (by omega)
      obtain ⟨box', el⟩ := law_turns 3 (s0 := .sh (.dict [(.list (ns.map .int), .none)])) (s1 := .sh (.list (ms.map .int))) (s2 := .sh (.int (i : Int))) g (by omega)
      exact ⟨[.sh (.dict [(.list (ns.map .int), .none)]), .sh (.list (ms.map .int)), .sh (.int (i : Int)), s3, .no], rfl, _, .inl (turn_go eb rT (by rw [rangeD_len]; decide) el (all_true _)), _, _, rfl⟩)
    (ρ := [.sh (.dict [(.list (ns.map .int), .none)]), .sh (.list (ms.map .int)), .no, .no, .no]) ⟨.no, .no, rfl⟩
  exact law_go e1 (j := (ms.length : Int)) (by rw [lenD_list, List.length_map]) (rng1_eq (by omega) (by omega)) e3
end W

namespace W
open PySem L2 DL
def FF (K : PySem.W.Frag) (name : Str) (st : Stmt) : Prop := ∃ (f : Addr) (fd : FuncData), PySem.W.nsIn K mainGlobals name = some (some (.ref f)) ∧ Fun K name name st f fd
theorem ff_mk {K : PySem.W.Frag} {name : Str} {st : Stmt} {f : Addr} {oc : Value} {od an : Option Addr} {osl : Array (Option Value)} {kV doc pm cdv ct : Value} (a : PySem.W.nsIn K mainGlobals name = some (some (.ref f)))
    (l : K.lookup f = some ⟨oc, od, .func (PySem.W.fnOf name name (defArgs st) (defBody st) (defScope st) .none kV doc pm an cdv ct), osl⟩) (c : PySem.W.codeIn K cdv name = true) (k : PySem.W.keepIn K (.ref f) = true) : FF K name st := ⟨f, _, a, fun_mk l c k⟩
theorem kwB_of {K : PySem.W.Frag} {x qual : Str} {st : Stmt} {f : Addr} {fd : FuncData} {ps ks : List Str} {g : {α : Type} → List α → List α} (F : Fun K x qual st f fd) (rel : ∀ {A C : Type} {rel : A → C → Prop} {zs : List A} {ws : List C}, Paired rel zs ws → Paired rel (g zs) (g ws))
    (h : ∀ (kV doc pm : Value) (an : Option Addr) (cdv ct : Value) (ws : List Value), ws.length = ks.length → bindArgs (PySem.W.fnOf x qual (defArgs st) (defBody st) (defScope st) .none kV doc pm an cdv ct) ⟨[], ks.zip ws⟩ = pure (ps.zip (g ws))) : KwB K fd ps ks g := by
  obtain ⟨oc, od, kV, doc, pm, an, cdv, ct, osl, rfl, lk, hcd⟩ := F.ex
  exact ⟨fun s ws _ hl => .of_eq (h kV doc pm an cdv ct ws hl), rel⟩
theorem kwI_of {K : PySem.W.Frag} {x qual : Str} {st : Stmt} {f : Addr} {fd : FuncData} {n : Str} (F : Fun K x qual st f fd)
    (h : ∀ (kV doc pm : Value) (an : Option Addr) (cdv ct : Value) (a u : Value), bindArgs (PySem.W.fnOf x qual (defArgs st) (defBody st) (defScope st) .none kV doc pm an cdv ct) ⟨[a], [(n, u)]⟩ = pure ((["self", n] : List Str).zip [a, u])) : KwI K fd n := by
  obtain ⟨oc, od, kV, doc, pm, an, cdv, ct, osl, rfl, lk, hcd⟩ := F.ex
  exact fun s a u _ => .of_eq (h kV doc pm an cdv ct a u)
theorem all_mk {l : PySem.W.OpenLaw} {w : World} {K : PySem.W.Frag} {h : Heap} {mg : Str → Option Value} {fa : Addr} (X : K.In h) (G : h.Ns mainGlobals mg) (hfa : mg "law" = some (.ref fa))
    (f__law_box : FF K "_law_box" s__law_box) (f__law_cells : FF K "_law_cells" s__law_cells) (f__law_firsts : FF K "_law_firsts" s__law_firsts) (f__law_mid : FF K "_law_mid" s__law_mid) (f__law_call : FF K "_law_call" s__law_call) (f__law_take : FF K "_law_take" s__law_take) (f__law_strewn : FF K "_law_strewn" s__law_strewn) (f__law_stroll : FF K "_law_stroll" s__law_stroll) (f__law_led : FF K "_law_led" s__law_led) (f__law_of : FF K "_law_of" s__law_of) (f__law_heaps : FF K "_law_heaps" s__law_heaps) (f__law_pieces : FF K "_law_pieces" s__law_pieces) (f__law_random_line : FF K "_law_random_line" s__law_random_line) (f__law_same : FF K "_law_same" s__law_same) (f_look_many : FF K "look_many" s_look_many) (f_inner : FF K "inner" s_inner) (f_dips : FF K "dips" s_dips) (f_tops : FF K "tops" s_tops) (f_wrong_changes : FF K "wrong_changes" s_wrong_changes) (f_wrong_orders : FF K "wrong_orders" s_wrong_orders) (f_runs : FF K "runs" s_runs) (f_stayed : FF K "stayed" s_stayed) (f_wrong_runs : FF K "wrong_runs" s_wrong_runs) (f_bar : FF K "bar" s_bar) (f_look_leads : FF K "look_leads" s_look_leads) (f_changed : FF K "changed" s_changed) (f_distance : FF K "distance" s_distance) (f_next_calls : FF K "next_calls" s_next_calls) (f_open_parts : FF K "open_parts" s_open_parts) (f_firsts : FF K "firsts" s_firsts) (f_parts : FF K "parts" s_parts) (f__law_right : FF K "_law_right" s__law_right) (f_law : FF K "law" s_law)
    (z_len : PySem.W.nsIn K mainGlobals "len" = some none) (z_abs : PySem.W.nsIn K mainGlobals "abs" = some none) (z_int : PySem.W.nsIn K mainGlobals "int" = some none) (z_list : PySem.W.nsIn K mainGlobals "list" = some none) (z_enumerate : PySem.W.nsIn K mainGlobals "enumerate" = some none) (z_range : PySem.W.nsIn K mainGlobals "range" = some none) (z_sorted : PySem.W.nsIn K mainGlobals "sorted" = some none) (z_tuple : PySem.W.nsIn K mainGlobals "tuple" = some none) (z_max : PySem.W.nsIn K mainGlobals "max" = some none) (z_isinstance : PySem.W.nsIn K mainGlobals "isinstance" = some none) (z_zip : PySem.W.nsIn K mainGlobals "zip" = some none) (z_all : PySem.W.nsIn K mainGlobals "all" = some none) (z_bool : PySem.W.nsIn K mainGlobals "bool" = some none) (z_str : PySem.W.nsIn K mainGlobals "str" = some none) (z_ValueError : PySem.W.nsIn K mainGlobals "ValueError" = some none) (z_RuntimeError : PySem.W.nsIn K mainGlobals "RuntimeError" = some none) (z_set : PySem.W.nsIn K mainGlobals "set" = some none) (z_repr : PySem.W.nsIn K mainGlobals "repr" = some none) {u_ORDER : Tok} (w_ORDER : PySem.W.nsIn K mainGlobals "ORDER" = some (some (.str "order" u_ORDER))) {u_CHANGE : Tok} (w_CHANGE : PySem.W.nsIn K mainGlobals "CHANGE" = some (some (.str "change" u_CHANGE))) {u_RUN : Tok} (w_RUN : PySem.W.nsIn K mainGlobals "RUN" = some (some (.str "run" u_RUN)))
        {C_OtherPeople : Addr} (aC_OtherPeople : PySem.W.nsIn K mainGlobals "OtherPeople" = some (some (.ref C_OtherPeople)))
    {C_Barred : Addr} (aC_Barred : PySem.W.nsIn K mainGlobals "Barred" = some (some (.ref C_Barred)))
    {f_iOtherPeople N_OtherPeople : Addr} {nm_OtherPeople q_OtherPeople : Str} {bs_OtherPeople sub_OtherPeople : List Value} {sn_OtherPeople : List Str} {ab_OtherPeople : Bool} {col_OtherPeople : Option Bool} {dd_OtherPeople : Option Addr} {k0_OtherPeople k1_OtherPeople k2_OtherPeople k3_OtherPeople k5_OtherPeople : Option Value}
    {oc_OtherPeople kV_OtherPeople doc_OtherPeople pm_OtherPeople cdv_OtherPeople ct_OtherPeople : Value} {od_OtherPeople an_OtherPeople : Option Addr} {osl_OtherPeople : Array (Option Value)}
    (xL_OtherPeople : K.lookup C_OtherPeople = some (excClassObj nm_OtherPeople q_OtherPeople C_OtherPeople N_OtherPeople bs_OtherPeople tl_ValueError true sn_OtherPeople sub_OtherPeople ab_OtherPeople col_OtherPeople dd_OtherPeople k0_OtherPeople k1_OtherPeople k2_OtherPeople k3_OtherPeople k5_OtherPeople "ValueError.__new__"))
    (sa_OtherPeople : PySem.W.findIn K (.ref C_OtherPeople) "__setattr__" = some (some (.builtin "object.__setattr__"))) (ex_OtherPeople : PySem.W.subIn K (.ref C_OtherPeople) (.type "BaseException") = some true) (ty_OtherPeople : PySem.W.typeIn K (.ref C_OtherPeople) = some (.type "type")) (kp_OtherPeople : PySem.W.keepIn K (.ref C_OtherPeople) = true)
    (no_OtherPeople : PySem.W.findIn K (.ref C_OtherPeople) "many" = some none) (iC_OtherPeople : PySem.W.findIn K (.ref C_OtherPeople) "__init__" = some (some (.ref f_iOtherPeople))) (ti_OtherPeople : PySem.W.typeIn K (.ref f_iOtherPeople) = some (.type "function"))
    (li_OtherPeople : K.lookup f_iOtherPeople = some ⟨oc_OtherPeople, od_OtherPeople, .func (PySem.W.fnOf "__init__" "OtherPeople.__init__" (defArgs si_OtherPeople) (defBody si_OtherPeople) (defScope si_OtherPeople) .none kV_OtherPeople doc_OtherPeople pm_OtherPeople an_OtherPeople cdv_OtherPeople ct_OtherPeople), osl_OtherPeople⟩) (ci_OtherPeople : PySem.W.codeIn K cdv_OtherPeople "OtherPeople.__init__" = true) (ki_OtherPeople : PySem.W.keepIn K (.ref f_iOtherPeople) = true)
    {f_iBarred N_Barred : Addr} {nm_Barred q_Barred : Str} {bs_Barred sub_Barred : List Value} {sn_Barred : List Str} {ab_Barred : Bool} {col_Barred : Option Bool} {dd_Barred : Option Addr} {k0_Barred k1_Barred k2_Barred k3_Barred k5_Barred : Option Value}
    {oc_Barred kV_Barred doc_Barred pm_Barred cdv_Barred ct_Barred : Value} {od_Barred an_Barred : Option Addr} {osl_Barred : Array (Option Value)}
    (xL_Barred : K.lookup C_Barred = some (excClassObj nm_Barred q_Barred C_Barred N_Barred bs_Barred tl_RuntimeError true sn_Barred sub_Barred ab_Barred col_Barred dd_Barred k0_Barred k1_Barred k2_Barred k3_Barred k5_Barred "RuntimeError.__new__"))
    (sa_Barred : PySem.W.findIn K (.ref C_Barred) "__setattr__" = some (some (.builtin "object.__setattr__"))) (ex_Barred : PySem.W.subIn K (.ref C_Barred) (.type "BaseException") = some true) (ty_Barred : PySem.W.typeIn K (.ref C_Barred) = some (.type "type")) (kp_Barred : PySem.W.keepIn K (.ref C_Barred) = true)
    (no_Barred : PySem.W.findIn K (.ref C_Barred) "reason" = some none) (iC_Barred : PySem.W.findIn K (.ref C_Barred) "__init__" = some (some (.ref f_iBarred))) (ti_Barred : PySem.W.typeIn K (.ref f_iBarred) = some (.type "function"))
    (li_Barred : K.lookup f_iBarred = some ⟨oc_Barred, od_Barred, .func (PySem.W.fnOf "__init__" "Barred.__init__" (defArgs si_Barred) (defBody si_Barred) (defScope si_Barred) .none kV_Barred doc_Barred pm_Barred an_Barred cdv_Barred ct_Barred), osl_Barred⟩) (ci_Barred : PySem.W.codeIn K cdv_Barred "Barred.__init__" = true) (ki_Barred : PySem.W.keepIn K (.ref f_iBarred) = true)
    (vB_ValueError : PySem.W.findCls K (.type "ValueError") (.type "type") "__init__" = some (.val (.builtin "ValueError.__init__")))
    (vB_RuntimeError : PySem.W.findCls K (.type "RuntimeError") (.type "type") "__init__" = some (.val (.builtin "RuntimeError.__init__")))
    (et : etB K CsL UsL = true) :
    ∃ fd : FuncData, (∀ (s : Shared) (v : Value), BindsTo s fd ⟨[v], []⟩ [("_law_script", v)]) ∧ ∀ base : Heap, K.In base → base.Ns mainGlobals mg → FnG l.prog w K mg base 12 fa fd ["_law_script"] (spP K 1 F_law) := by
  obtain ⟨f__law_box, d__law_box, a__law_box, F__law_box⟩ := f__law_box
  obtain ⟨f__law_cells, d__law_cells, a__law_cells, F__law_cells⟩ := f__law_cells
  obtain ⟨f__law_firsts, d__law_firsts, a__law_firsts, F__law_firsts⟩ := f__law_firsts
  obtain ⟨f__law_mid, d__law_mid, a__law_mid, F__law_mid⟩ := f__law_mid
  obtain ⟨f__law_call, d__law_call, a__law_call, F__law_call⟩ := f__law_call
  obtain ⟨f__law_take, d__law_take, a__law_take, F__law_take⟩ := f__law_take
  obtain ⟨f__law_strewn, d__law_strewn, a__law_strewn, F__law_strewn⟩ := f__law_strewn
  obtain ⟨f__law_stroll, d__law_stroll, a__law_stroll, F__law_stroll⟩ := f__law_stroll
  obtain ⟨f__law_led, d__law_led, a__law_led, F__law_led⟩ := f__law_led
  obtain ⟨f__law_of, d__law_of, a__law_of, F__law_of⟩ := f__law_of
  obtain ⟨f__law_heaps, d__law_heaps, a__law_heaps, F__law_heaps⟩ := f__law_heaps
  obtain ⟨f__law_pieces, d__law_pieces, a__law_pieces, F__law_pieces⟩ := f__law_pieces
  obtain ⟨f__law_random_line, d__law_random_line, a__law_random_line, F__law_random_line⟩ := f__law_random_line
  obtain ⟨f__law_same, d__law_same, a__law_same, F__law_same⟩ := f__law_same
  obtain ⟨f_look_many, d_look_many, a_look_many, F_look_many⟩ := f_look_many
  obtain ⟨f_inner, d_inner, a_inner, F_inner⟩ := f_inner
  obtain ⟨f_dips, d_dips, a_dips, F_dips⟩ := f_dips
  obtain ⟨f_tops, d_tops, a_tops, F_tops⟩ := f_tops
  obtain ⟨f_wrong_changes, d_wrong_changes, a_wrong_changes, F_wrong_changes⟩ := f_wrong_changes
  obtain ⟨f_wrong_orders, d_wrong_orders, a_wrong_orders, F_wrong_orders⟩ := f_wrong_orders
  obtain ⟨f_runs, d_runs, a_runs, F_runs⟩ := f_runs
  obtain ⟨f_stayed, d_stayed, a_stayed, F_stayed⟩ := f_stayed
  obtain ⟨f_wrong_runs, d_wrong_runs, a_wrong_runs, F_wrong_runs⟩ := f_wrong_runs
  obtain ⟨f_bar, d_bar, a_bar, F_bar⟩ := f_bar
  obtain ⟨f_look_leads, d_look_leads, a_look_leads, F_look_leads⟩ := f_look_leads
  obtain ⟨f_changed, d_changed, a_changed, F_changed⟩ := f_changed
  obtain ⟨f_distance, d_distance, a_distance, F_distance⟩ := f_distance
  obtain ⟨f_next_calls, d_next_calls, a_next_calls, F_next_calls⟩ := f_next_calls
  obtain ⟨f_open_parts, d_open_parts, a_open_parts, F_open_parts⟩ := f_open_parts
  obtain ⟨f_firsts, d_firsts, a_firsts, F_firsts⟩ := f_firsts
  obtain ⟨f_parts, d_parts, a_parts, F_parts⟩ := f_parts
  obtain ⟨f__law_right, d__law_right, a__law_right, F__law_right⟩ := f__law_right
  obtain ⟨f_law, d_law, a_law, F_law⟩ := f_law
  have e := hfa.symm.trans (PySem.W.mg_of X G a_law)
  cases e
  let T : Tx K mg := {
    a__law_box := f__law_box, d__law_box := d__law_box, F__law_box := F__law_box, m__law_box := PySem.W.mg_of X G a__law_box, b__law_box := (F__law_box.binds fun _ _ _ _ _ _ us hl => match us, hl with | [_, _], _ => rfl),
    a__law_cells := f__law_cells, d__law_cells := d__law_cells, F__law_cells := F__law_cells, m__law_cells := PySem.W.mg_of X G a__law_cells, b__law_cells := (F__law_cells.binds fun _ _ _ _ _ _ us hl => match us, hl with | [_, _], _ => rfl),
    a__law_firsts := f__law_firsts, d__law_firsts := d__law_firsts, F__law_firsts := F__law_firsts, m__law_firsts := PySem.W.mg_of X G a__law_firsts, b__law_firsts := (F__law_firsts.binds fun _ _ _ _ _ _ us hl => match us, hl with | [_, _], _ => rfl),
    a__law_mid := f__law_mid, d__law_mid := d__law_mid, F__law_mid := F__law_mid, m__law_mid := PySem.W.mg_of X G a__law_mid, b__law_mid := (F__law_mid.binds fun _ _ _ _ _ _ us hl => match us, hl with | [_, _], _ => rfl),
    a__law_call := f__law_call, d__law_call := d__law_call, F__law_call := F__law_call, m__law_call := PySem.W.mg_of X G a__law_call, b__law_call := (F__law_call.binds fun _ _ _ _ _ _ us hl => match us, hl with | [_, _], _ => rfl),
    a__law_take := f__law_take, d__law_take := d__law_take, F__law_take := F__law_take, m__law_take := PySem.W.mg_of X G a__law_take, b__law_take := (F__law_take.binds fun _ _ _ _ _ _ us hl => match us, hl with | [_, _], _ => rfl),
    a__law_strewn := f__law_strewn, d__law_strewn := d__law_strewn, F__law_strewn := F__law_strewn, m__law_strewn := PySem.W.mg_of X G a__law_strewn, b__law_strewn := (F__law_strewn.binds fun _ _ _ _ _ _ us hl => match us, hl with | [_, _], _ => rfl),
    a__law_stroll := f__law_stroll, d__law_stroll := d__law_stroll, F__law_stroll := F__law_stroll, m__law_stroll := PySem.W.mg_of X G a__law_stroll, b__law_stroll := (F__law_stroll.binds fun _ _ _ _ _ _ us hl => match us, hl with | [_, _, _], _ => rfl),
    a__law_led := f__law_led, d__law_led := d__law_led, F__law_led := F__law_led, m__law_led := PySem.W.mg_of X G a__law_led, b__law_led := (F__law_led.binds fun _ _ _ _ _ _ us hl => match us, hl with | [_, _, _], _ => rfl),
    a__law_of := f__law_of, d__law_of := d__law_of, F__law_of := F__law_of, m__law_of := PySem.W.mg_of X G a__law_of, b__law_of := (F__law_of.binds fun _ _ _ _ _ _ us hl => match us, hl with | [_, _], _ => rfl),
    a__law_heaps := f__law_heaps, d__law_heaps := d__law_heaps, F__law_heaps := F__law_heaps, m__law_heaps := PySem.W.mg_of X G a__law_heaps, b__law_heaps := (F__law_heaps.binds fun _ _ _ _ _ _ us hl => match us, hl with | [_], _ => rfl),
    a__law_pieces := f__law_pieces, d__law_pieces := d__law_pieces, F__law_pieces := F__law_pieces, m__law_pieces := PySem.W.mg_of X G a__law_pieces, b__law_pieces := (F__law_pieces.binds fun _ _ _ _ _ _ us hl => match us, hl with | [_, _], _ => rfl),
    a__law_random_line := f__law_random_line, d__law_random_line := d__law_random_line, F__law_random_line := F__law_random_line, m__law_random_line := PySem.W.mg_of X G a__law_random_line, b__law_random_line := (F__law_random_line.binds fun _ _ _ _ _ _ us hl => match us, hl with | [_, _, _], _ => rfl),
    a__law_same := f__law_same, d__law_same := d__law_same, F__law_same := F__law_same, m__law_same := PySem.W.mg_of X G a__law_same, b__law_same := (F__law_same.binds fun _ _ _ _ _ _ us hl => match us, hl with | [_, _], _ => rfl),
    a_look_many := f_look_many, d_look_many := d_look_many, F_look_many := F_look_many, m_look_many := PySem.W.mg_of X G a_look_many, b_look_many := (F_look_many.binds fun _ _ _ _ _ _ us hl => match us, hl with | [_, _], _ => rfl),
    a_inner := f_inner, d_inner := d_inner, F_inner := F_inner, m_inner := PySem.W.mg_of X G a_inner, b_inner := (F_inner.binds fun _ _ _ _ _ _ us hl => match us, hl with | [_], _ => rfl),
    a_dips := f_dips, d_dips := d_dips, F_dips := F_dips, m_dips := PySem.W.mg_of X G a_dips, b_dips := (F_dips.binds fun _ _ _ _ _ _ us hl => match us, hl with | [_], _ => rfl),
    a_tops := f_tops, d_tops := d_tops, F_tops := F_tops, m_tops := PySem.W.mg_of X G a_tops, b_tops := (F_tops.binds fun _ _ _ _ _ _ us hl => match us, hl with | [_], _ => rfl),
    a_wrong_changes := f_wrong_changes, d_wrong_changes := d_wrong_changes, F_wrong_changes := F_wrong_changes, m_wrong_changes := PySem.W.mg_of X G a_wrong_changes, b_wrong_changes := (F_wrong_changes.binds fun _ _ _ _ _ _ us hl => match us, hl with | [_, _], _ => rfl),
    a_wrong_orders := f_wrong_orders, d_wrong_orders := d_wrong_orders, F_wrong_orders := F_wrong_orders, m_wrong_orders := PySem.W.mg_of X G a_wrong_orders, b_wrong_orders := (F_wrong_orders.binds fun _ _ _ _ _ _ us hl => match us, hl with | [_, _], _ => rfl),
    a_runs := f_runs, d_runs := d_runs, F_runs := F_runs, m_runs := PySem.W.mg_of X G a_runs, b_runs := (F_runs.binds fun _ _ _ _ _ _ us hl => match us, hl with | [_], _ => rfl),
    a_stayed := f_stayed, d_stayed := d_stayed, F_stayed := F_stayed, m_stayed := PySem.W.mg_of X G a_stayed, b_stayed := (F_stayed.binds fun _ _ _ _ _ _ us hl => match us, hl with | [_, _, _, _], _ => rfl),
    a_wrong_runs := f_wrong_runs, d_wrong_runs := d_wrong_runs, F_wrong_runs := F_wrong_runs, m_wrong_runs := PySem.W.mg_of X G a_wrong_runs, b_wrong_runs := (F_wrong_runs.binds fun _ _ _ _ _ _ us hl => match us, hl with | [_, _], _ => rfl),
    a_bar := f_bar, d_bar := d_bar, F_bar := F_bar, m_bar := PySem.W.mg_of X G a_bar, b_bar := (F_bar.binds fun _ _ _ _ _ _ us hl => match us, hl with | [_, _], _ => rfl),
    a_look_leads := f_look_leads, d_look_leads := d_look_leads, F_look_leads := F_look_leads, m_look_leads := PySem.W.mg_of X G a_look_leads, b_look_leads := (F_look_leads.binds fun _ _ _ _ _ _ us hl => match us, hl with | [_, _], _ => rfl),
    a_changed := f_changed, d_changed := d_changed, F_changed := F_changed, m_changed := PySem.W.mg_of X G a_changed, b_changed := (F_changed.binds fun _ _ _ _ _ _ us hl => match us, hl with | [_, _], _ => rfl),
    a_distance := f_distance, d_distance := d_distance, F_distance := F_distance, m_distance := PySem.W.mg_of X G a_distance, b_distance := (F_distance.binds fun _ _ _ _ _ _ us hl => match us, hl with | [_, _], _ => rfl),
    a_next_calls := f_next_calls, d_next_calls := d_next_calls, F_next_calls := F_next_calls, m_next_calls := PySem.W.mg_of X G a_next_calls, b_next_calls := (F_next_calls.binds fun _ _ _ _ _ _ us hl => match us, hl with | [_], _ => rfl),
    a_open_parts := f_open_parts, d_open_parts := d_open_parts, F_open_parts := F_open_parts, m_open_parts := PySem.W.mg_of X G a_open_parts, b_open_parts := (F_open_parts.binds fun _ _ _ _ _ _ us hl => match us, hl with | [_, _], _ => rfl),
    a_firsts := f_firsts, d_firsts := d_firsts, F_firsts := F_firsts, m_firsts := PySem.W.mg_of X G a_firsts, b_firsts := (F_firsts.binds fun _ _ _ _ _ _ us hl => match us, hl with | [_, _], _ => rfl),
    a_parts := f_parts, d_parts := d_parts, F_parts := F_parts, m_parts := PySem.W.mg_of X G a_parts, b_parts := (F_parts.binds fun _ _ _ _ _ _ us hl => match us, hl with | [_, _], _ => rfl),
    a__law_right := f__law_right, d__law_right := d__law_right, F__law_right := F__law_right, m__law_right := PySem.W.mg_of X G a__law_right, b__law_right := (F__law_right.binds fun _ _ _ _ _ _ us hl => match us, hl with | [_], _ => rfl),
    a_law := fa, d_law := d_law, F_law := F_law, m_law := PySem.W.mg_of X G a_law, b_law := (F_law.binds fun _ _ _ _ _ _ us hl => match us, hl with | [_], _ => rfl),
    k_parts_other_one := (kwB_of F_parts perm_1_0_rel fun _ _ _ _ _ _ ws hl => match ws, hl with | [_, _], _ => rfl),
    k_distance_other_one := (kwB_of F_distance perm_1_0_rel fun _ _ _ _ _ _ ws hl => match ws, hl with | [_, _], _ => rfl),
    k_changed_other_one := (kwB_of F_changed perm_1_0_rel fun _ _ _ _ _ _ ws hl => match ws, hl with | [_, _], _ => rfl),
    k_firsts_other_one := (kwB_of F_firsts perm_1_0_rel fun _ _ _ _ _ _ ws hl => match ws, hl with | [_, _], _ => rfl),
    n_len := PySem.W.mg_none_of X G z_len,
    n_abs := PySem.W.mg_none_of X G z_abs,
    n_int := PySem.W.mg_none_of X G z_int,
    n_list := PySem.W.mg_none_of X G z_list,
    n_enumerate := PySem.W.mg_none_of X G z_enumerate,
    n_range := PySem.W.mg_none_of X G z_range,
    n_sorted := PySem.W.mg_none_of X G z_sorted,
    n_tuple := PySem.W.mg_none_of X G z_tuple,
    n_max := PySem.W.mg_none_of X G z_max,
    n_isinstance := PySem.W.mg_none_of X G z_isinstance,
    n_zip := PySem.W.mg_none_of X G z_zip,
    n_all := PySem.W.mg_none_of X G z_all,
    n_bool := PySem.W.mg_none_of X G z_bool,
    n_str := PySem.W.mg_none_of X G z_str,
    n_ValueError := PySem.W.mg_none_of X G z_ValueError,
    n_RuntimeError := PySem.W.mg_none_of X G z_RuntimeError,
    n_set := PySem.W.mg_none_of X G z_set,
    n_repr := PySem.W.mg_none_of X G z_repr,
    t_ORDER := u_ORDER, c_ORDER := PySem.W.mg_of X G w_ORDER,
    t_CHANGE := u_CHANGE, c_CHANGE := PySem.W.mg_of X G w_CHANGE,
    t_RUN := u_RUN, c_RUN := PySem.W.mg_of X G w_RUN,
    c_OtherPeople := C_OtherPeople, cc_OtherPeople := aC_OtherPeople, m_OtherPeople := PySem.W.mg_of X G aC_OtherPeople,
    c_Barred := C_Barred, cc_Barred := aC_Barred, m_Barred := PySem.W.mg_of X G aC_Barred,
    oc_OtherPeople := ⟨⟨_, _, _, _, _, _, _, _, _, _, _, _, _, _, xL_OtherPeople⟩, sa_OtherPeople, ex_OtherPeople, ty_OtherPeople, kp_OtherPeople⟩, no_OtherPeople := no_OtherPeople, fi_OtherPeople := f_iOtherPeople, fd_OtherPeople := _, Fi_OtherPeople := fun_mk (st := si_OtherPeople) li_OtherPeople ci_OtherPeople ki_OtherPeople, iC_OtherPeople := iC_OtherPeople, ti_OtherPeople := ti_OtherPeople, bi_OtherPeople := ((fun_mk (st := si_OtherPeople) li_OtherPeople ci_OtherPeople ki_OtherPeople).binds fun _ _ _ _ _ _ us hl => match us, hl with | [_, _], _ => rfl),
    oc_Barred := ⟨⟨_, _, _, _, _, _, _, _, _, _, _, _, _, _, xL_Barred⟩, sa_Barred, ex_Barred, ty_Barred, kp_Barred⟩, no_Barred := no_Barred, fi_Barred := f_iBarred, fd_Barred := _, Fi_Barred := fun_mk (st := si_Barred) li_Barred ci_Barred ki_Barred, iC_Barred := iC_Barred, ti_Barred := ti_Barred, bi_Barred := ((fun_mk (st := si_Barred) li_Barred ci_Barred ki_Barred).binds fun _ _ _ _ _ _ us hl => match us, hl with | [_, _], _ => rfl),
    vB_ValueError := vB_ValueError,
    vB_RuntimeError := vB_RuntimeError,
    et := et }
  obtain ⟨oc, od, kV, doc, pm, an, cdv, ct, osl, ed, lk, hcd⟩ := F_law.ex
  refine ⟨d_law, fun s v => ?_, fun base _ _ => ok_law T⟩
  subst ed
  exact .of_eq rfl
end W
open PySem PySem.W PyProof.Rows
set_option maxHeartbeats 0 in
theorem PySem.Challenge.cw_middlecall_k05_changed_people_and_parts_holds : PySem.Challenge.rw_middlecall_k05_changed_people_and_parts.Holds := by
  w_on; o_law; k_head; (case hw => w_witness2)
  k_fill
  refine DL.walk_G (l := PySem.Challenge.rw_middlecall_k05_changed_people_and_parts) (n := 63) (k := 12) (x := "_law_script") (sp := fun w => DL.spP _ 1 W.F_law) rfl (by decide) rfl ⟨rfl, by decide, by decide⟩ (fun w h Y => PySem.W.kIn_of Y) ?F (fun _ H a ns hl _ hS => ⟨rfl, H, _, _, L2.Same.refl H, DL.RpA.cons (DL.Rp.scr hS (DL.RpA.ints ns)) DL.RpA.nil, W.law_true ns hl, fun v H1 Z1 _ _ r => by cases r; rfl⟩)
  case F =>
    intro w mg fa h KX G hmg
    refine' W.all_mk KX G hmg (W.ff_mk ?a0 ?l0 ?c0 ?k0) (W.ff_mk ?a1 ?l1 ?c1 ?k1) (W.ff_mk ?a2 ?l2 ?c2 ?k2) (W.ff_mk ?a3 ?l3 ?c3 ?k3) (W.ff_mk ?a4 ?l4 ?c4 ?k4) (W.ff_mk ?a5 ?l5 ?c5 ?k5) (W.ff_mk ?a6 ?l6 ?c6 ?k6) (W.ff_mk ?a7 ?l7 ?c7 ?k7) (W.ff_mk ?a8 ?l8 ?c8 ?k8) (W.ff_mk ?a9 ?l9 ?c9 ?k9) (W.ff_mk ?a10 ?l10 ?c10 ?k10) (W.ff_mk ?a11 ?l11 ?c11 ?k11) (W.ff_mk ?a12 ?l12 ?c12 ?k12) (W.ff_mk ?a13 ?l13 ?c13 ?k13) (W.ff_mk ?a14 ?l14 ?c14 ?k14) (W.ff_mk ?a15 ?l15 ?c15 ?k15) (W.ff_mk ?a16 ?l16 ?c16 ?k16) (W.ff_mk ?a17 ?l17 ?c17 ?k17) (W.ff_mk ?a18 ?l18 ?c18 ?k18) (W.ff_mk ?a19 ?l19 ?c19 ?k19) (W.ff_mk ?a20 ?l20 ?c20 ?k20) (W.ff_mk ?a21 ?l21 ?c21 ?k21) (W.ff_mk ?a22 ?l22 ?c22 ?k22) (W.ff_mk ?a23 ?l23 ?c23 ?k23) (W.ff_mk ?a24 ?l24 ?c24 ?k24) (W.ff_mk ?a25 ?l25 ?c25 ?k25) (W.ff_mk ?a26 ?l26 ?c26 ?k26) (W.ff_mk ?a27 ?l27 ?c27 ?k27) (W.ff_mk ?a28 ?l28 ?c28 ?k28) (W.ff_mk ?a29 ?l29 ?c29 ?k29) (W.ff_mk ?a30 ?l30 ?c30 ?k30) (W.ff_mk ?a31 ?l31 ?c31 ?k31) (W.ff_mk ?a32 ?l32 ?c32 ?k32) ?z0 ?z1 ?z2 ?z3 ?z4 ?z5 ?z6 ?z7 ?z8 ?z9 ?z10 ?z11 ?z12 ?z13 ?z14 ?z15 ?z16 ?z17 ?w0 ?w1 ?w2 ?aC_OtherPeople ?aC_Barred ?xL_OtherPeople ?sa_OtherPeople ?ex_OtherPeople ?ty_OtherPeople ?kp_OtherPeople ?no_OtherPeople ?iC_OtherPeople ?ti_OtherPeople ?li_OtherPeople ?ci_OtherPeople ?ki_OtherPeople ?xL_Barred ?sa_Barred ?ex_Barred ?ty_Barred ?kp_Barred ?no_Barred ?iC_Barred ?ti_Barred ?li_Barred ?ci_Barred ?ki_Barred ?vB_ValueError ?vB_RuntimeError ?et
    (case a0 => k_is); (case l0 => k_is); (case c0 => k_is); (case k0 => k_is); (case a1 => k_is); (case l1 => k_is); (case c1 => k_is); (case k1 => k_is); (case a2 => k_is); (case l2 => k_is); (case c2 => k_is); (case k2 => k_is); (case a3 => k_is); (case l3 => k_is); (case c3 => k_is); (case k3 => k_is); (case a4 => k_is); (case l4 => k_is); (case c4 => k_is); (case k4 => k_is); (case a5 => k_is); (case l5 => k_is); (case c5 => k_is); (case k5 => k_is); (case a6 => k_is); (case l6 => k_is); (case c6 => k_is); (case k6 => k_is); (case a7 => k_is); (case l7 => k_is); (case c7 => k_is); (case k7 => k_is); (case a8 => k_is); (case l8 => k_is); (case c8 => k_is); (case k8 => k_is); (case a9 => k_is); (case l9 => k_is); (case c9 => k_is); (case k9 => k_is); (case a10 => k_is); (case l10 => k_is); (case c10 => k_is); (case k10 => k_is); (case a11 => k_is); (case l11 => k_is); (case c11 => k_is); (case k11 => k_is); (case a12 => k_is); (case l12 => k_is); (case c12 => k_is); (case k12 => k_is); (case a13 => k_is); (case l13 => k_is); (case c13 => k_is); (case k13 => k_is); (case a14 => k_is); (case l14 => k_is); (case c14 => k_is); (case k14 => k_is); (case a15 => k_is); (case l15 => k_is); (case c15 => k_is); (case k15 => k_is); (case a16 => k_is); (case l16 => k_is); (case c16 => k_is); (case k16 => k_is); (case a17 => k_is); (case l17 => k_is); (case c17 => k_is); (case k17 => k_is); (case a18 => k_is); (case l18 => k_is); (case c18 => k_is); (case k18 => k_is); (case a19 => k_is); (case l19 => k_is); (case c19 => k_is); (case k19 => k_is); (case a20 => k_is); (case l20 => k_is); (case c20 => k_is); (case k20 => k_is); (case a21 => k_is); (case l21 => k_is); (case c21 => k_is); (case k21 => k_is); (case a22 => k_is); (case l22 => k_is); (case c22 => k_is); (case k22 => k_is); (case a23 => k_is); (case l23 => k_is); (case c23 => k_is); (case k23 => k_is); (case a24 => k_is); (case l24 => k_is); (case c24 => k_is); (case k24 => k_is); (case a25 => k_is); (case l25 => k_is); (case c25 => k_is); (case k25 => k_is); (case a26 => k_is); (case l26 => k_is); (case c26 => k_is); (case k26 => k_is); (case a27 => k_is); (case l27 => k_is); (case c27 => k_is); (case k27 => k_is); (case a28 => k_is); (case l28 => k_is); (case c28 => k_is); (case k28 => k_is); (case a29 => k_is); (case l29 => k_is); (case c29 => k_is); (case k29 => k_is); (case a30 => k_is); (case l30 => k_is); (case c30 => k_is); (case k30 => k_is); (case a31 => k_is); (case l31 => k_is); (case c31 => k_is); (case k31 => k_is); (case a32 => k_is); (case l32 => k_is); (case c32 => k_is); (case k32 => k_is)
    (case z0 => k_is); (case z1 => k_is); (case z2 => k_is); (case z3 => k_is); (case z4 => k_is); (case z5 => k_is); (case z6 => k_is); (case z7 => k_is); (case z8 => k_is); (case z9 => k_is); (case z10 => k_is); (case z11 => k_is); (case z12 => k_is); (case z13 => k_is); (case z14 => k_is); (case z15 => k_is); (case z16 => k_is); (case z17 => k_is)
    (case w0 => k_is); (case w1 => k_is); (case w2 => k_is)
    (case aC_OtherPeople => first | k_is | rfl)
    (case aC_Barred => first | k_is | rfl)
    (case xL_OtherPeople => first | k_is | rfl)
    (case sa_OtherPeople => first | k_is | rfl)
    (case ex_OtherPeople => first | k_is | rfl)
    (case ty_OtherPeople => first | k_is | rfl)
    (case kp_OtherPeople => first | k_is | rfl)
    (case no_OtherPeople => first | k_is | rfl)
    (case iC_OtherPeople => first | k_is | rfl)
    (case ti_OtherPeople => first | k_is | rfl)
    (case li_OtherPeople => first | k_is | rfl)
    (case ci_OtherPeople => first | k_is | rfl)
    (case ki_OtherPeople => first | k_is | rfl)
    (case xL_Barred => first | k_is | rfl)
    (case sa_Barred => first | k_is | rfl)
    (case ex_Barred => first | k_is | rfl)
    (case ty_Barred => first | k_is | rfl)
    (case kp_Barred => first | k_is | rfl)
    (case no_Barred => first | k_is | rfl)
    (case iC_Barred => first | k_is | rfl)
    (case ti_Barred => first | k_is | rfl)
    (case li_Barred => first | k_is | rfl)
    (case ci_Barred => first | k_is | rfl)
    (case ki_Barred => first | k_is | rfl)
    (case vB_ValueError => first | k_is | rfl)
    (case vB_RuntimeError => first | k_is | rfl)
    (case et => first | kernel_rfl | rfl | k_is)

