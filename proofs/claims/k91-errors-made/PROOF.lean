import PyProof.Rows.All
import Wide.All
import OpenK.AllK
import Wide.FinOn
import HandS.ForMost
import HandS.Walk
import HandS.Zip
import HandS.Exc
import HandS.ExcInit
import HandS.TupAny
import HandS.TupMul
import HandS.Wide
import HandS.IsInst
import HandS.Style
import HandS.SortInts
import HandS.Conv
import KE.GoesNew
import HandS.Defaults
import HandS.ExcOwn
import HandS.ExcIs
import HandS.ExcField
import HandS.WordsExc
import KE.KExcInit
import KE.KExcIs
import KE.KTryMore
import HandS.ExcValue
import HandS.CallSlots
import HandS.RaiseMore
import PySem.Challenge.RW_middlecall_k91_errors_made
set_option Elab.async false
set_option linter.all false
set_option maxRecDepth 100000
set_option maxHeartbeats 4000000
/-! DL: a layer of plain data over the hand layer. Rp: a value stands for data within the frozen heap Z; St: the slots stand for an environment. -/
namespace DL
open PySem L2
abbrev D := PyData
/-- at a: an exception of the class at C with its dict at d -/
def exk (a C d : Addr) : HO := .ext fun h => ∃ (oe : Obj) (vs : Array Value), h.get? a = some oe ∧ Zc (.ref C) (some d) oe ∧ oe.data = .fields vs
/-- the class that a module's name holds -/
def Cls (K : PySem.W.Frag) (c : Str) (C : Addr) : Prop := PySem.W.nsIn K mainGlobals c = some (some (.ref C))
/-- the one field of each error class -/
def fldT : List (Str × Str) := [("NoPerson", "person"), ("NoPlace", "place"), ("NoNumber", "number"), ("NoDeed", "many"), ("OtherPeople", "many"), ("NotWay", "calls"), ("BadDeed", "at"), ("BadText", "text"), ("BadLine", "at"), ("Barred", "reason"), ("TooMany", "many"), ("Full", "many")]
def fld (c : Str) : Str := (fldT.lookup c).getD ""
/-- an exception as data: its class, its field -/
abbrev excD (c : Str) (d : D) : D := .dict [(.none, .str c), (.none, d)]
mutual
/-- v stands for the data, by what the (frozen) heap Z tells -/
inductive Rp (K : PySem.W.Frag) (Z : Hp) : V → D → Prop
  | non : Rp K Z .non .none
  | bl (b : Bool) : Rp K Z (.bl b) (.bool b)
  | int (i : Int) : Rp K Z (.int i) (.int i)
  | str (x : Str) : Rp K Z (.str x) (.str x)
  | lst {a : Addr} {xs : List V} {ds : List D} : Z a = some (.lst xs) → RpA K Z xs ds → Rp K Z (.ref a) (.list ds)
  | scr {a : Addr} {xs : List V} {ds : List D} : SqL K Z a xs → RpA K Z xs ds → Rp K Z (.ref a) (.dict [(.list ds, .none)])
  | tup {a : Addr} {xs : List V} {ds : List D} : SqT K Z a xs → RpA K Z xs ds → Rp K Z (.ref a) (.tuple ds)
  | exc {a C dx : Addr} {c : Str} {v : V} {d : D} : Z a = some (exk a C dx) → Z dx = some (.xd [(fld c, v)]) → Cls K c C → Rp K Z v d → Rp K Z (.ref a) (.dict [(.none, .str c), (.none, d)])
inductive RpA (K : PySem.W.Frag) (Z : Hp) : List V → List D → Prop
  | nil : RpA K Z [] []
  | cons {v : V} {vs : List V} {d : D} {ds : List D} : Rp K Z v d → RpA K Z vs ds → RpA K Z (v :: vs) (d :: ds)
end
section
variable {K : PySem.W.Frag} {Z Z' H H' : Hp}
theorem same_rd {a : Addr} {u : HO} (e : Same Z Z') (h : Rd Z a u) : Rd Z' a u := by
  rcases h with h | ⟨o, h⟩
  · exact .inl (e _ _ h)
  · exact .inr ⟨o, e _ _ h⟩
theorem same_t {a : Addr} {xs : List V} (e : Same Z Z') (h : SqT K Z a xs) : SqT K Z' a xs := by
  rcases h with h | h
  · exact .inl (same_rd e h)
  · exact .inr h
theorem same_l {a : Addr} {xs : List V} (e : Same Z Z') (h : SqL K Z a xs) : SqL K Z' a xs := e.seq h
mutual
theorem Rp.mono (e : Same Z Z') : ∀ {v : V} {d : D}, Rp K Z v d → Rp K Z' v d
  | _, _, .non => .non
  | _, _, .bl b => .bl b
  | _, _, .int i => .int i
  | _, _, .str x => .str x
  | _, _, .lst h r => .lst (e _ _ h) (RpA.mono e r)
  | _, _, .scr h r => .scr (same_l e h) (RpA.mono e r)
  | _, _, .tup h r => .tup (same_t e h) (RpA.mono e r)
  | _, _, .exc h1 h2 h3 r => .exc (e _ _ h1) (e _ _ h2) h3 (Rp.mono e r)
theorem RpA.mono (e : Same Z Z') : ∀ {vs : List V} {ds : List D}, RpA K Z vs ds → RpA K Z' vs ds
  | _, _, .nil => .nil
  | _, _, .cons h r => .cons (Rp.mono e h) (RpA.mono e r)
end
mutual
def noD : D → Bool
  | .none => true
  | .bool _ => true
  | .int _ => true
  | .str _ => true
  | .list xs => noDs xs
  | .tuple xs => noDs xs
  | .dict _ => false
def noDs : List D → Bool
  | [] => true
  | x :: xs => noD x && noDs xs
end
mutual
theorem Rp.dp : ∀ {v : V} {d : D}, Rp K Z v d → noD d = true → Dp K Z v d
  | _, _, .non, _ => .non
  | _, _, .bl b, _ => .bl b
  | _, _, .int i, _ => .int i
  | _, _, .str x, _ => .str x
  | _, _, .lst h r, n => .lst (.inl (.inl h)) (RpA.dp r (by unfold noD at n; exact n))
  | _, _, .tup h r, n => .tup h (RpA.dp r (by unfold noD at n; exact n))
  | _, _, .scr h r, n => by unfold noD at n; cases n
  | _, _, .exc h1 h2 h3 r, n => by unfold noD at n; cases n
theorem RpA.dp : ∀ {vs : List V} {ds : List D}, RpA K Z vs ds → noDs ds = true → DpAll K Z vs ds
  | _, _, .nil, _ => .nil
  | _, _, .cons h r, n => by
    unfold noDs at n
    rw [Bool.and_eq_true] at n
    exact .cons (Rp.dp h n.1) (RpA.dp r n.2)
end
theorem RpA.length : ∀ {vs : List V} {ds : List D}, RpA K Z vs ds → vs.length = ds.length
  | _, _, .nil => rfl
  | _, _, .cons _ r => by rw [List.length_cons, List.length_cons, RpA.length r]
theorem RpA.get : ∀ {vs : List V} {ds : List D} {i : Nat} {d : D}, RpA K Z vs ds → ds[i]? = some d → ∃ v, vs[i]? = some v ∧ Rp K Z v d
  | _, _, _, _, .nil, h => by simp at h
  | _, _, 0, _, .cons (v := v) q _, h => ⟨v, rfl, by simp at h; subst h; exact q⟩
  | _, _, i + 1, _, .cons _ r, h => by
    obtain ⟨v, e, q⟩ := RpA.get (i := i) r (by simpa using h)
    exact ⟨v, by simpa using e, q⟩
theorem RpA.getV : ∀ {vs : List V} {ds : List D} {i : Nat} {v : V}, RpA K Z vs ds → vs[i]? = some v → ∃ d, ds[i]? = some d ∧ Rp K Z v d
  | _, _, _, _, .nil, h => by simp at h
  | _, _, 0, _, .cons (d := d) q _, h => ⟨d, rfl, by simp at h; subst h; exact q⟩
  | _, _, i + 1, _, .cons _ r, h => by
    obtain ⟨v, e, q⟩ := RpA.getV (i := i) r (by simpa using h)
    exact ⟨v, by simpa using e, q⟩
theorem RpA.append : ∀ {vs us : List V} {ds es : List D}, RpA K Z vs ds → RpA K Z us es → RpA K Z (vs ++ us) (ds ++ es)
  | _, _, _, _, .nil, s => s
  | _, _, _, _, .cons h r, s => .cons h (RpA.append r s)
theorem RpA.one {v : V} {d : D} (h : Rp K Z v d) : RpA K Z [v] [d] := .cons h .nil
theorem RpA.take : ∀ {vs : List V} {ds : List D} (n : Nat), RpA K Z vs ds → RpA K Z (vs.take n) (ds.take n)
  | _, _, 0, _ => .nil
  | _, _, _ + 1, .nil => .nil
  | _, _, n + 1, .cons h r => .cons h (RpA.take n r)
theorem RpA.drop : ∀ {vs : List V} {ds : List D} (n : Nat), RpA K Z vs ds → RpA K Z (vs.drop n) (ds.drop n)
  | _, _, 0, r => r
  | _, _, _ + 1, .nil => .nil
  | _, _, n + 1, .cons _ r => RpA.drop n r
theorem RpA.set {v : V} {d : D} (q : Rp K Z v d) : ∀ {vs : List V} {ds : List D} (n : Nat), RpA K Z vs ds → RpA K Z (vs.set n v) (ds.set n d)
  | _, _, _, .nil => .nil
  | _, _, 0, .cons _ r => .cons q r
  | _, _, n + 1, .cons h r => .cons h (RpA.set q n r)
theorem RpA.reverse : ∀ {vs : List V} {ds : List D}, RpA K Z vs ds → RpA K Z vs.reverse ds.reverse
  | _, _, .nil => .nil
  | _, _, .cons h r => by
    rw [List.reverse_cons, List.reverse_cons]
    exact (RpA.reverse r).append (.one h)
theorem RpA.ints : ∀ (ns : List Int), RpA K Z (ns.map V.int) (ns.map PyData.int)
  | [] => .nil
  | n :: r => .cons (.int n) (RpA.ints r)
theorem RpA.of_ints : ∀ {vs : List V} {ns : List Int}, RpA K Z vs (ns.map PyData.int) → vs = ns.map V.int
  | _, [], .nil => rfl
  | _, n :: r, .cons h t => by
    cases h
    rw [List.map_cons, RpA.of_ints t]
theorem RpA.of_bools : ∀ {vs : List V} {ns : List Bool}, RpA K Z vs (ns.map PyData.bool) → vs = ns.map V.bl
  | _, [], .nil => rfl
  | _, n :: r, .cons h t => by
    cases h
    rw [List.map_cons, RpA.of_bools t]
theorem RpA.of_strs : ∀ {vs : List V} {ns : List Str}, RpA K Z vs (ns.map PyData.str) → vs = ns.map V.str
  | _, [], .nil => rfl
  | _, n :: r, .cons h t => by
    cases h
    rw [List.map_cons, RpA.of_strs t]
theorem RpA.strs : ∀ (ns : List Str), RpA K Z (ns.map V.str) (ns.map PyData.str)
  | [] => .nil
  | n :: r => .cons (.str n) (RpA.strs r)
end

/-! ### environments -/
/-- a slot: nothing known, shared data, a list of one's own -/
inductive Sl where
  | no
  | sh (d : D)
  | ow (ds : List D)
abbrev Rho := List Sl
/-- B: what stood at the entry (and stays); Z0: what was frozen there; Z: what is frozen now -/
structure Ok (K : PySem.W.Frag) (b0 : Option Addr) (B Z0 Z H : Hp) (σ : L2.St) (ρ : Rho) : Prop where
  len : σ.length = ρ.length
  bh : Same B H
  zh : Same Z H
  zz : Same Z0 Z
  nb : ∀ p o, Z p = some o → Z0 p = some o ∨ B p = none
  sh : ∀ (i : Nat) (d : D), ρ[i]? = some (.sh d) → ∃ v, σ[i]? = some (some v) ∧ Rp K Z v d
  ow : ∀ (i : Nat) (ds : List D), ρ[i]? = some (.ow ds) → ∃ p vs, σ[i]? = some (some (.ref p)) ∧ Z p = none ∧ B p = none ∧ H p = some (.lst vs) ∧ RpA K Z vs ds
  fix : ∀ a, b0 = some a → ∀ ds, ρ[0]? = some (.ow ds) → σ[0]? = some (some (.ref a))
  sep : ∀ (i j : Nat) (p : Addr) (ds es : List D), ρ[i]? = some (.ow ds) → ρ[j]? = some (.ow es) → σ[i]? = some (some (.ref p)) → σ[j]? = some (some (.ref p)) → i = j
/-- p is none of the owned lists -/
def Apart (σ : L2.St) (ρ : Rho) (p : Addr) : Prop := ∀ (i : Nat) (ds : List D), ρ[i]? = some (.ow ds) → σ[i]? ≠ some (some (.ref p))
section
variable {K : PySem.W.Frag} {b0 : Option Addr} {B Z0 Z H : Hp} {σ : L2.St} {ρ : Rho} {p : Addr} {o : HO}
/-- a new object, frozen at once -/
theorem Ok.new (h : Ok K b0 B Z0 Z H σ ρ) (hp : H p = none) : Ok K b0 B Z0 (upd Z p o) (upd H p o) σ ρ ∧ Same Z (upd Z p o) := by
  have zp : Z p = none := h.zh.free hp
  have bp : B p = none := h.bh.free hp
  have sz : Same Z (upd Z p o) := fun b x e => by rw [upd_ne (ne_of_none e zp)]; exact e
  refine ⟨⟨h.len, fun b x e => ?_, fun b x e => ?_, h.zz.trans sz, fun b x e => ?_, fun i d e => ?_, fun i ds e => ?_, h.fix, h.sep⟩, sz⟩
  · rw [upd_ne (ne_of_none e bp)]; exact h.bh b x e
  · by_cases hb : b = p
    · subst hb; rw [upd_same] at e ⊢; exact e
    · rw [upd_ne hb] at e ⊢; exact h.zh b x e
  · by_cases hb : b = p
    · subst hb; exact .inr bp
    · rw [upd_ne hb] at e; exact h.nb b x e
  · obtain ⟨v, e1, e2⟩ := h.sh i d e
    exact ⟨v, e1, e2.mono sz⟩
  · obtain ⟨q, vs, e1, e2, e3, e4, e5⟩ := h.ow i ds e
    have nq : q ≠ p := ne_of_none e4 hp
    exact ⟨q, vs, e1, by rw [upd_ne nq]; exact e2, e3, by rw [upd_ne nq]; exact e4, e5.mono sz⟩
/-- a new object, not frozen -/
theorem Ok.fresh (h : Ok K b0 B Z0 Z H σ ρ) (hp : H p = none) : Ok K b0 B Z0 Z (upd H p o) σ ρ ∧ Z p = none ∧ B p = none ∧ Apart σ ρ p := by
  have zp : Z p = none := h.zh.free hp
  have bp : B p = none := h.bh.free hp
  refine ⟨⟨h.len, fun b x e => ?_, fun b x e => ?_, h.zz, h.nb, h.sh, fun i ds e => ?_, h.fix, h.sep⟩, zp, bp, fun i ds e q => ?_⟩
  · rw [upd_ne (ne_of_none e bp)]; exact h.bh b x e
  · rw [upd_ne (ne_of_none e zp)]; exact h.zh b x e
  · obtain ⟨q, vs, e1, e2, e3, e4, e5⟩ := h.ow i ds e
    have nq : q ≠ p := ne_of_none e4 hp
    exact ⟨q, vs, e1, e2, e3, by rw [upd_ne nq]; exact e4, e5⟩
  · obtain ⟨q', vs, e1, e2, e3, e4, e5⟩ := h.ow i ds e
    rw [e1] at q
    cases q
    rw [hp] at e4
    cases e4
/-- an object that nobody else knows is frozen -/
theorem Ok.freeze (h : Ok K b0 B Z0 Z H σ ρ) (zp : Z p = none) (bp : B p = none) (ap : Apart σ ρ p) (hp : H p = some o) : Ok K b0 B Z0 (upd Z p o) H σ ρ ∧ Same Z (upd Z p o) := by
  have sz : Same Z (upd Z p o) := fun b x e => by rw [upd_ne (ne_of_none e zp)]; exact e
  refine ⟨⟨h.len, h.bh, fun b x e => ?_, h.zz.trans sz, fun b x e => ?_, fun i d e => ?_, fun i ds e => ?_, h.fix, h.sep⟩, sz⟩
  · by_cases hb : b = p
    · subst hb; rw [upd_same] at e; rw [← e]; exact hp
    · rw [upd_ne hb] at e; exact h.zh b x e
  · by_cases hb : b = p
    · subst hb; exact .inr bp
    · rw [upd_ne hb] at e; exact h.nb b x e
  · obtain ⟨v, e1, e2⟩ := h.sh i d e
    exact ⟨v, e1, e2.mono sz⟩
  · obtain ⟨q, vs, e1, e2, e3, e4, e5⟩ := h.ow i ds e
    have nq : q ≠ p := fun z => ap i ds e (by rw [e1, z])
    exact ⟨q, vs, e1, by rw [upd_ne nq]; exact e2, e3, e4, e5.mono sz⟩
/-- an object that nobody else knows changes -/
theorem Ok.write (h : Ok K b0 B Z0 Z H σ ρ) (zp : Z p = none) (bp : B p = none) (ap : Apart σ ρ p) : Ok K b0 B Z0 Z (upd H p o) σ ρ := by
  refine ⟨h.len, fun b x e => ?_, fun b x e => ?_, h.zz, h.nb, h.sh, fun i ds e => ?_, h.fix, h.sep⟩
  · rw [upd_ne (ne_of_none e bp)]; exact h.bh b x e
  · rw [upd_ne (ne_of_none e zp)]; exact h.zh b x e
  · obtain ⟨q, vs, e1, e2, e3, e4, e5⟩ := h.ow i ds e
    have nq : q ≠ p := fun z => ap i ds e (by rw [e1, z])
    exact ⟨q, vs, e1, e2, e3, by rw [upd_ne nq]; exact e4, e5⟩
theorem set_get {α : Type} {l : List α} {i j : Nat} {x y : α} (h : (l.set i x)[j]? = some y) : (i = j ∧ x = y) ∨ (i ≠ j ∧ l[j]? = some y) := by
  by_cases hij : i = j
  · subst hij
    by_cases hl : i < l.length
    · rw [List.getElem?_set_self hl] at h
      exact .inl ⟨rfl, Option.some.inj h⟩
    · rw [List.getElem?_eq_none (by simpa using hl)] at h
      cases h
  · rw [List.getElem?_set_ne hij] at h
    exact .inr ⟨hij, h⟩
/-- shared data goes into a slot -/
theorem Ok.put {i : Nat} {v : V} {d : D} (h : Ok K b0 B Z0 Z H σ ρ) (r : Rp K Z v d) : Ok K b0 B Z0 Z H (σ.set i (some v)) (ρ.set i (.sh d)) := by
  have hl := h.len
  refine ⟨by rw [List.length_set, List.length_set]; exact hl, h.bh, h.zh, h.zz, h.nb, fun j d' e => ?_, fun j ds e => ?_, fun a ha ds e => ?_, fun j k q ds es e1 e2 e3 e4 => ?_⟩
  · by_cases hij : i = j
    · subst hij
      have hi : i < ρ.length := by
        by_cases q : i < ρ.length
        · exact q
        · rw [List.getElem?_eq_none (by simpa using q)] at e; cases e
      rw [List.getElem?_set_self hi] at e
      cases e
      exact ⟨v, by rw [List.getElem?_set_self (by omega)], r⟩
    · rw [List.getElem?_set_ne hij] at e
      rw [List.getElem?_set_ne hij]
      exact h.sh j d' e
  · rcases set_get e with ⟨_, z⟩ | ⟨n, e⟩
    · cases z
    · rw [List.getElem?_set_ne n]
      exact h.ow j ds e
  · rcases set_get e with ⟨_, z⟩ | ⟨n, e⟩
    · cases z
    · rw [List.getElem?_set_ne n]
      exact h.fix a ha ds e
  · rcases set_get e1 with ⟨_, z⟩ | ⟨n1, e1⟩
    · cases z
    · rcases set_get e2 with ⟨_, z⟩ | ⟨n2, e2⟩
      · cases z
      · rw [List.getElem?_set_ne n1] at e3
        rw [List.getElem?_set_ne n2] at e4
        exact h.sep j k q ds es e1 e2 e3 e4
/-- an own list goes into a slot -/
theorem Ok.putO {i : Nat} {vs : List V} {ds : List D} (h : Ok K b0 B Z0 Z H σ ρ) (zp : Z p = none) (bp : B p = none) (ap : Apart σ ρ p) (hp : H p = some (.lst vs)) (r : RpA K Z vs ds) (hf : ∀ a, b0 = some a → i = 0 → p = a) :
    Ok K b0 B Z0 Z H (σ.set i (some (.ref p))) (ρ.set i (.ow ds)) := by
  have hl := h.len
  refine ⟨by rw [List.length_set, List.length_set]; exact hl, h.bh, h.zh, h.zz, h.nb, fun j d' e => ?_, fun j es e => ?_, fun a ha ds e => ?_, fun j k q as es e1 e2 e3 e4 => ?_⟩
  · rcases set_get e with ⟨_, z⟩ | ⟨n, e⟩
    · cases z
    · rw [List.getElem?_set_ne n]
      exact h.sh j d' e
  · by_cases hij : i = j
    · subst hij
      have hi : i < ρ.length := by
        by_cases q : i < ρ.length
        · exact q
        · rw [List.getElem?_eq_none (by simpa using q)] at e; cases e
      rw [List.getElem?_set_self hi] at e
      cases e
      exact ⟨p, vs, by rw [List.getElem?_set_self (by omega)], zp, bp, hp, r⟩
    · rw [List.getElem?_set_ne hij] at e
      rw [List.getElem?_set_ne hij]
      exact h.ow j es e
  · by_cases hi0 : i = 0
    · subst hi0
      have hl0 : 0 < ρ.length := by
        by_cases q : 0 < ρ.length
        · exact q
        · rw [List.getElem?_eq_none (by rw [List.length_set]; omega)] at e; cases e
      rw [hf a ha rfl, List.getElem?_set_self (by omega)]
    · rw [List.getElem?_set_ne hi0] at e
      rw [List.getElem?_set_ne hi0]
      exact h.fix a ha ds e
  · rcases set_get e1 with ⟨i1, _⟩ | ⟨n1, e1⟩
    · rcases set_get e2 with ⟨i2, _⟩ | ⟨n2, e2⟩
      · rw [← i1, ← i2]
      · rw [List.getElem?_set_ne n2] at e4
        rcases set_get e3 with ⟨_, z⟩ | ⟨n, _⟩
        · cases z; exact absurd e4 (ap k es e2)
        · exact absurd i1 n
    · rw [List.getElem?_set_ne n1] at e3
      rcases set_get e2 with ⟨i2, _⟩ | ⟨n2, e2⟩
      · rcases set_get e4 with ⟨_, z⟩ | ⟨n, _⟩
        · cases z; exact absurd e3 (ap j as e1)
        · exact absurd i2 n
      · rw [List.getElem?_set_ne n2] at e4
        exact h.sep j k q as es e1 e2 e3 e4
/-- forgetting slots -/
theorem Ok.weak {σ' : L2.St} {ρ' : Rho} (h : Ok K b0 B Z0 Z H σ ρ) (hl : σ'.length = ρ'.length) (hs : ∀ (i : Nat) (s : Sl), ρ'[i]? = some s → s = .no ∨ (ρ[i]? = some s ∧ σ'[i]? = σ[i]?)) : Ok K b0 B Z0 Z H σ' ρ' := by
  refine ⟨hl, h.bh, h.zh, h.zz, h.nb, fun j d e => ?_, fun j ds e => ?_, fun a ha ds e => ?_, fun j k q as es e1 e2 e3 e4 => ?_⟩
  · rcases hs j _ e with z | ⟨z, y⟩
    · cases z
    · rw [y]; exact h.sh j d z
  · rcases hs j _ e with z | ⟨z, y⟩
    · cases z
    · rw [y]; exact h.ow j ds z
  · rcases hs 0 _ e with z | ⟨z, y⟩
    · cases z
    · rw [y]; exact h.fix a ha ds z
  · rcases hs j _ e1 with z | ⟨z1, y1⟩
    · cases z
    · rcases hs k _ e2 with z | ⟨z2, y2⟩
      · cases z
      · rw [y1] at e3
        rw [y2] at e4
        exact h.sep j k q as es z1 z2 e3 e4
end
end DL

namespace DL
open PySem L2
/-- a result: a value and the environment behind it; an exception of a class by its name, with its one field; nothing that is told -/
inductive R (α : Type) where
  | ok (a : α) (ρ : Rho)
  | ex (c : Str) (d : D) (ρ : Rho)
  | bad
def R.bind {α β : Type} (r : R α) (f : α → Rho → R β) : R β := match r with
  | .ok a ρ => f a ρ
  | .ex c d ρ => .ex c d ρ
  | .bad => .bad
def R.map {α β : Type} (f : α → β) (r : R α) : R β := match r with
  | .ok a ρ => .ok (f a) ρ
  | .ex c d ρ => .ex c d ρ
  | .bad => .bad
def R.lift {α : Type} (x : Option α) (ρ : Rho) : R α := match x with
  | some a => .ok a ρ
  | none => .bad
theorem R.bind_ok {α β : Type} {r : R α} {f : α → Rho → R β} {b : β} {ρ' : Rho} (h : r.bind f = .ok b ρ') : ∃ a ρ1, r = .ok a ρ1 ∧ f a ρ1 = .ok b ρ' := by
  cases r with
  | ok a ρ1 => exact ⟨a, ρ1, rfl, h⟩
  | ex c d ρ1 => cases h
  | bad => cases h
theorem R.map_ok {α β : Type} {r : R α} {f : α → β} {b : β} {ρ' : Rho} (h : r.map f = .ok b ρ') : ∃ a, r = .ok a ρ' ∧ f a = b := by
  cases r with
  | ok a ρ1 => cases h; exact ⟨a, rfl, rfl⟩
  | ex c d ρ1 => cases h
  | bad => cases h
theorem R.lift_ok {α : Type} {x : Option α} {ρ ρ' : Rho} {a : α} (h : R.lift x ρ = .ok a ρ') : x = some a ∧ ρ = ρ' := by
  cases x with
  | some b => cases h; exact ⟨rfl, rfl⟩
  | none => cases h
@[simp] theorem R.ok_bind {α β : Type} (a : α) (ρ : Rho) (f : α → Rho → R β) : (R.ok a ρ).bind f = f a ρ := rfl
@[simp] theorem R.ok_map {α β : Type} (a : α) (ρ : Rho) (f : α → β) : (R.ok a ρ).map f = .ok (f a) ρ := rfl
@[simp] theorem R.lift_some {α : Type} (a : α) (ρ : Rho) : R.lift (some a) ρ = .ok a ρ := rfl
/-- an operand: data, or the list of one's own in a slot -/
inductive Op where
  | val (d : D)
  | own (i : Nat)
def Op.res (o : Op) (ρ : Rho) : Option D := match o with
  | .val d => some d
  | .own i => match ρ[i]? with
    | some (.ow ds) => some (.list ds)
    | _ => none
abbrev GE := Rho → R D
abbrev GO := Rho → R Op
abbrev GT := Rho → R Bool
abbrev GF := Rho → R (List D)
abbrev GA := Rho → R (List Op)
/-- v stands for data by H, its items by Z -/
inductive Bd (K : PySem.W.Frag) (Z H : Hp) : V → D → Prop
  | non : Bd K Z H .non .none
  | bl (b : Bool) : Bd K Z H (.bl b) (.bool b)
  | int (i : Int) : Bd K Z H (.int i) (.int i)
  | str (x : Str) : Bd K Z H (.str x) (.str x)
  | lst {a : Addr} {xs : List V} {ds : List D} : H a = some (.lst xs) → RpA K Z xs ds → Bd K Z H (.ref a) (.list ds)
  | scr {a : Addr} {xs : List V} {ds : List D} : SqL K H a xs → RpA K Z xs ds → Bd K Z H (.ref a) (.dict [(.list ds, .none)])
  | tup {a : Addr} {xs : List V} {ds : List D} : SqT K Z a xs → RpA K Z xs ds → Bd K Z H (.ref a) (.tuple ds)
  | exc {a C dx : Addr} {c : Str} {v : V} {d : D} : Z a = some (exk a C dx) → Z dx = some (.xd [(fld c, v)]) → Cls K c C → Rp K Z v d → Bd K Z H (.ref a) (.dict [(.none, .str c), (.none, d)])
inductive BdA (K : PySem.W.Frag) (Z H : Hp) : List V → List D → Prop
  | nil : BdA K Z H [] []
  | cons {v : V} {vs : List V} {d : D} {ds : List D} : Bd K Z H v d → BdA K Z H vs ds → BdA K Z H (v :: vs) (d :: ds)
def OpR' (K : PySem.W.Frag) (Z : Hp) (σ : L2.St) (v : V) : Op → Prop
  | .val d => Rp K Z v d
  | .own i => σ[i]? = some (some v)
section
variable {K : PySem.W.Frag} {b0 : Option Addr} {B Z0 Z Z' H : Hp} {σ : L2.St} {ρ : Rho} {v : V} {d : D}
theorem Rp.bd (r : Rp K Z v d) (e : Same Z H) : Bd K Z H v d := by
  cases r with
  | non => exact .non
  | bl b => exact .bl b
  | int i => exact .int i
  | str x => exact .str x
  | lst h r => exact .lst (e _ _ h) r
  | scr h r => exact .scr (same_l e h) r
  | tup h r => exact .tup h r
  | exc h1 h2 h3 r => exact .exc h1 h2 h3 r
theorem OpR'.mono (e : Same Z Z') {o : Op} (h : OpR' K Z σ v o) : OpR' K Z' σ v o := by
  cases o with
  | val d => exact Rp.mono e h
  | own i => exact h
theorem Ok.bd (h : Ok K b0 B Z0 Z H σ ρ) {o : Op} (ho : OpR' K Z σ v o) (e : o.res ρ = some d) : Bd K Z H v d := by
  cases o with
  | val d' => cases e; exact Rp.bd ho h.zh
  | own i =>
    unfold Op.res at e
    dsimp only at e
    split at e
    · rename_i ds hi
      cases e
      obtain ⟨p, vs, e1, e2, e3, e4, e5⟩ := h.ow i ds hi
      have e6 : σ[i]? = some (some v) := ho
      rw [e1] at e6
      cases e6
      exact .lst e4 e5
    · cases e
end
/-! ### judgements -/
/-- an expression that gives data -/
def DE (K : PySem.W.Frag) (t : TE) (g : GE) : Prop := ∀ b0 B Z0 Z H σ ρ d ρ' (Q : VK), Ok K b0 B Z0 Z H σ ρ → g ρ = .ok d ρ' → (∀ v H' Z', Ok K b0 B Z0 Z' H' σ ρ' → Same Z Z' → Rp K Z' v d → Q v H') → t σ H Q
/-- .. an operand -/
def DO (K : PySem.W.Frag) (t : TE) (g : GO) : Prop := ∀ b0 B Z0 Z H σ ρ o ρ' (Q : VK), Ok K b0 B Z0 Z H σ ρ → g ρ = .ok o ρ' → (∀ v H' Z', Ok K b0 B Z0 Z' H' σ ρ' → Same Z Z' → OpR' K Z' σ v o → Q v H') → t σ H Q
/-- .. a new list -/
def DF (K : PySem.W.Frag) (t : TE) (g : GF) : Prop := ∀ b0 B Z0 Z H σ ρ ds ρ' (Q : VK), Ok K b0 B Z0 Z H σ ρ → g ρ = .ok ds ρ' →
  (∀ p vs H' Z', Ok K b0 B Z0 Z' H' σ ρ' → Same Z Z' → Z' p = none → B p = none → Apart σ ρ' p → H' p = some (.lst vs) → RpA K Z' vs ds → Q (.ref p) H') → t σ H Q
/-- a test -/
def DT (K : PySem.W.Frag) (t : TT) (g : GT) : Prop := ∀ b0 B Z0 Z H σ ρ b ρ' (Q : Bool → Hp → Prop), Ok K b0 B Z0 Z H σ ρ → g ρ = .ok b ρ' → (∀ H' Z', Ok K b0 B Z0 Z' H' σ ρ' → Same Z Z' → Q b H') → t σ H Q
inductive OpA (K : PySem.W.Frag) (Z : Hp) (σ : L2.St) : List V → List Op → Prop
  | nil : OpA K Z σ [] []
  | cons {v : V} {vs : List V} {o : Op} {os : List Op} : OpR' K Z σ v o → OpA K Z σ vs os → OpA K Z σ (v :: vs) (o :: os)
/-- arguments -/
def DA (K : PySem.W.Frag) (t : TA) (g : GA) : Prop := ∀ b0 B Z0 Z H σ ρ os ρ' (Q : List V → Hp → Prop), Ok K b0 B Z0 Z H σ ρ → g ρ = .ok os ρ' → (∀ vs H' Z', Ok K b0 B Z0 Z' H' σ ρ' → Same Z Z' → OpA K Z' σ vs os → Q vs H') → t σ H Q
def resA : List Op → Rho → Option (List D)
  | [], _ => some []
  | o :: os, ρ => match o.res ρ, resA os ρ with
    | some d, some ds => some (d :: ds)
    | _, _ => none
/-! ### the data's combinators -/
def eC (d : D) (ρ : Rho) : R D := .ok d ρ
def eV (i : Nat) (ρ : Rho) : R D := match ρ[i]? with
  | some (.sh d) => .ok d ρ
  | _ => .bad
def oE (g : GE) (ρ : Rho) : R Op := (g ρ).map .val
def oV (i : Nat) (ρ : Rho) : R Op := match ρ[i]? with
  | some (.ow _) => .ok (.own i) ρ
  | _ => .bad
def eL (g : GF) (ρ : Rho) : R D := (g ρ).map .list
def aNil (ρ : Rho) : R (List Op) := .ok [] ρ
def aCons (g : GO) (r : GA) (ρ : Rho) : R (List Op) := (g ρ).bind fun o ρ1 => (r ρ1).map (o :: ·)
def eOp2 {α : Type} (f : D → D → Option α) (a b : GO) (ρ : Rho) : R α := (a ρ).bind fun x ρ1 => (b ρ1).bind fun y ρ2 => match x.res ρ2, y.res ρ2 with
  | some d, some e => R.lift (f d e) ρ2
  | _, _ => .bad
def eOp1 {α : Type} (f : D → Option α) (a : GO) (ρ : Rho) : R α := (a ρ).bind fun x ρ1 => match x.res ρ1 with
  | some d => R.lift (f d) ρ1
  | _ => .bad
def eApp {α : Type} (f : List D → Option α) (as : GA) (ρ : Rho) : R α := (as ρ).bind fun os ρ1 => match resA os ρ1 with
  | some ds => R.lift (f ds) ρ1
  | none => .bad
def tstE (g : GE) (ρ : Rho) : R Bool := (g ρ).bind fun d ρ1 => match d with
  | .bool b => .ok b ρ1
  | _ => .bad
def eB (g : GT) (ρ : Rho) : R D := (g ρ).map .bool
def tNotG (g : GT) (ρ : Rho) : R Bool := (g ρ).map (!·)
def tAndG (a b : GT) (ρ : Rho) : R Bool := (a ρ).bind fun c ρ1 => if c then b ρ1 else .ok false ρ1
def tOrG (a b : GT) (ρ : Rho) : R Bool := (a ρ).bind fun c ρ1 => if c then .ok true ρ1 else b ρ1
def eAndG (a b : GE) (ρ : Rho) : R D := (a ρ).bind fun c ρ1 => match c with
  | .bool true => b ρ1
  | .bool false => .ok (.bool false) ρ1
  | _ => .bad
def eOrG (a b : GE) (ρ : Rho) : R D := (a ρ).bind fun c ρ1 => match c with
  | .bool true => .ok (.bool true) ρ1
  | .bool false => b ρ1
  | _ => .bad
def eNotG (a : GE) (ρ : Rho) : R D := (a ρ).bind fun c ρ1 => match c with
  | .bool c => .ok (.bool (!c)) ρ1
  | _ => .bad
def eIf {α : Type} (c : GT) (a b : Rho → R α) (ρ : Rho) : R α := (c ρ).bind fun k ρ1 => if k then a ρ1 else b ρ1
/-! ### a rule by values is sound for a function on data -/
def Sn2 (K : PySem.W.Frag) (r : R2) (f : D → D → Option D) : Prop := ∀ b0 B Z0 Z H σ ρ x y a b c (Q : VK), Ok K b0 B Z0 Z H σ ρ → Bd K Z H x a → Bd K Z H y b → f a b = some c → (∀ v H' Z', Ok K b0 B Z0 Z' H' σ ρ → Same Z Z' → Rp K Z' v c → Q v H') → r x y H Q
def Sn2F (K : PySem.W.Frag) (r : R2) (f : D → D → Option (List D)) : Prop := ∀ b0 B Z0 Z H σ ρ x y a b c (Q : VK), Ok K b0 B Z0 Z H σ ρ → Bd K Z H x a → Bd K Z H y b → f a b = some c →
  (∀ p vs H', Ok K b0 B Z0 Z H' σ ρ → Z p = none → B p = none → Apart σ ρ p → H' p = some (.lst vs) → RpA K Z vs c → Q (.ref p) H') → r x y H Q
def Sn1 (K : PySem.W.Frag) (r : V → Hp → VK → Prop) (f : D → Option D) : Prop := ∀ b0 B Z0 Z H σ ρ x a c (Q : VK), Ok K b0 B Z0 Z H σ ρ → Bd K Z H x a → f a = some c → (∀ v H' Z', Ok K b0 B Z0 Z' H' σ ρ → Same Z Z' → Rp K Z' v c → Q v H') → r x H Q
def SnA (K : PySem.W.Frag) (r : List V → Hp → VK → Prop) (f : List D → Option D) : Prop := ∀ b0 B Z0 Z H σ ρ xs as c (Q : VK), Ok K b0 B Z0 Z H σ ρ → BdA K Z H xs as → f as = some c → (∀ v H' Z', Ok K b0 B Z0 Z' H' σ ρ → Same Z Z' → Rp K Z' v c → Q v H') → r xs H Q
def SnAF (K : PySem.W.Frag) (r : List V → Hp → VK → Prop) (f : List D → Option (List D)) : Prop := ∀ b0 B Z0 Z H σ ρ xs as c (Q : VK), Ok K b0 B Z0 Z H σ ρ → BdA K Z H xs as → f as = some c →
  (∀ p vs H', Ok K b0 B Z0 Z H' σ ρ → Z p = none → B p = none → Apart σ ρ p → H' p = some (.lst vs) → RpA K Z vs c → Q (.ref p) H') → r xs H Q
section
variable {K : PySem.W.Frag} {ta tb te : TE} {tt tu : TT} {tas : TA}
theorem de_c {v : V} {d : D} (h : ∀ Z, Rp K Z v d) : DE K (tC v) (eC d) := fun b0 B Z0 Z H σ ρ d' ρ' Q ok e q => by
  cases e
  exact q v H Z ok (Same.refl Z) (h Z)
theorem de_int {i : Int} : DE K (tC (.int i)) (eC (.int i)) := de_c fun _ => .int i
theorem de_bl {b : Bool} : DE K (tC (.bl b)) (eC (.bool b)) := de_c fun _ => .bl b
theorem de_non : DE K (tC .non) (eC .none) := de_c fun _ => .non
theorem de_str {x : Str} : DE K (tC (.str x)) (eC (.str x)) := de_c fun _ => .str x
theorem de_v {i : Nat} : DE K (tVar i) (eV i) := fun b0 B Z0 Z H σ ρ d ρ' Q ok e q => by
  unfold eV at e
  split at e
  · rename_i d' hi
    cases e
    obtain ⟨v, e1, e2⟩ := ok.sh i _ hi
    exact ⟨v, e1, q v H Z ok (Same.refl Z) e2⟩
  · cases e
theorem do_e {g : GE} (h : DE K te g) : DO K te (oE g) := fun b0 B Z0 Z H σ ρ o ρ' Q ok e q => by
  obtain ⟨d, e1, rfl⟩ := R.map_ok e
  exact h b0 B Z0 Z H σ ρ d ρ' Q ok e1 fun v H' Z' ok' s r => q v H' Z' ok' s r
theorem do_v {i : Nat} : DO K (tVar i) (oV i) := fun b0 B Z0 Z H σ ρ o ρ' Q ok e q => by
  unfold oV at e
  split at e
  · rename_i ds hi
    cases e
    obtain ⟨p, vs, e1, _⟩ := ok.ow i ds hi
    exact ⟨.ref p, e1, q (.ref p) H Z ok (Same.refl Z) e1⟩
  · cases e
theorem de_l {g : GF} (h : DF K te g) : DE K te (eL g) := fun b0 B Z0 Z H σ ρ d ρ' Q ok e q => by
  obtain ⟨ds, e1, rfl⟩ := R.map_ok e
  refine h b0 B Z0 Z H σ ρ ds ρ' Q ok e1 fun p vs H' Z' ok' s zp bp ap hp r => ?_
  obtain ⟨ok2, s2⟩ := ok'.freeze zp bp ap hp
  exact q (.ref p) H' _ ok2 (s.trans s2) (.lst upd_same (r.mono s2))
theorem da_nil : DA K tNil aNil := fun b0 B Z0 Z H σ ρ os ρ' Q ok e q => by
  cases e
  exact q [] H Z ok (Same.refl Z) .nil
theorem OpA.mono {Z Z' : Hp} {σ : L2.St} (e : Same Z Z') : ∀ {vs : List V} {os : List Op}, OpA K Z σ vs os → OpA K Z' σ vs os
  | _, _, .nil => .nil
  | _, _, .cons h r => .cons (h.mono e) (OpA.mono e r)
theorem da_cons {g : GO} {r : GA} (h : DO K te g) (hr : DA K tas r) : DA K (tCons te tas) (aCons g r) := fun b0 B Z0 Z H σ ρ os ρ' Q ok e q => by
  obtain ⟨o, ρ1, e1, e2⟩ := R.bind_ok e
  obtain ⟨os', e3, rfl⟩ := R.map_ok e2
  refine h b0 B Z0 Z H σ ρ o ρ1 _ ok e1 fun v H1 Z1 ok1 s1 r1 => ?_
  exact hr b0 B Z0 Z1 H1 σ ρ1 os' ρ' _ ok1 e3 fun vs H2 Z2 ok2 s2 r2 => q (v :: vs) H2 Z2 ok2 (s1.trans s2) (.cons (r1.mono s2) r2)
theorem Ok.bdA {b0 : Option Addr} {B Z0 Z H : Hp} {σ : L2.St} {ρ : Rho} (ok : Ok K b0 B Z0 Z H σ ρ) : ∀ {vs : List V} {os : List Op} {ds : List D}, OpA K Z σ vs os → resA os ρ = some ds → BdA K Z H vs ds
  | _, _, _, .nil, e => by cases e; exact .nil
  | _, _, _, .cons h r, e => by
    unfold resA at e
    split at e
    · rename_i d ds' e1 e2
      cases e
      exact .cons (ok.bd h e1) (Ok.bdA ok r e2)
    · cases e
theorem op2_ok {α : Type} {f : D → D → Option α} {ga gb : GO} {ρ ρ' : Rho} {z : α} (e : eOp2 f ga gb ρ = .ok z ρ') : ∃ x ρ1 y a b, ga ρ = .ok x ρ1 ∧ gb ρ1 = .ok y ρ' ∧ x.res ρ' = some a ∧ y.res ρ' = some b ∧ f a b = some z := by
  obtain ⟨x, ρ1, e1, e2⟩ := R.bind_ok e
  obtain ⟨y, ρ2, e3, e4⟩ := R.bind_ok e2
  split at e4
  · rename_i d d' h1 h2
    obtain ⟨e5, rfl⟩ := R.lift_ok e4
    exact ⟨x, ρ1, y, d, d', e1, e3, h1, h2, e5⟩
  · cases e4
theorem de_op {r : R2} {f : D → D → Option D} {ga gb : GO} (sn : Sn2 K r f) (ha : DO K ta ga) (hb : DO K tb gb) : DE K (tOp r ta tb) (eOp2 f ga gb) := fun b0 B Z0 Z H σ ρ d ρ' Q ok e q => by
  obtain ⟨x, ρ1, y, a, b, e1, e2, e3, e4, e5⟩ := op2_ok e
  refine ha b0 B Z0 Z H σ ρ x ρ1 _ ok e1 fun v H1 Z1 ok1 s1 r1 => ?_
  refine hb b0 B Z0 Z1 H1 σ ρ1 y ρ' _ ok1 e2 fun u H2 Z2 ok2 s2 r2 => ?_
  exact sn b0 B Z0 Z2 H2 σ ρ' v u a b d Q ok2 (ok2.bd (r1.mono s2) e3) (ok2.bd r2 e4) e5 fun w H3 Z3 ok3 s3 r3 => q w H3 Z3 ok3 ((s1.trans s2).trans s3) r3
theorem df_op {r : R2} {f : D → D → Option (List D)} {ga gb : GO} (sn : Sn2F K r f) (ha : DO K ta ga) (hb : DO K tb gb) : DF K (tOp r ta tb) (eOp2 f ga gb) := fun b0 B Z0 Z H σ ρ d ρ' Q ok e q => by
  obtain ⟨x, ρ1, y, a, b, e1, e2, e3, e4, e5⟩ := op2_ok e
  refine ha b0 B Z0 Z H σ ρ x ρ1 _ ok e1 fun v H1 Z1 ok1 s1 r1 => ?_
  refine hb b0 B Z0 Z1 H1 σ ρ1 y ρ' _ ok1 e2 fun u H2 Z2 ok2 s2 r2 => ?_
  exact sn b0 B Z0 Z2 H2 σ ρ' v u a b d Q ok2 (ok2.bd (r1.mono s2) e3) (ok2.bd r2 e4) e5 fun p vs H3 ok3 zp bp ap hp r3 => q p vs H3 Z2 ok3 (s1.trans s2) zp bp ap hp r3
theorem op1_ok {α : Type} {f : D → Option α} {ga : GO} {ρ ρ' : Rho} {z : α} (e : eOp1 f ga ρ = .ok z ρ') : ∃ x a, ga ρ = .ok x ρ' ∧ x.res ρ' = some a ∧ f a = some z := by
  obtain ⟨x, ρ1, e1, e2⟩ := R.bind_ok e
  split at e2
  · rename_i d h1
    obtain ⟨e5, rfl⟩ := R.lift_ok e2
    exact ⟨x, d, e1, h1, e5⟩
  · cases e2
theorem de_un {r : V → Hp → VK → Prop} {f : D → Option D} {ga : GO} (sn : Sn1 K r f) (ha : DO K ta ga) : DE K (tUn r ta) (eOp1 f ga) := fun b0 B Z0 Z H σ ρ d ρ' Q ok e q => by
  obtain ⟨x, a, e1, e3, e5⟩ := op1_ok e
  refine ha b0 B Z0 Z H σ ρ x ρ' _ ok e1 fun v H1 Z1 ok1 s1 r1 => ?_
  exact sn b0 B Z0 Z1 H1 σ ρ' v a d Q ok1 (ok1.bd r1 e3) e5 fun w H3 Z3 ok3 s3 r3 => q w H3 Z3 ok3 (s1.trans s3) r3
theorem app_ok {α : Type} {f : List D → Option α} {ga : GA} {ρ ρ' : Rho} {z : α} (e : eApp f ga ρ = .ok z ρ') : ∃ os ds, ga ρ = .ok os ρ' ∧ resA os ρ' = some ds ∧ f ds = some z := by
  obtain ⟨x, ρ1, e1, e2⟩ := R.bind_ok e
  split at e2
  · rename_i d h1
    obtain ⟨e5, rfl⟩ := R.lift_ok e2
    exact ⟨x, d, e1, h1, e5⟩
  · cases e2
theorem de_cb {r : List V → Hp → VK → Prop} {f : List D → Option D} {ga : GA} (sn : SnA K r f) (ha : DA K tas ga) : DE K (tCB r tas) (eApp f ga) := fun b0 B Z0 Z H σ ρ d ρ' Q ok e q => by
  obtain ⟨x, a, e1, e3, e5⟩ := app_ok e
  refine ha b0 B Z0 Z H σ ρ x ρ' _ ok e1 fun v H1 Z1 ok1 s1 r1 => ?_
  exact sn b0 B Z0 Z1 H1 σ ρ' v a d Q ok1 (ok1.bdA r1 e3) e5 fun w H3 Z3 ok3 s3 r3 => q w H3 Z3 ok3 (s1.trans s3) r3
theorem df_cb {r : List V → Hp → VK → Prop} {f : List D → Option (List D)} {ga : GA} (sn : SnAF K r f) (ha : DA K tas ga) : DF K (tCB r tas) (eApp f ga) := fun b0 B Z0 Z H σ ρ d ρ' Q ok e q => by
  obtain ⟨x, a, e1, e3, e5⟩ := app_ok e
  refine ha b0 B Z0 Z H σ ρ x ρ' _ ok e1 fun v H1 Z1 ok1 s1 r1 => ?_
  exact sn b0 B Z0 Z1 H1 σ ρ' v a d Q ok1 (ok1.bdA r1 e3) e5 fun p vs H3 ok3 zp bp ap hp r3 => q p vs H3 Z1 ok3 s1 zp bp ap hp r3
/-! tests -/
theorem dt_B {g : GE} (h : DE K te g) : DT K (tB te) (tstE g) := fun b0 B Z0 Z H σ ρ b ρ' Q ok e q => by
  obtain ⟨d, ρ1, e1, e2⟩ := R.bind_ok e
  split at e2
  · cases e2
    refine h b0 B Z0 Z H σ ρ _ _ _ ok e1 fun v H' Z' ok' s r => ?_
    cases r
    exact ⟨_, rfl, q H' Z' ok' s⟩
  · cases e2
theorem dt_test {g : GE} (h : DE K te g) : DT K (tTest te) (tstE g) := fun b0 B Z0 Z H σ ρ b ρ' Q ok e q => by
  obtain ⟨d, ρ1, e1, e2⟩ := R.bind_ok e
  split at e2
  · cases e2
    refine h b0 B Z0 Z H σ ρ _ _ _ ok e1 fun v H' Z' ok' s r => ?_
    cases r
    exact ⟨_, rfl, q H' Z' ok' s⟩
  · cases e2
theorem dt_not {g : GT} (h : DT K tt g) : DT K (tNot tt) (tNotG g) := fun b0 B Z0 Z H σ ρ b ρ' Q ok e q => by
  obtain ⟨d, e1, rfl⟩ := R.map_ok e
  exact h b0 B Z0 Z H σ ρ d ρ' _ ok e1 fun H' Z' ok' s => q H' Z' ok' s
theorem dt_and {g k : GT} (h : DT K tt g) (h2 : DT K tu k) : DT K (tAnd tt tu) (tAndG g k) := fun b0 B Z0 Z H σ ρ b ρ' Q ok e q => by
  obtain ⟨c, ρ1, e1, e2⟩ := R.bind_ok e
  refine h b0 B Z0 Z H σ ρ c ρ1 _ ok e1 fun H1 Z1 ok1 s1 => ?_
  cases c with
  | true => exact h2 b0 B Z0 Z1 H1 σ ρ1 b ρ' Q ok1 e2 fun H2 Z2 ok2 s2 => q H2 Z2 ok2 (s1.trans s2)
  | false => cases e2; exact q H1 Z1 ok1 s1
theorem dt_or {g k : GT} (h : DT K tt g) (h2 : DT K tu k) : DT K (tOr tt tu) (tOrG g k) := fun b0 B Z0 Z H σ ρ b ρ' Q ok e q => by
  obtain ⟨c, ρ1, e1, e2⟩ := R.bind_ok e
  refine h b0 B Z0 Z H σ ρ c ρ1 _ ok e1 fun H1 Z1 ok1 s1 => ?_
  cases c with
  | true => cases e2; exact q H1 Z1 ok1 s1
  | false => exact h2 b0 B Z0 Z1 H1 σ ρ1 b ρ' Q ok1 e2 fun H2 Z2 ok2 s2 => q H2 Z2 ok2 (s1.trans s2)
theorem de_and {g k : GE} (h : DE K ta g) (h2 : DE K tb k) : DE K (tAndV ta tb) (eAndG g k) := fun b0 B Z0 Z H σ ρ d ρ' Q ok e q => by
  obtain ⟨c, ρ1, e1, e2⟩ := R.bind_ok e
  refine h b0 B Z0 Z H σ ρ c ρ1 _ ok e1 fun v H1 Z1 ok1 s1 r1 => ?_
  split at e2
  · cases r1
    exact ⟨true, rfl, h2 b0 B Z0 Z1 H1 σ ρ1 d ρ' Q ok1 e2 fun v H2 Z2 ok2 s2 r2 => q v H2 Z2 ok2 (s1.trans s2) r2⟩
  · cases r1; cases e2
    exact ⟨false, rfl, q _ H1 Z1 ok1 s1 (.bl false)⟩
  · cases e2
theorem de_or {g k : GE} (h : DE K ta g) (h2 : DE K tb k) : DE K (tOrV ta tb) (eOrG g k) := fun b0 B Z0 Z H σ ρ d ρ' Q ok e q => by
  obtain ⟨c, ρ1, e1, e2⟩ := R.bind_ok e
  refine h b0 B Z0 Z H σ ρ c ρ1 _ ok e1 fun v H1 Z1 ok1 s1 r1 => ?_
  split at e2
  · cases r1; cases e2
    exact ⟨true, rfl, q _ H1 Z1 ok1 s1 (.bl true)⟩
  · cases r1
    exact ⟨false, rfl, h2 b0 B Z0 Z1 H1 σ ρ1 d ρ' Q ok1 e2 fun v H2 Z2 ok2 s2 r2 => q v H2 Z2 ok2 (s1.trans s2) r2⟩
  · cases e2
theorem de_not {g : GE} (h : DE K ta g) : DE K (tNotV ta) (eNotG g) := fun b0 B Z0 Z H σ ρ d ρ' Q ok e q => by
  obtain ⟨c, ρ1, e1, e2⟩ := R.bind_ok e
  refine h b0 B Z0 Z H σ ρ c ρ1 _ ok e1 fun v H1 Z1 ok1 s1 r1 => ?_
  split at e2
  · cases r1; cases e2
    exact ⟨_, rfl, q _ H1 Z1 ok1 s1 (.bl _)⟩
  · cases e2
theorem de_if {c : GT} {g k : GE} (hc : DT K tt c) (h : DE K ta g) (h2 : DE K tb k) : DE K (tIf tt ta tb) (eIf c g k) := fun b0 B Z0 Z H σ ρ d ρ' Q ok e q => by
  obtain ⟨b, ρ1, e1, e2⟩ := R.bind_ok e
  refine hc b0 B Z0 Z H σ ρ b ρ1 _ ok e1 fun H1 Z1 ok1 s1 => ?_
  cases b with
  | true => exact h b0 B Z0 Z1 H1 σ ρ1 d ρ' Q ok1 e2 fun v H2 Z2 ok2 s2 r2 => q v H2 Z2 ok2 (s1.trans s2) r2
  | false => exact h2 b0 B Z0 Z1 H1 σ ρ1 d ρ' Q ok1 e2 fun v H2 Z2 ok2 s2 r2 => q v H2 Z2 ok2 (s1.trans s2) r2
theorem df_if {c : GT} {g k : GF} (hc : DT K tt c) (h : DF K ta g) (h2 : DF K tb k) : DF K (tIf tt ta tb) (eIf c g k) := fun b0 B Z0 Z H σ ρ d ρ' Q ok e q => by
  obtain ⟨b, ρ1, e1, e2⟩ := R.bind_ok e
  refine hc b0 B Z0 Z H σ ρ b ρ1 _ ok e1 fun H1 Z1 ok1 s1 => ?_
  cases b with
  | true => exact h b0 B Z0 Z1 H1 σ ρ1 d ρ' Q ok1 e2 fun p vs H2 Z2 ok2 s2 => q p vs H2 Z2 ok2 (s1.trans s2)
  | false => exact h2 b0 B Z0 Z1 H1 σ ρ1 d ρ' Q ok1 e2 fun p vs H2 Z2 ok2 s2 => q p vs H2 Z2 ok2 (s1.trans s2)
/-! displays -/
def valA : List Op → Option (List D)
  | [] => some []
  | .val d :: os => (valA os).map (d :: ·)
  | _ :: _ => none
theorem valA_ok {Z : Hp} {σ : L2.St} : ∀ {vs : List V} {os : List Op} {ds : List D}, OpA K Z σ vs os → valA os = some ds → RpA K Z vs ds
  | _, _, _, .nil, e => by cases e; exact .nil
  | _, _, _, .cons (o := .val d) h r, e => by
    unfold valA at e
    obtain ⟨ds', e1, rfl⟩ := Option.map_eq_some_iff.mp e
    exact .cons h (valA_ok r e1)
  | _, _, _, .cons (o := .own i) h r, e => by cases e
def eSeq (ga : GA) (ρ : Rho) : R (List D) := (ga ρ).bind fun os ρ1 => match valA os with
  | some ds => if ds.length ≤ sizeLine then .ok ds ρ1 else .bad
  | none => .bad
def eT (g : GF) (ρ : Rho) : R D := (g ρ).map .tuple
theorem seq_ok {ga : GA} {ρ ρ' : Rho} {ds : List D} (e : eSeq ga ρ = .ok ds ρ') : ∃ os, ga ρ = .ok os ρ' ∧ valA os = some ds ∧ ds.length ≤ sizeLine := by
  obtain ⟨os, ρ1, e1, e2⟩ := R.bind_ok e
  split at e2
  · split at e2
    · cases e2
      exact ⟨os, e1, by assumption, by assumption⟩
    · cases e2
  · cases e2
theorem df_lst {ga : GA} (ha : DA K tas ga) : DF K (tLst tas) (eSeq ga) := fun b0 B Z0 Z H σ ρ d ρ' Q ok e q => by
  obtain ⟨os, e1, e2, e3⟩ := seq_ok e
  refine ha b0 B Z0 Z H σ ρ os ρ' _ ok e1 fun vs H1 Z1 ok1 s1 r1 => ?_
  have ra := valA_ok r1 e2
  refine ⟨by rw [ra.length]; exact e3, fun p hp => ?_⟩
  obtain ⟨ok2, zp, bp, ap⟩ := ok1.fresh (o := .lst vs) hp
  exact q p vs _ Z1 ok2 s1 zp bp ap upd_same ra
theorem de_tup {ga : GA} (ha : DA K tas ga) : DE K (tTup tas) (eT (eSeq ga)) := fun b0 B Z0 Z H σ ρ d ρ' Q ok e q => by
  obtain ⟨ds, e0, rfl⟩ := R.map_ok e
  obtain ⟨os, e1, e2, e3⟩ := seq_ok e0
  refine ha b0 B Z0 Z H σ ρ os ρ' _ ok e1 fun vs H1 Z1 ok1 s1 r1 => ?_
  have ra := valA_ok r1 e2
  refine ⟨by rw [ra.length]; exact e3, fun p hp => ?_⟩
  obtain ⟨ok2, s2⟩ := ok1.new (o := .tup vs) hp
  exact q (.ref p) _ _ ok2 (s1.trans s2) (.tup (.inl (.inl upd_same)) (ra.mono s2))
end
end DL

namespace DL
open PySem L2
/-! ### statements -/
/-- how a block ends: next, return of data, return of a new list, break, continue, an exception, nothing that is told -/
inductive O where
  | nx (ρ : Rho)
  | rt (d : D) (ρ : Rho)
  | rf (ds : List D) (ρ : Rho)
  | bk (ρ : Rho)
  | ct (ρ : Rho)
  | ex (c : Str) (d : D) (ρ : Rho)
  | bad
abbrev GS := Rho → O
/-- what the end o promises, seen from the entry (B, Z0) -/
def Sat (K : PySem.W.Frag) (Wx : WX) (b0 : Option Addr) (B Z0 : Hp) (E : Ends) : O → Prop
  | .nx ρ => ∀ σ H Z, Ok K b0 B Z0 Z H σ ρ → E.nx σ H
  | .rt d ρ => ∀ v σ H Z, Ok K b0 B Z0 Z H σ ρ → Rp K Z v d → E.rt v H
  | .rf ds ρ => ∀ p vs σ H Z, Ok K b0 B Z0 Z H σ ρ → Z p = none → B p = none → Apart σ ρ p → H p = some (.lst vs) → RpA K Z vs ds → E.rt (.ref p) H
  | .bk ρ => ∀ σ H Z, Ok K b0 B Z0 Z H σ ρ → E.bk σ H
  | .ct ρ => ∀ σ H Z, Ok K b0 B Z0 Z H σ ρ → E.ct σ H
  | .ex c d ρ => ∀ σ H Z C dx v, Ok K b0 B Z0 Z H σ ρ → Cls K c C → Z dx = some (.xd [(fld c, v)]) → Rp K Z v d → Wx (.ref C) (some dx) σ H
  | .bad => False
def DS (K : PySem.W.Frag) (Wx : WX) (t : TS) (g : GS) : Prop := ∀ b0 B Z0 Z H σ ρ (E : Ends), Ok K b0 B Z0 Z H σ ρ → Sat K Wx b0 B Z0 E (g ρ) → t E σ H
def O.bind (o : O) (f : Rho → O) : O := match o with
  | .nx ρ => f ρ
  | o => o
def R.to {α : Type} (r : R α) (f : α → Rho → O) : O := match r with
  | .ok a ρ => f a ρ
  | .ex c d ρ => .bad
  | .bad => .bad
def sSeq (a b : GS) (ρ : Rho) : O := (a ρ).bind b
def sNext (ρ : Rho) : O := .nx ρ
def sRet (g : GE) (ρ : Rho) : O := (g ρ).to .rt
def sRetF (g : GF) (ρ : Rho) : O := (g ρ).to .rf
/-- return of the list of one's own in slot i -/
def sRetO (i : Nat) (ρ : Rho) : O := match ρ[i]? with
  | some (.ow ds) => .rf ds (ρ.set i .no)
  | _ => .bad
def sRetN (ρ : Rho) : O := .rt .none ρ
def sDrop (g : GE) (ρ : Rho) : O := (g ρ).to fun _ ρ => .nx ρ
def sIf (c : GT) (a b : GS) (ρ : Rho) : O := (c ρ).to fun k ρ1 => if k then a ρ1 else b ρ1
def sSet (i : Nat) (g : GE) (ρ : Rho) : O := (g ρ).to fun d ρ1 => .nx (ρ1.set i (.sh d))
def sSetO (i : Nat) (g : GF) (ρ : Rho) : O := (g ρ).to fun ds ρ1 => .nx (ρ1.set i (.ow ds))
def sBreak (ρ : Rho) : O := .bk ρ
def sCont (ρ : Rho) : O := .ct ρ
def sBad (ρ : Rho) : O := .bad
/-- the own list in slot i is frozen -/
def fz (i : Nat) (ρ : Rho) : Rho := match ρ[i]? with
  | some (.ow ds) => ρ.set i (.sh (.list ds))
  | _ => ρ
def sFz (i : Nat) (g : GS) (ρ : Rho) : O := g (fz i ρ)
/-- slot i is forgotten -/
def sNo (i : Nat) (g : GS) (ρ : Rho) : O := g (ρ.set i .no)
section
variable {K : PySem.W.Frag} {Wx : WX} {ta tb te : TE} {tt tu : TT} {tas : TA} {t u : TS} {b0 : Option Addr} {B Z0 Z H : Hp} {σ : L2.St} {ρ : Rho} {E : Ends}
theorem Sat.to {α : Type} {r : R α} {f : α → Rho → O} (h : Sat K Wx b0 B Z0 E (r.to f)) : ∃ a ρ', r = .ok a ρ' ∧ Sat K Wx b0 B Z0 E (f a ρ') := by
  cases r with
  | ok a ρ' => exact ⟨a, ρ', rfl, h⟩
  | ex c d ρ' => exact h.elim
  | bad => exact h.elim
theorem Sat.bind {o : O} {f : Rho → O} {nx' : L2.St → Hp → Prop} (h : Sat K Wx b0 B Z0 E (o.bind f)) (hn : ∀ ρ' σ' H' Z', Ok K b0 B Z0 Z' H' σ' ρ' → Sat K Wx b0 B Z0 E (f ρ') → nx' σ' H') : Sat K Wx b0 B Z0 { E with nx := nx' } o := by
  cases o with
  | nx ρ' => exact fun σ' H' Z' ok => hn ρ' σ' H' Z' ok h
  | rt d ρ' => exact h
  | rf ds ρ' => exact h
  | bk ρ' => exact h
  | ct ρ' => exact h
  | ex c d ρ' => exact h
  | bad => exact h.elim
theorem ds_seq {g k : GS} (h : DS K Wx t g) (h2 : DS K Wx u k) : DS K Wx (tSeq t u) (sSeq g k) := fun b0 B Z0 Z H σ ρ E ok s =>
  h b0 B Z0 Z H σ ρ _ ok (Sat.bind s fun ρ' σ' H' Z' ok' s' => h2 b0 B Z0 Z' H' σ' ρ' E ok' s')
theorem ds_next : DS K Wx tNext sNext := fun b0 B Z0 Z H σ ρ E ok s => s σ H Z ok
theorem ds_break : DS K Wx tBreak sBreak := fun b0 B Z0 Z H σ ρ E ok s => s σ H Z ok
theorem ds_cont : DS K Wx tCont sCont := fun b0 B Z0 Z H σ ρ E ok s => s σ H Z ok
theorem ds_bad {t : TS} : DS K Wx t sBad := fun b0 B Z0 Z H σ ρ E ok s => s.elim
theorem ds_ret {g : GE} (h : DE K te g) : DS K Wx (tRet te) (sRet g) := fun b0 B Z0 Z H σ ρ E ok s => by
  obtain ⟨d, ρ', e, s⟩ := Sat.to s
  exact h b0 B Z0 Z H σ ρ d ρ' _ ok e fun v H' Z' ok' _ r => s v σ H' Z' ok' r
theorem ds_retF {g : GF} (h : DF K te g) : DS K Wx (tRet te) (sRetF g) := fun b0 B Z0 Z H σ ρ E ok s => by
  obtain ⟨d, ρ', e, s⟩ := Sat.to s
  exact h b0 B Z0 Z H σ ρ d ρ' _ ok e fun p vs H' Z' ok' _ zp bp ap hp r => s p vs σ H' Z' ok' zp bp ap hp r
theorem no_get {i j : Nat} {s : Sl} (h : (ρ.set i .no)[j]? = some s) : s = .no ∨ (i ≠ j ∧ ρ[j]? = some s) := by
  rcases set_get h with ⟨_, e⟩ | ⟨n, e⟩
  · exact .inl e.symm
  · exact .inr ⟨n, e⟩
theorem Ok.forget {i : Nat} (ok : Ok K b0 B Z0 Z H σ ρ) : Ok K b0 B Z0 Z H σ (ρ.set i .no) :=
  ok.weak (by rw [List.length_set]; exact ok.len) fun j s h => (no_get h).imp id fun z => ⟨z.2, rfl⟩
theorem Ok.release {i : Nat} {ds : List D} (ok : Ok K b0 B Z0 Z H σ ρ) (h : ρ[i]? = some (.ow ds)) : ∃ p vs, σ[i]? = some (some (.ref p)) ∧ Ok K b0 B Z0 Z H σ (ρ.set i .no) ∧ Z p = none ∧ B p = none ∧ Apart σ (ρ.set i .no) p ∧ H p = some (.lst vs) ∧ RpA K Z vs ds := by
  obtain ⟨p, vs, e1, e2, e3, e4, e5⟩ := ok.ow i ds h
  refine ⟨p, vs, e1, ok.forget, e2, e3, fun j es hj q => ?_, e4, e5⟩
  rcases no_get hj with z | ⟨n, z⟩
  · cases z
  · exact n (ok.sep i j p ds es h z e1 q)
theorem ds_retO {i : Nat} : DS K Wx (tRet (tVar i)) (sRetO i) := fun b0 B Z0 Z H σ ρ E ok s => by
  unfold sRetO at s
  split at s
  · rename_i ds h
    obtain ⟨p, vs, e1, ok', zp, bp, ap, hp, r⟩ := ok.release h
    exact ⟨.ref p, e1, s p vs σ H Z ok' zp bp ap hp r⟩
  · exact s.elim
theorem ds_retN : DS K Wx tRetN sRetN := fun b0 B Z0 Z H σ ρ E ok s => s .non σ H Z ok .non
theorem ds_drop {g : GE} (h : DE K te g) : DS K Wx (tDrop te) (sDrop g) := fun b0 B Z0 Z H σ ρ E ok s => by
  obtain ⟨d, ρ', e, s⟩ := Sat.to s
  exact h b0 B Z0 Z H σ ρ d ρ' _ ok e fun v H' Z' ok' _ r => s σ H' Z' ok'
theorem ds_if {c : GT} {g k : GS} (hc : DT K tt c) (h : DS K Wx t g) (h2 : DS K Wx u k) : DS K Wx (tIfS tt t u) (sIf c g k) := fun b0 B Z0 Z H σ ρ E ok s => by
  obtain ⟨b, ρ', e, s⟩ := Sat.to s
  refine hc b0 B Z0 Z H σ ρ b ρ' _ ok e fun H' Z' ok' _ => ?_
  cases b with
  | true => exact h b0 B Z0 Z' H' σ ρ' E ok' s
  | false => exact h2 b0 B Z0 Z' H' σ ρ' E ok' s
theorem ds_set {i : Nat} {g : GE} (h : DE K te g) : DS K Wx (tAsg te (gName i)) (sSet i g) := fun b0 B Z0 Z H σ ρ E ok s => by
  obtain ⟨d, ρ', e, s⟩ := Sat.to s
  exact h b0 B Z0 Z H σ ρ d ρ' _ ok e fun v H' Z' ok' _ r => s _ H' Z' (ok'.put r)
theorem ds_setO {i : Nat} {g : GF} (h : DF K te g) (hi : i ≠ 0 := by decide) : DS K Wx (tAsg te (gName i)) (sSetO i g) := fun b0 B Z0 Z H σ ρ E ok s => by
  obtain ⟨d, ρ', e, s⟩ := Sat.to s
  exact h b0 B Z0 Z H σ ρ d ρ' _ ok e fun p vs H' Z' ok' _ zp bp ap hp r => s _ H' Z' (ok'.putO zp bp ap hp r fun _ _ z => absurd z hi)
theorem Ok.fz {i : Nat} (ok : Ok K b0 B Z0 Z H σ ρ) : ∃ Z', Ok K b0 B Z0 Z' H σ (fz i ρ) ∧ Same Z Z' := by
  unfold DL.fz
  split
  · rename_i ds h
    obtain ⟨p, vs, e1, ok', zp, bp, ap, hp, r⟩ := ok.release h
    obtain ⟨ok2, s2⟩ := ok'.freeze zp bp ap hp
    refine ⟨_, ?_, s2⟩
    have q := ok2.put (i := i) (v := .ref p) (d := .list ds) (.lst upd_same (r.mono s2))
    rw [List.set_set] at q
    have e : σ.set i (some (.ref p)) = σ := by
      apply List.ext_getElem?
      intro j
      by_cases hj : i = j
      · subst hj
        rw [List.getElem?_set_self (by
          by_cases z : i < σ.length
          · exact z
          · rw [List.getElem?_eq_none (by simpa using z)] at e1; cases e1), e1]
      · rw [List.getElem?_set_ne hj]
    rw [e] at q
    exact q
  · exact ⟨Z, ok, Same.refl Z⟩
theorem ds_fz {i : Nat} {g : GS} (h : DS K Wx t g) : DS K Wx t (sFz i g) := fun b0 B Z0 Z H σ ρ E ok s => by
  obtain ⟨Z', ok', _⟩ := ok.fz (i := i)
  exact h b0 B Z0 Z' H σ _ E ok' s
theorem ds_no {i : Nat} {g : GS} (h : DS K Wx t g) : DS K Wx t (sNo i g) := fun b0 B Z0 Z H σ ρ E ok s => h b0 B Z0 Z H σ _ E ok.forget s
/-- an expression with the own list in slot i frozen -/
def eFz {α : Type} (i : Nat) (g : Rho → R α) (ρ : Rho) : R α := g (fz i ρ)
theorem de_fz {i : Nat} {g : GE} (h : DE K te g) : DE K te (eFz i g) := fun b0 B Z0 Z H σ ρ d ρ' Q ok e q => by
  obtain ⟨Z', ok', s⟩ := ok.fz (i := i)
  exact h b0 B Z0 Z' H σ _ d ρ' Q ok' e fun v H2 Z2 ok2 s2 r => q v H2 Z2 ok2 (s.trans s2) r
/-! ### targets -/
/-- data goes to a target -/
abbrev GG := D → Rho → Option Rho
def DG (K : PySem.W.Frag) (ws : List Nat) (t : TG) (g : GG) : Prop := ∀ b0 B Z0 Z H σ ρ v d ρ' (Q : L2.St → Hp → Prop), Ok K b0 B Z0 Z H σ ρ → Rp K Z v d → g d ρ = some ρ' → (∀ σ', Ok K b0 B Z0 Z H σ' ρ' → wipe σ' ws = wipe σ ws → Q σ' H) → t v σ H Q
def DGs (K : PySem.W.Frag) (ws : List Nat) (t : TGs) (g : List D → Rho → Option Rho) : Prop := ∀ b0 B Z0 Z H σ ρ vs ds ρ' (Q : L2.St → Hp → Prop), Ok K b0 B Z0 Z H σ ρ → RpA K Z vs ds → g ds ρ = some ρ' → (∀ σ', Ok K b0 B Z0 Z H σ' ρ' → wipe σ' ws = wipe σ ws → Q σ' H) → t vs σ H Q
def gN (i : Nat) (d : D) (ρ : Rho) : Option Rho := some (ρ.set i (.sh d))
def gsNil (ds : List D) (ρ : Rho) : Option Rho := match ds with
  | [] => some ρ
  | _ => none
def gsCons (g : GG) (r : List D → Rho → Option Rho) (ds : List D) (ρ : Rho) : Option Rho := match ds with
  | [] => none
  | d :: ds => (g d ρ).bind (r ds)
def gT (n : Nat) (g : List D → Rho → Option Rho) (d : D) (ρ : Rho) : Option Rho := match d with
  | .tuple ds => if ds.length = n then g ds ρ else none
  | _ => none
theorem wipe_comm (σ : L2.St) (x : Option V) : ∀ (ws : List Nat) (i : Nat), i ∉ ws → wipe (σ.set i x) ws = (wipe σ ws).set i x
  | [], i, _ => rfl
  | w :: ws, i, h => by
    unfold wipe
    have n1 : i ≠ w := fun z => h (by rw [z]; exact List.mem_cons_self)
    rw [wipe_comm σ x ws i fun z => h (List.mem_cons_of_mem _ z), List.set_comm _ _ n1]
theorem wipe_set {σ : L2.St} {x : Option V} : ∀ {ws : List Nat} {i : Nat}, i ∈ ws → wipe (σ.set i x) ws = wipe σ ws
  | [], i, h => nomatch h
  | w :: ws, i, h => by
    unfold wipe
    by_cases hi : i ∈ ws
    · rw [wipe_set hi]
    · have e : i = w := by
        rcases List.mem_cons.mp h with z | z
        · exact z
        · exact absurd z hi
      subst e
      rw [wipe_comm σ x ws i hi, List.set_set]
variable {ws : List Nat}
theorem dg_name {i : Nat} (hi : i ∈ ws) : DG K ws (gName i) (gN i) := fun b0 B Z0 Z H σ ρ v d ρ' Q ok r e q => by
  cases e
  exact q _ (ok.put r) (wipe_set hi)
theorem dgs_nil : DGs K ws gNil gsNil := fun b0 B Z0 Z H σ ρ vs ds ρ' Q ok r e q => by
  cases r with
  | nil => cases e; exact ⟨rfl, q σ ok rfl⟩
  | cons h r => cases e
theorem dgs_cons {t : TG} {u : TGs} {g : GG} {k : List D → Rho → Option Rho} (h : DG K ws t g) (h2 : DGs K ws u k) : DGs K ws (gCons t u) (gsCons g k) := fun b0 B Z0 Z H σ ρ vs ds ρ' Q ok r e q => by
  cases r with
  | nil => cases e
  | cons h1 r =>
    obtain ⟨ρ1, e1, e2⟩ := Option.bind_eq_some_iff.mp e
    exact ⟨_, _, rfl, h b0 B Z0 Z H σ ρ _ _ ρ1 _ ok h1 e1 fun σ1 ok1 w1 => h2 b0 B Z0 Z H σ1 ρ1 _ _ ρ' Q ok1 r e2 fun σ2 ok2 w2 => q σ2 ok2 (w2.trans w1)⟩
theorem dg_tup {n : Nat} {u : TGs} {g : List D → Rho → Option Rho} (h : DGs K ws u g) : DG K ws (gTup K n u) (gT n g) := fun b0 B Z0 Z H σ ρ v d ρ' Q ok r e q => by
  unfold gT at e
  split at e
  · split at e
    · cases r with
      | tup hs ra => exact ⟨_, _, rfl, same_t ok.zh hs, by rw [ra.length]; assumption, h b0 B Z0 Z H σ ρ _ _ ρ' Q ok ra e q⟩
    · cases e
  · cases e
def sTo (g : GE) (k : GG) (ρ : Rho) : O := (g ρ).to fun d ρ1 => match k d ρ1 with
  | some ρ2 => .nx ρ2
  | none => .bad
theorem ds_to {tg : TG} {g : GE} {k : GG} (h : DE K te g) (h2 : DG K ws tg k) : DS K Wx (tAsg te tg) (sTo g k) := fun b0 B Z0 Z H σ ρ E ok s => by
  obtain ⟨d, ρ', e, s⟩ := Sat.to s
  refine h b0 B Z0 Z H σ ρ d ρ' _ ok e fun v H' Z' ok' _ r => ?_
  split at s
  · exact h2 b0 B Z0 Z' H' σ ρ' v d _ _ ok' r (by assumption) fun σ' ok2 _ => s σ' H' Z' ok2
  · exact s.elim
end
end DL

namespace DL
open PySem L2
section
variable {K : PySem.W.Frag} {Wx : WX} {ta tb te : TE} {tt tu : TT} {tas : TA} {t u : TS} {b0 : Option Addr} {B Z0 Z H : Hp} {σ : L2.St} {ρ : Rho} {E : Ends} {p : Addr} {o o' : HO}
/-! ### frames: what nobody knows stands in B for a while -/
theorem Ok.frame (ok : Ok K b0 B Z0 Z H σ ρ) (zp : Z p = none) (ap : Apart σ ρ p) (hp : H p = some o) : Ok K b0 (upd B p o) Z0 Z H σ ρ := by
  refine ⟨ok.len, fun b x e => ?_, ok.zh, ok.zz, fun b x e => ?_, ok.sh, fun i ds e => ?_, ok.fix, ok.sep⟩
  · by_cases hb : b = p
    · subst hb; rw [upd_same] at e; rw [← e]; exact hp
    · rw [upd_ne hb] at e; exact ok.bh b x e
  · rcases ok.nb b x e with z | z
    · exact .inl z
    · exact .inr (by rw [upd_ne (ne_of_none e zp)]; exact z)
  · obtain ⟨q, vs, e1, e2, e3, e4, e5⟩ := ok.ow i ds e
    have nq : q ≠ p := fun z => ap i ds e (by rw [e1, z])
    exact ⟨q, vs, e1, e2, by rw [upd_ne nq]; exact e3, e4, e5⟩
theorem Ok.unframe (ok : Ok K b0 (upd B p o) Z0 Z H σ ρ) (zp : Z0 p = none) (bp : B p = none) : Ok K b0 B Z0 Z H σ ρ ∧ Z p = none ∧ Apart σ ρ p ∧ H p = some o := by
  have hz : Z p = none := by
    cases q : Z p with
    | none => rfl
    | some x =>
      rcases ok.nb p x q with z | z
      · rw [zp] at z; cases z
      · rw [upd_same] at z; cases z
  refine ⟨⟨ok.len, fun b x e => ok.bh b x (by rw [upd_ne (ne_of_none e bp)]; exact e), ok.zh, ok.zz, fun b x e => ?_, ok.sh, fun i ds e => ?_, ok.fix, ok.sep⟩, hz, fun i ds e q => ?_, ok.bh p o upd_same⟩
  · rcases ok.nb b x e with z | z
    · exact .inl z
    · rw [upd_ne (ne_of_none e hz)] at z; exact .inr z
  · obtain ⟨q, vs, e1, e2, e3, e4, e5⟩ := ok.ow i ds e
    have nq : q ≠ p := fun z => by rw [z, upd_same] at e3; cases e3
    rw [upd_ne nq] at e3
    exact ⟨q, vs, e1, e2, e3, e4, e5⟩
  · obtain ⟨q', vs, e1, e2, e3, e4, e5⟩ := ok.ow i ds e
    rw [e1] at q
    cases q
    rw [upd_same] at e3
    cases e3
theorem Ok.reframe (ok : Ok K b0 (upd B p o) Z0 Z H σ ρ) (zp : Z0 p = none) (bp : B p = none) : Ok K b0 (upd B p o') Z0 Z (upd H p o') σ ρ := by
  obtain ⟨ok1, hz, ap, hp⟩ := ok.unframe zp bp
  exact (ok1.write (o := o') hz bp ap).frame hz ap upd_same
/-- all that is frozen joins what stays -/
def joinH (B Z : Hp) : Hp := fun p => match B p with
  | some o => some o
  | none => Z p
theorem Ok.enter (ok : Ok K b0 B Z0 Z H σ ρ) : Ok K b0 (joinH B Z) Z Z H σ ρ := by
  refine ⟨ok.len, fun b x e => ?_, ok.zh, Same.refl Z, fun b x e => .inl e, ok.sh, fun i ds e => ?_, ok.fix, ok.sep⟩
  · unfold joinH at e
    split at e
    · cases e; exact ok.bh b _ (by assumption)
    · exact ok.zh b x e
  · obtain ⟨q, vs, e1, e2, e3, e4, e5⟩ := ok.ow i ds e
    exact ⟨q, vs, e1, e2, by unfold joinH; rw [e3]; exact e2, e4, e5⟩
theorem Ok.leave {Z' H' : Hp} {σ' : L2.St} {ρ' : Rho} (ok : Ok K b0 B Z0 Z H σ ρ) (ok' : Ok K b0 (joinH B Z) Z Z' H' σ' ρ') : Ok K b0 B Z0 Z' H' σ' ρ' := by
  have jb : ∀ q, joinH B Z q = none → B q = none := fun q e => by
    unfold joinH at e
    split at e
    · cases e
    · assumption
  refine ⟨ok'.len, fun b x e => ok'.bh b x (by unfold joinH; rw [e]), ok'.zh, ok.zz.trans ok'.zz, fun b x e => ?_, ok'.sh, fun i ds e => ?_, ok'.fix, ok'.sep⟩
  · rcases ok'.nb b x e with z | z
    · exact ok.nb b x z
    · exact .inr (jb b z)
  · obtain ⟨q, vs, e1, e2, e3, e4, e5⟩ := ok'.ow i ds e
    exact ⟨q, vs, e1, e2, jb q e3, e4, e5⟩
theorem Sat.leave {o : O} (ok : Ok K b0 B Z0 Z H σ ρ) (s : Sat K Wx b0 B Z0 E o) : Sat K Wx b0 (joinH B Z) Z E o := by
  have jb : ∀ q, joinH B Z q = none → B q = none := fun q e => by
    unfold joinH at e
    split at e
    · cases e
    · assumption
  cases o with
  | nx ρ' => exact fun σ' H' Z' ok' => s σ' H' Z' (ok.leave ok')
  | rt d ρ' => exact fun v σ' H' Z' ok' r => s v σ' H' Z' (ok.leave ok') r
  | rf ds ρ' => exact fun p vs σ' H' Z' ok' zp bp ap hp r => s p vs σ' H' Z' (ok.leave ok') zp (jb p bp) ap hp r
  | bk ρ' => exact fun σ' H' Z' ok' => s σ' H' Z' (ok.leave ok')
  | ct ρ' => exact fun σ' H' Z' ok' => s σ' H' Z' (ok.leave ok')
  | ex c d ρ' => exact fun σ' H' Z' C dx v ok' => s σ' H' Z' C dx v (ok.leave ok')
  | bad => exact s.elim
/-! ### two names at once -/
/-- a value on the way into a slot: shared data, or a new list -/
inductive Nw where
  | s (d : D)
  | f (ds : List D)
def Nw.sl : Nw → Sl
  | .s d => .sh d
  | .f ds => .ow ds
def nS (g : GE) (ρ : Rho) : R Nw := (g ρ).map .s
def nF (g : GF) (ρ : Rho) : R Nw := (g ρ).map .f
def NwR (K : PySem.W.Frag) (B Z H : Hp) (σ : L2.St) (ρ : Rho) (v : V) : Nw → Prop
  | .s d => Rp K Z v d
  | .f ds => ∃ p vs, v = .ref p ∧ Z p = none ∧ B p = none ∧ Apart σ ρ p ∧ H p = some (.lst vs) ∧ RpA K Z vs ds
def DN (K : PySem.W.Frag) (t : TE) (g : Rho → R Nw) : Prop := ∀ b0 B Z0 Z H σ ρ n ρ' (Q : VK), Ok K b0 B Z0 Z H σ ρ → g ρ = .ok n ρ' → (∀ v H' Z', Ok K b0 B Z0 Z' H' σ ρ' → Same Z Z' → NwR K B Z' H' σ ρ' v n → Q v H') → t σ H Q
theorem dn_s {g : GE} (h : DE K te g) : DN K te (nS g) := fun b0 B Z0 Z H σ ρ n ρ' Q ok e q => by
  obtain ⟨d, e1, rfl⟩ := R.map_ok e
  exact h b0 B Z0 Z H σ ρ d ρ' Q ok e1 q
theorem dn_f {g : GF} (h : DF K te g) : DN K te (nF g) := fun b0 B Z0 Z H σ ρ n ρ' Q ok e q => by
  obtain ⟨d, e1, rfl⟩ := R.map_ok e
  exact h b0 B Z0 Z H σ ρ d ρ' Q ok e1 fun p vs H' Z' ok' s zp bp ap hp r => q _ H' Z' ok' s ⟨p, vs, rfl, zp, bp, ap, hp, r⟩
theorem Ok.putN {i : Nat} {v : V} {n : Nw} (ok : Ok K b0 B Z0 Z H σ ρ) (r : NwR K B Z H σ ρ v n) (hi : i ≠ 0) : Ok K b0 B Z0 Z H (σ.set i (some v)) (ρ.set i n.sl) := by
  cases n with
  | s d => exact ok.put r
  | f ds =>
    obtain ⟨p, vs, rfl, zp, bp, ap, hp, ra⟩ := r
    exact ok.putO zp bp ap hp ra fun _ _ z => absurd z hi
def sPar (i j : Nat) (a b : Rho → R Nw) (ρ : Rho) : O := (a ρ).to fun x ρ1 => (b ρ1).to fun y ρ2 => .nx ((ρ2.set i x.sl).set j y.sl)
theorem ds_par {i j : Nat} {a b : Rho → R Nw} (ha : DN K ta a) (hb : DN K tb b) (hi : i ≠ 0 := by decide) (hj0 : j ≠ 0 := by decide) : DS K Wx (tPar i j (tCons ta (tCons tb tNil))) (sPar i j a b) := fun b0 B Z0 Z H σ ρ E ok s => by
  obtain ⟨x, ρ1, e1, s⟩ := Sat.to s
  obtain ⟨y, ρ2, e2, s⟩ := Sat.to s
  refine ha b0 B Z0 Z H σ ρ x ρ1 _ ok e1 fun v H1 Z1 ok1 s1 r1 => ?_
  have pa : ∀ {q : Addr} {ds : List D} {H2 Z2 : Hp}, Ok K b0 B Z0 Z2 H2 σ ρ2 → B q = none → Z2 q = none → Apart σ ρ2 q → ∀ {k : Nat} {w : V} {m : Nw}, NwR K B Z2 H2 σ ρ2 w m → w ≠ .ref q → Apart (σ.set k (some w)) (ρ2.set k m.sl) q := by
    intro q ds H2 Z2 ok2 bq zq aq k w m rm hw j' es hj hq
    rcases set_get hj with ⟨ek, e⟩ | ⟨nk, e⟩
    · subst ek
      rcases set_get hq with ⟨_, e2⟩ | ⟨n2, _⟩
      · exact hw (Option.some.inj e2)
      · exact n2 rfl
    · rw [List.getElem?_set_ne nk] at hq
      exact aq j' es e hq
  cases x with
  | s d =>
    refine hb b0 B Z0 Z1 H1 σ ρ1 y ρ2 _ ok1 e2 fun w H2 Z2 ok2 s2 r2 => ⟨v, w, rfl, ?_⟩
    have okv := ok2.put (i := i) (Rp.mono s2 r1)
    refine s _ H2 Z2 ?_
    cases y with
    | s d2 => exact okv.put r2
    | f ds =>
      obtain ⟨q, vs, rfl, zq, bq, aq, hq, ra⟩ := r2
      refine okv.putO zq bq (fun j' es hj hqq => ?_) hq ra fun _ _ z => absurd z hj0
      rcases set_get hj with ⟨_, z⟩ | ⟨nk, e⟩
      · cases z
      · rw [List.getElem?_set_ne nk] at hqq
        exact aq j' es e hqq
  | f ds =>
    obtain ⟨q, vs, rfl, zq, bq, aq, hq, ra⟩ := r1
    have okf := ok1.frame zq aq hq
    refine hb b0 (upd B q (.lst vs)) Z0 Z1 H1 σ ρ1 y ρ2 _ okf e2 fun w H2 Z2 ok2 s2 r2 => ⟨.ref q, w, rfl, ?_⟩
    obtain ⟨ok3, zq2, aq2, hq2⟩ := ok2.unframe (ok1.zz.free zq) bq
    have okv := ok3.putO (i := i) zq2 bq aq2 hq2 (ra.mono s2) fun _ _ z => absurd z hi
    refine s _ H2 Z2 ?_
    cases y with
    | s d2 => exact okv.put r2
    | f ds2 =>
      obtain ⟨q', vs', rfl, zq', bq', aq', hq', ra'⟩ := r2
      have nq : q' ≠ q := fun z => by rw [z, upd_same] at bq'; cases bq'
      rw [upd_ne nq] at bq'
      refine okv.putO zq' bq' (fun j' es hj hqq => ?_) hq' ra' fun _ _ z => absurd z hj0
      rcases set_get hj with ⟨ek, _⟩ | ⟨nk, e⟩
      · subst ek
        rcases set_get hqq with ⟨_, e2⟩ | ⟨n2, _⟩
        · have z := Option.some.inj e2
          injection z with z
          exact nq z.symm
        · exact n2 rfl
      · rw [List.getElem?_set_ne nk] at hqq
        exact aq' j' es e hqq
/-! ### a list of one's own changes -/
def isOw : Option Sl → Bool
  | some (.ow _) => true
  | _ => false
def sApp (i : Nat) (g : GE) (ρ : Rho) : O := if isOw ρ[i]? then (g ρ).to fun d ρ1 => match ρ1[i]? with
    | some (.ow ds) => if ds.length < sizeLine then .nx (ρ1.set i (.ow (ds ++ [d]))) else .bad
    | _ => .bad
  else .bad
theorem Ok.isOw {i : Nat} (ok : Ok K b0 B Z0 Z H σ ρ) (h : isOw ρ[i]? = true) : ∃ p vs, σ[i]? = some (some (.ref p)) ∧ H p = some (.lst vs) := by
  unfold DL.isOw at h
  split at h
  · rename_i ds e
    obtain ⟨p, vs, e1, _, _, e4, _⟩ := ok.ow i ds e
    exact ⟨p, vs, e1, e4⟩
  · cases h
theorem Ok.rewrite {i : Nat} {ds es : List D} {vs' : List V} (ok : Ok K b0 B Z0 Z H σ ρ) (h : ρ[i]? = some (.ow ds)) (hp : σ[i]? = some (some (.ref p))) (r : RpA K Z vs' es) : Ok K b0 B Z0 Z (upd H p (.lst vs')) σ (ρ.set i (.ow es)) := by
  obtain ⟨q, vs, e1, ok', zp, bp, ap, _, _⟩ := ok.release h
  rw [hp] at e1
  cases e1
  have ok2 := ok'.write (o := .lst vs') zp bp ap
  have ok3 := ok2.putO (i := i) zp bp ap upd_same r fun a ha hi0 => by
    subst hi0
    have z := ok.fix a ha ds h
    rw [hp] at z
    injection z with z
    injection z with z
    injection z
  rw [List.set_set] at ok3
  have e : σ.set i (some (.ref p)) = σ := by
    apply List.ext_getElem?
    intro j
    by_cases hj : i = j
    · subst hj
      rw [List.getElem?_set_self (by
        by_cases z : i < σ.length
        · exact z
        · rw [List.getElem?_eq_none (by simpa using z)] at hp; cases hp), hp]
    · rw [List.getElem?_set_ne hj]
  rw [e] at ok3
  exact ok3
theorem ds_app {i : Nat} {g : GE} (h : DE K te g) : DS K Wx (tDrop (tBM K "list" rAppend (tVar i) (tCons te tNil))) (sApp i g) := fun b0 B Z0 Z H σ ρ E ok s => by
  unfold sApp at s
  split at s
  · rename_i h0
    obtain ⟨p, vs0, e0, hp0⟩ := ok.isOw h0
    obtain ⟨d, ρ1, e1, s⟩ := Sat.to s
    split at s
    · rename_i ds hi
      split at s
      · rename_i hs
        refine ⟨.ref p, e0, .inl ⟨rfl, vs0, .inl (.inl hp0)⟩, ?_⟩
        refine h b0 B Z0 Z H σ ρ d ρ1 _ ok e1 fun v H1 Z1 ok1 s1 r1 => ?_
        obtain ⟨q, vs, f1, f2, f3, f4, f5⟩ := ok1.ow i ds hi
        rw [e0] at f1
        cases f1
        exact ⟨p, vs, v, rfl, rfl, f4, by rw [f5.length]; exact hs, s σ _ Z1 (ok1.rewrite hi e0 (f5.append (.one r1)))⟩
      · exact s.elim
    · exact s.elim
  · exact s.elim
def sExt (i : Nat) (g : GF) (ρ : Rho) : O := if isOw ρ[i]? then (g ρ).to fun es ρ1 => match ρ1[i]? with
    | some (.ow ds) => if ds.length + es.length ≤ sizeLine then .nx (ρ1.set i (.ow (ds ++ es))) else .bad
    | _ => .bad
  else .bad
theorem ds_ext {i : Nat} {g : GF} (h : DF K te g) : DS K Wx (tDrop (tBM K "list" rExtend (tVar i) (tCons te tNil))) (sExt i g) := fun b0 B Z0 Z H σ ρ E ok s => by
  unfold sExt at s
  split at s
  · rename_i h0
    obtain ⟨p, vs0, e0, hp0⟩ := ok.isOw h0
    obtain ⟨d, ρ1, e1, s⟩ := Sat.to s
    split at s
    · rename_i ds hi
      split at s
      · rename_i hs
        refine ⟨.ref p, e0, .inl ⟨rfl, vs0, .inl (.inl hp0)⟩, ?_⟩
        refine h b0 B Z0 Z H σ ρ d ρ1 _ ok e1 fun p2 vs2 H1 Z1 ok1 s1 zp bp ap hp r1 => ?_
        obtain ⟨q, vs, f1, f2, f3, f4, f5⟩ := ok1.ow i ds hi
        rw [e0] at f1
        cases f1
        exact ⟨p, p2, vs, vs2, rfl, rfl, f4, hp, by rw [f5.length, r1.length]; exact hs, s σ _ Z1 (ok1.rewrite hi e0 (f5.append r1))⟩
      · exact s.elim
    · exact s.elim
  · exact s.elim
def sPop (i : Nat) (ρ : Rho) : O := match ρ[i]? with
  | some (.ow ds) => if ds.isEmpty then .bad else .nx (ρ.set i (.ow ds.dropLast))
  | _ => .bad
theorem dropLast_take (vs : List V) : vs.dropLast = vs.take (vs.length - 1) := List.dropLast_eq_take
theorem ds_pop {i : Nat} : DS K Wx (tDrop (tBM0 K "list" rPop (tVar i))) (sPop i) := fun b0 B Z0 Z H σ ρ E ok s => by
  unfold sPop at s
  split at s
  · rename_i ds hi
    split at s
    · exact s.elim
    · rename_i he
      obtain ⟨p, vs, f1, f2, f3, f4, f5⟩ := ok.ow i ds hi
      have hl := f5.length
      have hn : 0 < vs.length := by
        rw [hl]
        cases ds with
        | nil => exact absurd rfl he
        | cons _ _ => exact Nat.succ_pos _
      have g : vs[vs.length - 1]? = some vs[vs.length - 1] := List.getElem?_eq_getElem (by omega)
      refine ⟨.ref p, f1, .inl ⟨rfl, vs, .inl (.inl f4)⟩, p, vs, _, rfl, rfl, f4, g, s σ _ Z (ok.rewrite hi f1 ?_)⟩
      rw [List.dropLast_eq_take, List.dropLast_eq_take, hl]
      exact f5.take _
  · exact s.elim
/-- x[k] = e -/
def sPutIx (i : Nat) (gk : GE) (g : GE) (ρ : Rho) : O := (g ρ).to fun d ρ1 => if isOw ρ1[i]? then (gk ρ1).to fun k ρ2 => match k, ρ2[i]? with
    | .int k, some (.ow ds) => (match ixN ds.length k with
      | some j => .nx (ρ2.set i (.ow (ds.set j d)))
      | none => .bad)
    | _, _ => .bad
  else .bad
theorem ds_putIx {i : Nat} {gk g : GE} (h : DE K te g) (hk : DE K tb gk) : DS K Wx (tAsg te (gSub (tVar i) tb rSetL)) (sPutIx i gk g) := fun b0 B Z0 Z H σ ρ E ok s => by
  unfold sPutIx at s
  obtain ⟨d, ρ1, e1, s⟩ := Sat.to s
  refine h b0 B Z0 Z H σ ρ d ρ1 _ ok e1 fun v H1 Z1 ok1 s1 r1 => ?_
  split at s
  · rename_i h0
    obtain ⟨p, vs0, e0, hp0⟩ := ok1.isOw h0
    obtain ⟨k, ρ2, e2, s⟩ := Sat.to s
    split at s
    · rename_i k' ds hi
      split at s
      · rename_i j hj
        refine ⟨.ref p, e0, ?_⟩
        refine hk b0 B Z0 Z1 H1 σ ρ1 _ ρ2 _ ok1 e2 fun w H2 Z2 ok2 s2 r2 => ?_
        cases r2
        obtain ⟨q, vs, f1, f2, f3, f4, f5⟩ := ok2.ow i ds hi
        rw [e0] at f1
        cases f1
        exact ⟨p, vs, k', j, rfl, rfl, f4, by rw [f5.length]; exact hj, s σ _ Z2 (ok2.rewrite hi e0 (f5.set (r1.mono s2) j))⟩
      · exact s.elim
    · exact s.elim
  · exact s.elim
/-! ### x op= e -/
def SnIp (K : PySem.W.Frag) (r : TIp) (f : D → D → Option D) : Prop := ∀ b0 B Z0 Z H σ ρ x y a b c (Q : VK), Ok K b0 B Z0 Z H σ ρ → Rp K Z x a → Rp K Z y b → f a b = some c → (∀ v H' Z', Ok K b0 B Z0 Z' H' σ ρ → Same Z Z' → Rp K Z' v c → Q v H') → r x y H Q
def sAug (i : Nat) (f : D → D → Option D) (g : GE) (ρ : Rho) : O := match ρ[i]? with
  | some (.sh a) => (g ρ).to fun b ρ1 => match f a b with
    | some c => .nx (ρ1.set i (.sh c))
    | none => .bad
  | _ => .bad
theorem ds_aug {i : Nat} {r : TIp} {f : D → D → Option D} {g : GE} (sn : SnIp K r f) (h : DE K te g) : DS K Wx (tAug i te r) (sAug i f g) := fun b0 B Z0 Z H σ ρ E ok s => by
  unfold sAug at s
  split at s
  · rename_i a hi
    obtain ⟨b, ρ1, e1, s⟩ := Sat.to s
    split at s
    · rename_i c hc
      obtain ⟨v, e0, r0⟩ := ok.sh i a hi
      refine ⟨v, e0, ?_⟩
      refine h b0 B Z0 Z H σ ρ b ρ1 _ ok e1 fun w H1 Z1 ok1 s1 r1 => ?_
      exact sn b0 B Z0 Z1 H1 σ ρ1 v w a b c _ ok1 (r0.mono s1) r1 hc fun u H2 Z2 ok2 s2 r2 => s _ H2 Z2 (ok2.put r2)
    · exact s.elim
  · exact s.elim
def iAdd : D → D → Option D
  | .int i, .int j => some (.int (i + j))
  | _, _ => none
def iSub : D → D → Option D
  | .int i, .int j => some (.int (i - j))
  | _, _ => none
theorem sn_ipAdd : SnIp K (ipI fun i j => i + j) iAdd := fun b0 B Z0 Z H σ ρ x y a b c Q ok ra rb e q => by
  unfold iAdd at e
  split at e
  · cases e; cases ra; cases rb
    exact ⟨_, _, rfl, rfl, q _ H Z ok (Same.refl Z) (.int _)⟩
  · cases e
theorem sn_ipSub : SnIp K (ipI fun i j => i - j) iSub := fun b0 B Z0 Z H σ ρ x y a b c Q ok ra rb e q => by
  unfold iSub at e
  split at e
  · cases e; cases ra; cases rb
    exact ⟨_, _, rfl, rfl, q _ H Z ok (Same.refl Z) (.int _)⟩
  · cases e
/-! ### loops -/
structure Wk (K : PySem.W.Frag) (J : It) (Z : Hp) (ds : List D) : Prop where
  goes : ∀ i H, i < ds.length → Same Z H → J.go i H
  stops : ∀ H, Same Z H → J.stop ds.length H
  yields : ∀ i H x H', i < ds.length → J.yld i H x H' → ∀ b0 B Z0 Z' σ ρ, Ok K b0 B Z0 Z' H σ ρ → Same Z Z' → ∃ Z'' d, Ok K b0 B Z0 Z'' H' σ ρ ∧ Same Z' Z'' ∧ ds[i]? = some d ∧ Rp K Z'' x d
def DI (K : PySem.W.Frag) (t : TI) (g : GF) : Prop := ∀ b0 B Z0 Z H σ ρ ds ρ' (R : It → Hp → Prop), Ok K b0 B Z0 Z H σ ρ → g ρ = .ok ds ρ' → (∀ J H' Z', Ok K b0 B Z0 Z' H' σ ρ' → Same Z Z' → Wk K J Z' ds → R J H') → t σ H R
def forL (k : GG) (b : GS) : List D → Rho → O
  | [], ρ => .nx ρ
  | d :: ds, ρ => match k d ρ with
    | none => .bad
    | some ρ1 => match b ρ1 with
      | .nx ρ2 => forL k b ds ρ2
      | .ct ρ2 => forL k b ds ρ2
      | .bk ρ2 => .nx ρ2
      | o => o
def sFor (gi : GF) (k : GG) (b : GS) (ρ : Rho) : O := (gi ρ).to fun ds ρ1 => forL k b ds ρ1
theorem ds_for {ti : TI} {tg : TG} {tb : TS} {ws : List Nat} {gi : GF} {k : GG} {b : GS} (hi : DI K ti gi) (hk : DG K ws tg k) (hb : DS K Wx tb b) : DS K Wx (tFor ti tg tb) (sFor gi k b) := fun b0 B Z0 Z H σ ρ E ok s => by
  obtain ⟨ds, ρ1, e1, s⟩ := Sat.to s
  refine hi b0 B Z0 Z H σ ρ ds ρ1 _ ok e1 fun J H1 Z1 ok1 s1 wk => ?_
  have W : Walk J ds.length (fun H => Same Z1 H) (fun i H x H' => J.yld i H x H') := ⟨wk.goes, wk.stops, fun _ _ _ _ _ _ y => y⟩
  refine for_it W (fun i σ H => ∃ Z ρ, Ok K b0 (joinH B Z1) Z1 Z H σ ρ ∧ Sat K Wx b0 (joinH B Z1) Z1 E (forL k b (ds.drop i) ρ)) ⟨Z1, ρ1, ok1.enter, ?_⟩ (fun i σ H _ h => ?_) (fun i x σ H H' hlt h y => ?_) (fun σ H h => ?_)
  · rw [List.drop_zero]
    exact Sat.leave ok1 s
  · obtain ⟨Z, ρ, ok, _⟩ := h
    exact ok.zz.trans ok.zh
  · obtain ⟨Z2, ρ2, ok2, sat⟩ := h
    obtain ⟨Z3, d, ok3, s3, hd, rd⟩ := wk.yields i H x H' hlt y _ _ _ _ _ _ ok2 ok2.zz
    have ed : ds.drop i = d :: ds.drop (i + 1) := by
      obtain ⟨hl, e⟩ := List.getElem?_eq_some_iff.mp hd
      rw [← e]
      exact List.drop_eq_getElem_cons hl
    rw [ed] at sat
    unfold forL at sat
    split at sat
    · exact sat.elim
    · rename_i ρ3 hk3
      refine hk _ _ _ Z3 H' σ ρ2 x d ρ3 _ ok3 rd hk3 fun σ3 ok4 _ => ?_
      refine hb _ _ _ Z3 H' σ3 ρ3 _ ok4 ?_
      split at sat
      · rename_i ρ4 e4; rw [e4]; exact fun σ4 H4 Z4 ok5 => ⟨Z4, ρ4, ok5, sat⟩
      · rename_i ρ4 e4; rw [e4]; exact fun σ4 H4 Z4 ok5 => ⟨Z4, ρ4, ok5, sat⟩
      · rename_i ρ4 e4; rw [e4]; exact sat
      · rename_i o h1 h2 h3
        generalize b ρ3 = o' at *
        cases o' with
        | nx ρ' => exact absurd rfl (h1 ρ')
        | ct ρ' => exact absurd rfl (h2 ρ')
        | bk ρ' => exact absurd rfl (h3 ρ')
        | rt d ρ' => exact sat
        | rf ds ρ' => exact sat
        | ex c d ρ' => exact sat
        | bad => exact sat.elim
  · obtain ⟨Z2, ρ2, ok2, sat⟩ := h
    rw [List.drop_length] at sat
    exact sat σ H Z2 ok2
def whileL (c : GT) (b : GS) : Nat → Rho → O
  | 0, _ => .bad
  | n + 1, ρ => (c ρ).to fun k ρ1 => if k then (match b ρ1 with
      | .nx ρ2 => whileL c b n ρ2
      | .ct ρ2 => whileL c b n ρ2
      | .bk ρ2 => .nx ρ2
      | o => o) else .nx ρ1
theorem ds_while {n : Nat} {tb : TS} {c : GT} {b : GS} (hc : DT K tt c) (hb : DS K Wx tb b) : DS K Wx (tWhile tt tb) (whileL c b n) := fun b0 B Z0 Z H σ ρ E ok s => by
  refine ⟨fun m σ H => ∃ Z ρ, Ok K b0 B Z0 Z H σ ρ ∧ Sat K Wx b0 B Z0 E (whileL c b m ρ), ⟨n, Z, ρ, ok, s⟩, fun m σ H h => ?_⟩
  obtain ⟨Z1, ρ1, ok1, sat⟩ := h
  cases m with
  | zero => exact sat.elim
  | succ m =>
    unfold whileL at sat
    obtain ⟨k, ρ2, e2, sat⟩ := Sat.to sat
    refine hc b0 B Z0 Z1 H σ ρ1 k ρ2 _ ok1 e2 fun H2 Z2 ok2 _ => ?_
    cases k with
    | false => exact sat σ H2 Z2 ok2
    | true =>
      refine ⟨fun σ H => ∃ Z ρ, Ok K b0 B Z0 Z H σ ρ ∧ Sat K Wx b0 B Z0 E (whileL c b m ρ), fun σ' H' h => ⟨m, Nat.lt_succ_self m, h⟩, ?_⟩
      refine hb _ _ _ Z2 H2 σ ρ2 _ ok2 ?_
      simp only [if_true] at sat
      split at sat
      · rename_i ρ4 e4; rw [e4]; exact fun σ4 H4 Z4 ok5 => ⟨Z4, ρ4, ok5, sat⟩
      · rename_i ρ4 e4; rw [e4]; exact fun σ4 H4 Z4 ok5 => ⟨Z4, ρ4, ok5, sat⟩
      · rename_i ρ4 e4; rw [e4]; exact sat
      · rename_i o h1 h2 h3
        generalize b ρ2 = o' at *
        cases o' with
        | nx ρ' => exact absurd rfl (h1 ρ')
        | ct ρ' => exact absurd rfl (h2 ρ')
        | bk ρ' => exact absurd rfl (h3 ρ')
        | rt d ρ' => exact sat
        | rf ds ρ' => exact sat
        | ex c d ρ' => exact sat
        | bad => exact sat.elim
end
end DL

namespace DL
open PySem L2
section
variable {K : PySem.W.Frag} {Wx : WX} {ta tb te : TE} {tt tu : TT} {tas : TA} {t u : TS} {b0 : Option Addr} {B Z0 Z H : Hp} {σ : L2.St} {ρ : Rho} {E : Ends} {p : Addr} {o o' : HO}
/-! ### comprehensions -/
def wipeR (ρ : Rho) : List Nat → Rho
  | [] => ρ
  | v :: vs => (wipeR ρ vs).set v .no
theorem wipeR_len : ∀ (vs : List Nat), (wipeR ρ vs).length = ρ.length
  | [] => rfl
  | v :: vs => by unfold wipeR; rw [List.length_set, wipeR_len vs]
theorem wipeR_get {i : Nat} {s : Sl} : ∀ {vs : List Nat}, (wipeR ρ vs)[i]? = some s → s = .no ∨ (i ∉ vs ∧ ρ[i]? = some s)
  | [], h => .inr ⟨by simp, h⟩
  | v :: vs, h => by
    unfold wipeR at h
    rcases set_get h with ⟨_, e⟩ | ⟨n, e⟩
    · exact .inl e.symm
    · rcases wipeR_get e with z | ⟨z1, z2⟩
      · exact .inl z
      · exact .inr ⟨fun z => (List.mem_cons.mp z).elim (fun y => n y.symm) z1, z2⟩
theorem wipe_get {i : Nat} : ∀ {vs : List Nat}, i ∉ vs → (wipe σ vs)[i]? = σ[i]?
  | [], _ => rfl
  | v :: vs, h => by
    unfold wipe
    rw [List.getElem?_set_ne (fun z => h (by rw [z]; exact List.mem_cons_self)), wipe_get fun z => h (List.mem_cons_of_mem _ z)]
theorem Ok.wipe (vs : List Nat) (ok : Ok K b0 B Z0 Z H σ ρ) : Ok K b0 B Z0 Z H (wipe σ vs) (wipeR ρ vs) :=
  ok.weak (by rw [wipe_length, wipeR_len]; exact ok.len) fun i s h => (wipeR_get h).imp id fun z => ⟨z.2, wipe_get z.1⟩
theorem Ok.unwipe (vs : List Nat) (ok : Ok K b0 B Z0 Z H (L2.wipe σ vs) ρ) : Ok K b0 B Z0 Z H σ (wipeR ρ vs) :=
  ok.weak (by rw [wipeR_len, ← ok.len, wipe_length]) fun i s h => (wipeR_get h).imp id fun z => ⟨z.2, (wipe_get z.1).symm⟩
theorem wipe_wipe (σ : L2.St) (vs : List Nat) : L2.wipe (L2.wipe σ vs) vs = L2.wipe σ vs := by
  apply List.ext_getElem?
  intro i
  by_cases h : i ∈ vs
  · have e : ∀ (τ : L2.St) (ws : List Nat), i ∈ ws → (L2.wipe τ ws)[i]? = if i < τ.length then some none else none := by
      intro τ ws
      induction ws with
      | nil => intro h; cases h
      | cons w ws ih =>
        intro h
        unfold L2.wipe
        by_cases hw : w = i
        · subst hw
          by_cases hl : w < τ.length
          · rw [List.getElem?_set_self (by rw [wipe_length]; exact hl), if_pos hl]
          · rw [if_neg hl, List.getElem?_eq_none (by rw [List.length_set, wipe_length]; omega)]
        · rw [List.getElem?_set_ne hw]
          exact ih ((List.mem_cons.mp h).resolve_left fun z => hw z.symm)
    rw [e _ _ h, e _ _ h, wipe_length]
  · rw [wipe_get h]
def gYes (ρ : Rho) : R Bool := .ok true ρ
theorem dt_yes : DT K tYes gYes := fun b0 B Z0 Z H σ ρ b ρ' Q ok e q => by
  cases e
  exact q H Z ok (Same.refl Z)
def lcL (vs : List Nat) (k : GG) (t : GT) (e : GE) : List D → Rho → R (List D)
  | [], ρ => .ok [] ρ
  | d :: ds, ρ => match k d ρ with
    | none => .bad
    | some ρ1 => (t ρ1).bind fun b ρ2 => if b then (e ρ2).bind fun y ρ3 => (lcL vs k t e ds (wipeR ρ3 vs)).map (y :: ·) else lcL vs k t e ds (wipeR ρ2 vs)
def eLc (vs : List Nat) (gi : GF) (k : GG) (t : GT) (e : GE) (ρ : Rho) : R (List D) := (gi ρ).bind fun ds ρ1 => if ds.length ≤ sizeLine then (lcL vs k t e ds (wipeR ρ1 vs)).bind fun ys ρ2 => .ok ys (wipeR ρ2 vs) else .bad
theorem df_lc {ti : TI} {tg : TG} {vs : List Nat} {gi : GF} {k : GG} {gt : GT} {ge : GE} (hi : DI K ti gi) (hk : DG K vs tg k) (ht : DT K tt gt) (he : DE K te ge) : DF K (tLc ti tg tt te vs) (eLc vs gi k gt ge) := fun b0 B Z0 Z H σ ρ ys ρ' Q ok e q => by
  obtain ⟨ds, ρ1, e1, e2⟩ := R.bind_ok e
  split at e2
  · rename_i hsz
    obtain ⟨ys', ρ2, e3, e4⟩ := R.bind_ok e2
    cases e4
    refine hi b0 B Z0 Z H σ ρ ds ρ1 _ ok e1 fun J H1 Z1 ok1 s1 wk => fun D hD => ?_
    have W : Walk J ds.length (fun H => Same Z1 H) (fun i H x H' => J.yld i H x H') := ⟨wk.goes, wk.stops, fun _ _ _ _ _ _ y => y⟩
    have bD : B D = none := ok1.bh.free hD
    have zD : Z0 D = none := ok1.zz.free (ok1.zh.free hD)
    refine lc_it W (fun i H => ∃ Z ρ acc da rest, Ok K b0 (upd B D (.lst acc)) Z0 Z H (wipe σ vs) ρ ∧ Same Z1 Z ∧ RpA K Z acc da ∧ acc.length ≤ i ∧ lcL vs k gt ge (ds.drop i) ρ = .ok rest ρ2 ∧ ys = da ++ rest) ?_ (fun i H _ h => ?_) (fun i x H H' hlt h y => ?_) (fun H h => ?_)
    · obtain ⟨okf, zf, bf, af⟩ := ok1.fresh (o := .lst []) hD
      have okw := okf.frame zf af upd_same
      refine ⟨Z1, wipeR ρ1 vs, [], [], ys, okw.wipe vs, Same.refl Z1, .nil, Nat.le_refl 0, ?_, rfl⟩
      rw [List.drop_zero]
      exact e3
    · obtain ⟨Z2, ρ2, acc, da, rest, ok2, s2, _⟩ := h
      exact s2.trans ok2.zh
    · obtain ⟨Z2, ρ2', acc, da, rest, ok2, s2, ra, hl, el, ey⟩ := h
      obtain ⟨Z3, d, ok3, s3, hd, rd⟩ := wk.yields i H x H' hlt y _ _ _ _ _ _ ok2 s2
      have ed : ds.drop i = d :: ds.drop (i + 1) := by
        obtain ⟨hl, e⟩ := List.getElem?_eq_some_iff.mp hd
        rw [← e]
        exact List.drop_eq_getElem_cons hl
      rw [ed] at el
      unfold lcL at el
      split at el
      · cases el
      · rename_i ρ3 hk3
        refine hk _ _ _ Z3 H' (wipe σ vs) ρ2' x d ρ3 _ ok3 rd hk3 fun σ3 ok4 w4 => ⟨w4.trans (wipe_wipe σ vs), ?_⟩
        obtain ⟨b, ρ4, e4, el⟩ := R.bind_ok el
        refine ht _ _ _ Z3 H' σ3 ρ3 b ρ4 _ ok4 e4 fun H5 Z5 ok5 s5 => ?_
        cases b with
        | false =>
          refine ⟨Z5, wipeR ρ4 vs, acc, da, rest, ?_, (s2.trans s3).trans s5, (ra.mono s3).mono s5, Nat.le_succ_of_le hl, el, ey⟩
          have := ok5.wipe vs
          rw [w4, wipe_wipe] at this
          exact this
        | true =>
          obtain ⟨yv, ρ5, e5, el⟩ := R.bind_ok el
          obtain ⟨rest', e6, rfl⟩ := R.map_ok el
          refine he _ _ _ Z5 H5 σ3 ρ4 yv ρ5 _ ok5 e5 fun v H6 Z6 ok6 s6 r6 => ?_
          obtain ⟨_, hz6, ap6, hp6⟩ := ok6.unframe zD bD
          refine ⟨acc, hp6, by omega, Z6, wipeR ρ5 vs, acc ++ [v], da ++ [yv], rest', ?_, ((s2.trans s3).trans s5).trans s6, (((ra.mono s3).mono s5).mono s6).append (.one r6), ?_, e6, ?_⟩
          · have := (ok6.reframe (o' := .lst (acc ++ [v])) zD bD).wipe vs
            rw [w4, wipe_wipe] at this
            exact this
          · rw [List.length_append, List.length_singleton]; omega
          · rw [ey, List.append_assoc]; rfl
    · obtain ⟨Z2, ρ2', acc, da, rest, ok2, s2, ra, hl, el, ey⟩ := h
      rw [List.drop_length] at el
      cases el
      obtain ⟨ok3, hz, ap, hp⟩ := ok2.unframe zD bD
      have ok4 := ok3.unwipe vs
      rw [List.append_nil] at ey
      subst ey
      refine q D acc H Z2 ok4 (s1.trans s2) hz bD (fun i es hi hq => ?_) hp ra
      rcases wipeR_get hi with z | ⟨z1, z2⟩
      · cases z
      · exact ap i es z2 (by rw [wipe_get z1]; exact hq)
  · cases e2
end
end DL

namespace DL
open PySem L2
section
variable {K : PySem.W.Frag} {Wx : WX} {ta tb te : TE} {tt tu : TT} {tas : TA} {t u : TS} {b0 : Option Addr} {B Z0 Z H : Hp} {σ : L2.St} {ρ : Rho} {p : Addr} {o o' : HO}
/-! ### defs: promises about data -/
/-- what a caller hears of the frozen heap behind a call -/
def Grow (H Z Z' H' : Hp) : Prop := Same Z Z' ∧ Same Z' H' ∧ ∀ p o, Z' p = some o → Z p = some o ∨ H p = none
/-- a def that hands back data and changes nothing -/
def spP (K : PySem.W.Frag) (np : Nat) (F : List D → Option D) : Sp := fun vs H Q _ => vs.length = np ∧ ∃ Z ds d, Same Z H ∧ RpA K Z vs ds ∧ F ds = some d ∧ ∀ v H' Z', Same H H' → Grow H Z Z' H' → Rp K Z' v d → Q v H'
/-- .. a new list -/
def spF (K : PySem.W.Frag) (np : Nat) (F : List D → Option (List D)) : Sp := fun vs H Q _ => vs.length = np ∧ ∃ Z ds es, Same Z H ∧ RpA K Z vs ds ∧ F ds = some es ∧ ∀ p ws H' Z', Same H H' → Grow H Z Z' H' → H p = none → Z' p = none → H' p = some (.lst ws) → RpA K Z' ws es → Q (.ref p) H'
/-- a def whose first parameter is a list that it may change -/
def spB (K : PySem.W.Frag) (np : Nat) (F : List D → List D → Option (D × List D)) : Sp := fun vs H Q _ => vs.length = np ∧ ∃ Z b vb box rest ds d box', vs = .ref b :: rest ∧ Same Z H ∧ Z b = none ∧ H b = some (.lst vb) ∧ RpA K Z vb box ∧ RpA K Z rest ds ∧ F box ds = some (d, box') ∧
  ∀ v H' Z' vb', (∀ p o, p ≠ b → H p = some o → H' p = some o) → Grow H Z Z' H' → Z' b = none → H' b = some (.lst vb') → RpA K Z' vb' box' → Rp K Z' v d → Q v H'
def spBF (K : PySem.W.Frag) (np : Nat) (F : List D → List D → Option (List D × List D)) : Sp := fun vs H Q _ => vs.length = np ∧ ∃ Z b vb box rest ds es box', vs = .ref b :: rest ∧ Same Z H ∧ Z b = none ∧ H b = some (.lst vb) ∧ RpA K Z vb box ∧ RpA K Z rest ds ∧ F box ds = some (es, box') ∧
  ∀ p ws H' Z' vb', (∀ p o, p ≠ b → H p = some o → H' p = some o) → Grow H Z Z' H' → Z' b = none → H' b = some (.lst vb') → RpA K Z' vb' box' → H p = none → Z' p = none → H' p = some (.lst ws) → RpA K Z' ws es → Q (.ref p) H'
/-! the functions that a body computes: n slots -/
def env0 (n : Nat) (args : List D) : Rho := args.map .sh ++ List.replicate (n - args.length) .no
def envB (n : Nat) (box : List D) (args : List D) : Rho := .ow box :: (args.map .sh ++ List.replicate (n - (args.length + 1)) .no)
def callP (np n : Nat) (g : GS) : List D → Option D := fun args => if args.length ≠ np then none else match g (env0 n args) with
  | .rt d _ => some d
  | .nx _ => some .none
  | .rf ds _ => some (.list ds)
  | _ => none
def callF (np n : Nat) (g : GS) : List D → Option (List D) := fun args => if args.length ≠ np then none else match g (env0 n args) with
  | .rf ds _ => some ds
  | _ => none
def box0 (ρ : Rho) : Option (List D) := match (ρ[0]? : Option Sl) with
  | some (.ow b) => some b
  | _ => none
def callB (np n : Nat) (g : GS) : List D → List D → Option (D × List D) := fun box args => if args.length + 1 ≠ np then none else match g (envB n box args) with
  | .rt d ρ => (box0 ρ).map (d, ·)
  | .nx ρ => (box0 ρ).map (.none, ·)
  | .rf ds ρ => (box0 ρ).map (.list ds, ·)
  | _ => none
def callBF (np n : Nat) (g : GS) : List D → List D → Option (List D × List D) := fun box args => if args.length + 1 ≠ np then none else match g (envB n box args) with
  | .rf ds ρ => (box0 ρ).map (ds, ·)
  | _ => none
theorem args_get {vs : List V} {ds : List D} {n m i : Nat} {s : Sl} (r : RpA K Z vs ds) (h : (ds.map Sl.sh ++ List.replicate m .no)[i]? = some s) : s = .no ∨ ∃ d v, s = .sh d ∧ (vs.map some ++ List.replicate n none)[i]? = some (some v) ∧ Rp K Z v d := by
  by_cases hi : i < ds.length
  · rw [List.getElem?_append_left (by rw [List.length_map]; exact hi), List.getElem?_map] at h
    obtain ⟨d, hd, rfl⟩ := Option.map_eq_some_iff.mp h
    obtain ⟨v, hv, rv⟩ := r.get hd
    refine .inr ⟨d, v, rfl, ?_, rv⟩
    rw [List.getElem?_append_left (by rw [List.length_map, r.length]; exact hi), List.getElem?_map, hv]
    rfl
  · rw [List.getElem?_append_right (by rw [List.length_map]; omega), List.getElem?_replicate] at h
    split at h
    · exact .inl (Option.some.inj h).symm
    · cases h
theorem ok_start {N : List Str} {vs : List V} {ds : List D} (s : Same Z H) (r : RpA K Z vs ds) (hn : vs.length ≤ N.length) : Ok K none H Z Z H (L2.start N vs) (env0 N.length ds) := by
  unfold L2.start env0
  refine ⟨?_, Same.refl H, s, Same.refl Z, fun _ _ e => .inl e, fun i d h => ?_, fun i ds' h => ?_, (fun _ z => nomatch z), fun i j p as bs h _ _ _ => ?_⟩
  · rw [List.length_append, List.length_append, List.length_map, List.length_map, List.length_replicate, List.length_replicate, r.length]
  · rcases args_get (n := N.length - vs.length) r h with z | ⟨d', v, e, e2, rv⟩
    · cases z
    · cases e; exact ⟨v, e2, rv⟩
  · rcases args_get (n := N.length - vs.length) r h with z | ⟨d', v, e, e2, rv⟩
    · cases z
    · cases e
  · rcases args_get (n := N.length - vs.length) r h with z | ⟨d', v, e, e2, rv⟩
    · cases z
    · cases e
/-- a body that reads as g keeps the promise -/
theorem run_P {N : List Str} {np : Nat} {g : GS} {vs : List V} {Q : VK} {E : XK} (h : DS K (fun _ _ _ _ => False) t g) (hk : np ≤ N.length) (hs : spP K np (callP np N.length g) vs H Q E) : t { nx := fun _ H' => Q .non H', rt := Q } (L2.start N vs) H := by
  obtain ⟨hl, Z, ds, d, sZ, ra, e, q⟩ := hs
  have ok := ok_start (N := N) sZ ra (by omega)
  refine h _ _ _ _ _ _ _ _ ok ?_
  unfold callP at e
  split at e
  · cases e
  split at e
  · rename_i d' ρ' e'
    cases e
    rw [e']
    exact fun v σ' H' Z' ok' r => q v H' Z' ok'.bh ⟨ok'.zz, ok'.zh, ok'.nb⟩ r
  · rename_i ρ' e'
    cases e
    rw [e']
    exact fun σ' H' Z' ok' => q .non H' Z' ok'.bh ⟨ok'.zz, ok'.zh, ok'.nb⟩ .non
  · rename_i ds' ρ' e'
    cases e
    rw [e']
    intro p ws σ' H' Z' ok' zp bp ap hp r
    obtain ⟨ok2, s2⟩ := ok'.freeze zp bp ap hp
    exact q (.ref p) H' _ ok2.bh ⟨ok2.zz, ok2.zh, ok2.nb⟩ (.lst upd_same (r.mono s2))
  · cases e
theorem run_F {N : List Str} {np : Nat} {g : GS} {vs : List V} {Q : VK} {E : XK} (h : DS K (fun _ _ _ _ => False) t g) (hk : np ≤ N.length) (hs : spF K np (callF np N.length g) vs H Q E) : t { nx := fun _ H' => Q .non H', rt := Q } (L2.start N vs) H := by
  obtain ⟨hl, Z, ds, d, sZ, ra, e, q⟩ := hs
  have ok := ok_start (N := N) sZ ra (by omega)
  refine h _ _ _ _ _ _ _ _ ok ?_
  unfold callF at e
  split at e
  · cases e
  split at e
  · rename_i ds' ρ' e'
    cases e
    rw [e']
    intro p ws σ' H' Z' ok' zp bp ap hp r
    exact q p ws H' Z' ok'.bh ⟨ok'.zz, ok'.zh, ok'.nb⟩ bp zp hp r
  · cases e
/-- H without b -/
def but (H : Hp) (b : Addr) : Hp := fun p => if p = b then none else H p
theorem but_same {b : Addr} : but H b b = none := if_pos rfl
theorem but_ne {b q : Addr} (h : q ≠ b) : but H b q = H q := if_neg h
theorem but_le {b : Addr} : Same (but H b) H := fun q o e => by
  by_cases hq : q = b
  · rw [hq, but_same] at e; cases e
  · rw [but_ne hq] at e; exact e
theorem ok_startB {N : List Str} {b : Addr} {vb rest : List V} {box ds : List D} (s : Same Z H) (zb : Z b = none) (hb : H b = some (.lst vb)) (rb : RpA K Z vb box) (r : RpA K Z rest ds) (hn : rest.length + 1 ≤ N.length) : Ok K (some b) (but H b) Z Z H (L2.start N (.ref b :: rest)) (envB N.length box ds) := by
  have len : (L2.start N (.ref b :: rest)) = some (.ref b) :: (rest.map some ++ List.replicate (N.length - (rest.length + 1)) none) := rfl
  rw [len]
  unfold envB
  have zb' : ∀ q o, Z q = some o → (Z q = some o ∨ but H b q = none) := fun q o e => .inl e
  have G : ∀ {i : Nat} {s : Sl}, (Sl.ow box :: (ds.map Sl.sh ++ List.replicate (N.length - (ds.length + 1)) .no))[i]? = some s → (i = 0 ∧ s = .ow box) ∨ s = .no ∨ ∃ j d v, i = j + 1 ∧ s = .sh d ∧ (rest.map some ++ List.replicate (N.length - (rest.length + 1)) none)[j]? = some (some v) ∧ Rp K Z v d := by
    intro i s h
    cases i with
    | zero => exact .inl ⟨rfl, (Option.some.inj h).symm⟩
    | succ j =>
      rw [List.getElem?_cons_succ] at h
      rcases args_get (n := N.length - (rest.length + 1)) r h with z | ⟨d', v, e, e2, rv⟩
      · exact .inr (.inl z)
      · exact .inr (.inr ⟨j, d', v, rfl, e, e2, rv⟩)
  refine ⟨?_, but_le, s, Same.refl Z, zb', fun i d h => ?_, fun i ds' h => ?_, fun a ha ds' h => by cases ha; rfl, fun i j p as bs h h' _ _ => ?_⟩
  · simp only [List.length_cons, List.length_append, List.length_map, List.length_replicate, r.length]
  · rcases G h with ⟨_, z⟩ | z | ⟨j, d', v, rfl, e, e2, rv⟩
    · cases z
    · cases z
    · cases e; exact ⟨v, by rw [List.getElem?_cons_succ]; exact e2, rv⟩
  · rcases G h with ⟨rfl, z⟩ | z | ⟨j, d', v, rfl, e, e2, rv⟩
    · cases z; exact ⟨b, vb, rfl, zb, but_same, hb, rb⟩
    · cases z
    · cases e
  · rcases G h with ⟨rfl, z⟩ | z | ⟨j, d', v, rfl, e, e2, rv⟩
    · rcases G h' with ⟨rfl, z⟩ | z | ⟨j, d', v, rfl, e, e2, rv⟩
      · rfl
      · cases z
      · cases e
    · cases z
    · cases e
theorem box0_ok {b : Addr} {Z' H' : Hp} {σ' : L2.St} {ρ' : Rho} {box' : List D} (ok : Ok K (some b) (but H b) Z0 Z' H' σ' ρ') (h : box0 ρ' = some box') : ∃ vb', Z' b = none ∧ H' b = some (.lst vb') ∧ RpA K Z' vb' box' := by
  unfold box0 at h
  split at h
  · rename_i b' e
    cases h
    obtain ⟨q, vs, e1, e2, e3, e4, e5⟩ := ok.ow 0 _ e
    have z := ok.fix b rfl _ e
    rw [e1] at z
    cases z
    exact ⟨vs, e2, e4, e5⟩
  · cases h
theorem but_nb {b : Addr} {Z' : Hp} (zb : Z' b = none) (h : ∀ p o, Z' p = some o → Z p = some o ∨ but H b p = none) : ∀ p o, Z' p = some o → Z p = some o ∨ H p = none := fun p o e => by
  rcases h p o e with z | z
  · exact .inl z
  · have n : p ≠ b := ne_of_none e zb
    rw [but_ne n] at z
    exact .inr z
theorem but_bh {b : Addr} {H' : Hp} (h : Same (but H b) H') : ∀ p o, p ≠ b → H p = some o → H' p = some o := fun p o n e => h p o (by rw [but_ne n]; exact e)
theorem run_B {N : List Str} {np : Nat} {g : GS} {vs : List V} {Q : VK} {E : XK} (h : DS K (fun _ _ _ _ => False) t g) (hk : np ≤ N.length) (hs : spB K np (callB np N.length g) vs H Q E) : t { nx := fun _ H' => Q .non H', rt := Q } (L2.start N vs) H := by
  obtain ⟨hl, Z, b, vb, box, rest, ds, d, box', rfl, sZ, zb, hb, rb, ra, e, q⟩ := hs
  have ok := ok_startB (N := N) sZ zb hb rb ra (by rw [List.length_cons] at hl; omega)
  refine h _ _ _ _ _ _ _ _ ok ?_
  unfold callB at e
  split at e
  · cases e
  split at e
  · rename_i d' ρ' e'
    obtain ⟨bx, e1, e2⟩ := Option.map_eq_some_iff.mp e
    cases e2
    rw [e']
    intro v σ' H' Z' ok' r
    obtain ⟨vb', z1, z2, z3⟩ := box0_ok ok' e1
    exact q v H' Z' vb' (but_bh ok'.bh) ⟨ok'.zz, ok'.zh, but_nb z1 ok'.nb⟩ z1 z2 z3 r
  · rename_i ρ' e'
    obtain ⟨bx, e1, e2⟩ := Option.map_eq_some_iff.mp e
    cases e2
    rw [e']
    intro σ' H' Z' ok'
    obtain ⟨vb', z1, z2, z3⟩ := box0_ok ok' e1
    exact q .non H' Z' vb' (but_bh ok'.bh) ⟨ok'.zz, ok'.zh, but_nb z1 ok'.nb⟩ z1 z2 z3 .non
  · rename_i ds' ρ' e'
    obtain ⟨bx, e1, e2⟩ := Option.map_eq_some_iff.mp e
    cases e2
    rw [e']
    intro p ws σ' H' Z' ok' zp bp ap hp r
    obtain ⟨ok2, s2⟩ := ok'.freeze zp bp ap hp
    obtain ⟨vb', z1, z2, z3⟩ := box0_ok ok2 e1
    exact q (.ref p) H' _ vb' (but_bh ok2.bh) ⟨ok2.zz, ok2.zh, but_nb z1 ok2.nb⟩ z1 z2 z3 (.lst upd_same (r.mono s2))
  · cases e
theorem run_BF {N : List Str} {np : Nat} {g : GS} {vs : List V} {Q : VK} {E : XK} (h : DS K (fun _ _ _ _ => False) t g) (hk : np ≤ N.length) (hs : spBF K np (callBF np N.length g) vs H Q E) : t { nx := fun _ H' => Q .non H', rt := Q } (L2.start N vs) H := by
  obtain ⟨hl, Z, b, vb, box, rest, ds, d, box', rfl, sZ, zb, hb, rb, ra, e, q⟩ := hs
  have ok := ok_startB (N := N) sZ zb hb rb ra (by rw [List.length_cons] at hl; omega)
  refine h _ _ _ _ _ _ _ _ ok ?_
  unfold callBF at e
  split at e
  · cases e
  split at e
  · rename_i ds' ρ' e'
    obtain ⟨bx, e1, e2⟩ := Option.map_eq_some_iff.mp e
    cases e2
    rw [e']
    intro p ws σ' H' Z' ok' zp bp ap hp r
    obtain ⟨vb', z1, z2, z3⟩ := box0_ok ok' e1
    have hpn : H p = none := by
      by_cases hpb : p = b
      · subst hpb
        -- p is the box itself: it is owned in slot 0, p is apart from it
        exfalso
        unfold box0 at e1
        split at e1
        · rename_i b' e0
          exact ap 0 _ e0 (ok'.fix p rfl _ e0)
        · cases e1
      · rw [but_ne hpb] at bp; exact bp
    exact q p ws H' Z' vb' (but_bh ok'.bh) ⟨ok'.zz, ok'.zh, but_nb z1 ok'.nb⟩ z1 z2 z3 hpn zp hp r
  · cases e
/-! ### calls -/
def flatD : D → Bool
  | .none => true
  | .bool _ => true
  | .int _ => true
  | .str _ => true
  | _ => false
theorem flat_rp {v : V} {d : D} {Z Z' : Hp} (h : flatD d = true) (r : Rp K Z v d) : Rp K Z' v d := by
  cases r with
  | non => exact .non
  | bl b => exact .bl b
  | int i => exact .int i
  | str x => exact .str x
  | lst _ _ => cases h
  | scr _ _ => cases h
  | tup _ _ => cases h
  | exc _ _ _ _ => cases h
/-- a call, its arguments data -/
def eCall {α : Type} (F : List D → Option α) (ga : GA) (ρ : Rho) : R α := (ga ρ).bind fun os ρ1 => match valA os with
  | some ds => R.lift (F ds) ρ1
  | none => .bad
theorem call_ok {α : Type} {F : List D → Option α} {ga : GA} {ρ ρ' : Rho} {z : α} (e : eCall F ga ρ = .ok z ρ') : ∃ os ds, ga ρ = .ok os ρ' ∧ valA os = some ds ∧ F ds = some z := by
  obtain ⟨x, ρ1, e1, e2⟩ := R.bind_ok e
  split at e2
  · rename_i d h1
    obtain ⟨e5, rfl⟩ := R.lift_ok e2
    exact ⟨x, d, e1, h1, e5⟩
  · cases e2
/-- behind a call that keeps all -/
theorem Ok.grow {Z' H' : Hp} (ok : Ok K b0 B Z0 Z H σ ρ) (hh : Same H H') (g : Grow H Z Z' H') : Ok K b0 B Z0 Z' H' σ ρ := by
  refine ⟨ok.len, ok.bh.trans hh, g.2.1, ok.zz.trans g.1, fun p o e => ?_, fun i d e => ?_, fun i ds e => ?_, ok.fix, ok.sep⟩
  · rcases g.2.2 p o e with z | z
    · exact ok.nb p o z
    · exact .inr (ok.bh.free z)
  · obtain ⟨v, e1, e2⟩ := ok.sh i d e
    exact ⟨v, e1, e2.mono g.1⟩
  · obtain ⟨q, vs, e1, e2, e3, e4, e5⟩ := ok.ow i ds e
    refine ⟨q, vs, e1, ?_, e3, hh _ _ e4, e5.mono g.1⟩
    cases z : Z' q with
    | none => rfl
    | some o =>
      rcases g.2.2 q o z with y | y
      · rw [e2] at y; cases y
      · rw [e4] at y; cases y
theorem OpA.length {Z : Hp} {σ : L2.St} : ∀ {vs : List V} {os : List Op}, OpA K Z σ vs os → vs.length = os.length
  | _, _, .nil => rfl
  | _, _, .cons _ r => by rw [List.length_cons, List.length_cons, OpA.length r]
theorem callP_len {np n : Nat} {g : GS} : ∀ ds d, callP np n g ds = some d → ds.length = np := fun ds d h => by
  unfold callP at h
  split at h
  · cases h
  · omega
theorem callF_len {np n : Nat} {g : GS} : ∀ ds d, callF np n g ds = some d → ds.length = np := fun ds d h => by
  unfold callF at h
  split at h
  · cases h
  · omega
theorem callB_len {np n : Nat} {g : GS} : ∀ b ds d, callB np n g b ds = some d → ds.length + 1 = np := fun b ds d h => by
  unfold callB at h
  split at h
  · cases h
  · omega
theorem callBF_len {np n : Nat} {g : GS} : ∀ b ds d, callBF np n g b ds = some d → ds.length + 1 = np := fun b ds d h => by
  unfold callBF at h
  split at h
  · cases h
  · omega
theorem de_call {np : Nat} {F : List D → Option D} {ga : GA} {E : XK} (hF : ∀ ds d, F ds = some d → ds.length = np) (ha : DA K tas ga) : DE K (tCall (spP K np F) [] E tas) (eCall F ga) := fun b0 B Z0 Z H σ ρ d ρ' Q ok e q => by
  obtain ⟨os, ds, e1, e2, e3⟩ := call_ok e
  refine ha b0 B Z0 Z H σ ρ os ρ' _ ok e1 fun vs H1 Z1 ok1 s1 r1 => ?_
  have rA := valA_ok r1 e2
  refine ⟨by rw [List.append_nil, rA.length]; exact hF _ _ e3, Z1, ds, d, ok1.zh, by rw [List.append_nil]; exact rA, e3, fun v H' Z' hh g r => ?_⟩
  exact q v H' Z' (ok1.grow hh g) (s1.trans g.1) r
theorem df_call {np : Nat} {F : List D → Option (List D)} {ga : GA} {E : XK} (hF : ∀ ds d, F ds = some d → ds.length = np) (ha : DA K tas ga) : DF K (tCall (spF K np F) [] E tas) (eCall F ga) := fun b0 B Z0 Z H σ ρ d ρ' Q ok e q => by
  obtain ⟨os, ds, e1, e2, e3⟩ := call_ok e
  refine ha b0 B Z0 Z H σ ρ os ρ' _ ok e1 fun vs H1 Z1 ok1 s1 r1 => ?_
  have rA := valA_ok r1 e2
  refine ⟨by rw [List.append_nil, rA.length]; exact hF _ _ e3, Z1, ds, d, ok1.zh, by rw [List.append_nil]; exact rA, e3, fun p ws H' Z' hh g hp zp hp' r => ?_⟩
  refine q p ws H' Z' (ok1.grow hh g) (s1.trans g.1) zp (ok1.bh.free hp) (fun i es hi hq => ?_) hp' r
  obtain ⟨q', vs', f1, _, _, f4, _⟩ := ok1.ow i es hi
  rw [f1] at hq
  cases hq
  rw [hp] at f4
  cases f4
/-- a call whose answer is flat; its arguments may be lists of one's own -/
def eCallO (F : List D → Option D) (ga : GA) (ρ : Rho) : R D := (ga ρ).bind fun os ρ1 => match resA os ρ1 with
  | some ds => (match F ds with
    | some d => if flatD d then .ok d ρ1 else .bad
    | none => .bad)
  | none => .bad
theorem bdA_rp {vs : List V} {ds : List D} (s : Same Z H) (h : BdA K Z H vs ds) : RpA K H vs ds := by
  induction h with
  | nil => exact .nil
  | cons h _ ih =>
    refine .cons ?_ ih
    cases h with
    | non => exact .non
    | bl b => exact .bl b
    | int i => exact .int i
    | str x => exact .str x
    | lst h r => exact .lst h (r.mono s)
    | scr h r => exact .scr h (r.mono s)
    | tup h r => exact .tup (same_t s h) (r.mono s)
    | exc h1 h2 h3 r => exact .exc (s _ _ h1) (s _ _ h2) h3 (r.mono s)
theorem Ok.later {H' : Hp} (ok : Ok K b0 B Z0 Z H σ ρ) (hh : Same H H') : Ok K b0 B Z0 Z H' σ ρ :=
  ok.grow hh ⟨Same.refl Z, ok.zh.trans hh, fun _ _ e => .inl e⟩
theorem BdA.length {Z H : Hp} : ∀ {vs : List V} {ds : List D}, BdA K Z H vs ds → vs.length = ds.length
  | _, _, .nil => rfl
  | _, _, .cons _ r => by rw [List.length_cons, List.length_cons, BdA.length r]
theorem de_callO {np : Nat} {F : List D → Option D} {ga : GA} {E : XK} (hF : ∀ ds d, F ds = some d → ds.length = np) (ha : DA K tas ga) : DE K (tCall (spP K np F) [] E tas) (eCallO F ga) := fun b0 B Z0 Z H σ ρ d ρ' Q ok e q => by
  obtain ⟨os, ρ1, e1, e2⟩ := R.bind_ok e
  split at e2
  · rename_i ds e3
    split at e2
    · rename_i d' e4
      split at e2
      · rename_i hf
        cases e2
        refine ha b0 B Z0 Z H σ ρ os ρ' _ ok e1 fun vs H1 Z1 ok1 s1 r1 => ?_
        have rA := ok1.bdA r1 e3
        refine ⟨by rw [List.append_nil, rA.length]; exact hF _ _ e4, H1, ds, d, Same.refl H1, by rw [List.append_nil]; exact bdA_rp ok1.zh rA, e4, fun v H' Z' hh g r => ?_⟩
        exact q v H' Z1 (ok1.later hh) s1 (flat_rp hf r)
      · cases e2
    · cases e2
  · cases e2
/-- a call of a def that may change the list in slot i -/
def eCallB (F : List D → List D → Option (D × List D)) (i : Nat) (ga : GA) (ρ : Rho) : R D := if isOw ρ[i]? then (ga ρ).bind fun os ρ1 => match ρ1[i]?, valA os with
    | some (.ow box), some ds => (match F box ds with
      | some (d, box') => .ok d (ρ1.set i (.ow box'))
      | none => .bad)
    | _, _ => .bad
  else .bad
theorem Ok.growB {Z' H' : Hp} {b : Addr} {vb' : List V} {i : Nat} {box box' : List D} (ok : Ok K b0 B Z0 Z H σ ρ) (hi : ρ[i]? = some (.ow box)) (hb : σ[i]? = some (some (.ref b))) (hh : ∀ p o, p ≠ b → H p = some o → H' p = some o) (g : Grow H Z Z' H')
    (zb : Z' b = none) (hb' : H' b = some (.lst vb')) (r : RpA K Z' vb' box') : Ok K b0 B Z0 Z' H' σ (ρ.set i (.ow box')) := by
  obtain ⟨b1, vb, f1, f2, f3, f4, f5⟩ := ok.ow i box hi
  rw [hb] at f1
  cases f1
  have hl : i < ρ.length := by
    by_cases z : i < ρ.length
    · exact z
    · rw [List.getElem?_eq_none (by simpa using z)] at hi; cases hi
  refine ⟨by rw [List.length_set]; exact ok.len, fun p o e => hh p o (ne_of_none e f3) (ok.bh p o e), g.2.1, ok.zz.trans g.1, fun p o e => ?_, fun j d e => ?_, fun j ds e => ?_, fun a ha ds e => ?_, fun j k q as es e1 e2 e3 e4 => ?_⟩
  · rcases g.2.2 p o e with z | z
    · exact ok.nb p o z
    · exact .inr (ok.bh.free z)
  · rcases set_get e with ⟨_, z⟩ | ⟨n, e⟩
    · cases z
    · obtain ⟨v, e1, e2⟩ := ok.sh j d e
      exact ⟨v, e1, e2.mono g.1⟩
  · rcases set_get e with ⟨rfl, z⟩ | ⟨n, e⟩
    · cases z
      exact ⟨b, vb', hb, zb, f3, hb', r⟩
    · obtain ⟨q, vs, e1, e2, e3, e4, e5⟩ := ok.ow j ds e
      have nq : q ≠ b := fun z => n (ok.sep i j b box ds hi e hb (by rw [e1, z]))
      refine ⟨q, vs, e1, ?_, e3, hh _ _ nq e4, e5.mono g.1⟩
      cases z : Z' q with
      | none => rfl
      | some o =>
        rcases g.2.2 q o z with y | y
        · rw [e2] at y; cases y
        · rw [e4] at y; cases y
  · rcases set_get e with ⟨rfl, z⟩ | ⟨n, e⟩
    · exact ok.fix a ha box hi
    · exact ok.fix a ha ds e
  · have G : ∀ {j : Nat} {as : List D}, (ρ.set i (.ow box'))[j]? = some (.ow as) → ∃ as', ρ[j]? = some (.ow as') := fun {j as} e => by
      rcases set_get e with ⟨rfl, z⟩ | ⟨n, e⟩
      · exact ⟨box, hi⟩
      · exact ⟨as, e⟩
    obtain ⟨_, y1⟩ := G e1
    obtain ⟨_, y2⟩ := G e2
    exact ok.sep j k q _ _ y1 y2 e3 e4
theorem de_callB {np : Nat} {F : List D → List D → Option (D × List D)} {i : Nat} {ga : GA} {E : XK} (hF0 : ∀ b ds d, F b ds = some d → ds.length + 1 = np) (ha : DA K tas ga) : DE K (tCall (spB K np F) [] E (tCons (tVar i) tas)) (eCallB F i ga) := fun b0 B Z0 Z H σ ρ d ρ' Q ok e q => by
  unfold eCallB at e
  split at e
  · rename_i h0
    obtain ⟨b, vb0, e0, hb0⟩ := ok.isOw h0
    obtain ⟨os, ρ1, e1, e⟩ := R.bind_ok e
    split at e
    · rename_i box ds hi hv
      split at e
      · rename_i d' box' hF
        cases e
        refine ⟨.ref b, e0, ?_⟩
        refine ha b0 B Z0 Z H σ ρ os ρ1 _ ok e1 fun vs H1 Z1 ok1 s1 r1 => ?_
        obtain ⟨b1, vb, f1, f2, f3, f4, f5⟩ := ok1.ow i box hi
        rw [e0] at f1
        cases f1
        have rA := valA_ok r1 hv
        refine ⟨by rw [List.append_nil, List.length_cons, rA.length]; exact hF0 _ _ _ hF, Z1, b, vb, box, vs, ds, d, box', by rw [List.append_nil], ok1.zh, f2, f4, f5, rA, hF, fun v H' Z' vb' hh g zb hb' rb r => ?_⟩
        exact q v H' Z' (ok1.growB hi e0 hh g zb hb' rb) (s1.trans g.1) r
      · cases e
    · cases e
  · cases e
end
end DL

namespace DL
open PySem L2
/-! ### operators on data -/
def sz (n : Nat) : Bool := decide (n ≤ sizeLine)
def addD : D → D → Option D
  | .int i, .int j => some (.int (i + j))
  | .str x, .str y => if x.length + y.length ≤ sizeLine then some (.str (x ++ y)) else none
  | .tuple xs, .tuple ys => if xs.length + ys.length ≤ sizeLine then some (.tuple (xs ++ ys)) else none
  | _, _ => none
def addL : D → D → Option (List D)
  | .list xs, .list ys => if xs.length + ys.length ≤ sizeLine then some (xs ++ ys) else none
  | _, _ => none
def subD : D → D → Option D
  | .int i, .int j => some (.int (i - j))
  | _, _ => none
instance (i j : Int) : Decidable (CMul i j) := inferInstanceAs (Decidable (_ ∨ _))
def mulD : D → D → Option D
  | .int i, .int j => if CMul i j then some (.int (i * j)) else none
  | _, _ => none
def repL : D → D → Option (List D)
  | .list xs, .int k => if -(2 ^ 63) ≤ k ∧ k < 2 ^ 63 ∧ xs.length * k.toNat ≤ sizeLine then some (List.replicate k.toNat xs).flatten else none
  | _, _ => none
def fdivD : D → D → Option D
  | .int i, .int j => if 0 < j ∧ j.natAbs.log2 < 9000 then some (.int (i / j)) else none
  | _, _ => none
def modD : D → D → Option D
  | .int i, .int j => if 0 < j then some (.int (i % j)) else none
  | _, _ => none
def powD : D → D → Option D
  | .int i, .int j => if 0 ≤ j ∧ j ≤ 1000000 ∧ i.natAbs < 2 ^ 64 then some (.int (i ^ j.toNat)) else none
  | _, _ => none
def eqD (d e : D) : Option D := if SeqAt.shaped d = true ∧ SeqAt.shaped e = true then some (.bool (PyData.eqv d e)) else none
def neD (d e : D) : Option D := if SeqAt.shaped d = true ∧ SeqAt.shaped e = true then some (.bool (!PyData.eqv d e)) else none
def ltD : D → D → Option D
  | .int i, .int j => some (.bool (decide (i < j)))
  | _, _ => none
def leD : D → D → Option D
  | .int i, .int j => some (.bool (decide (i ≤ j)))
  | _, _ => none
def gtD : D → D → Option D
  | .int i, .int j => some (.bool (decide (j < i)))
  | _, _ => none
def geD : D → D → Option D
  | .int i, .int j => some (.bool (decide (j ≤ i)))
  | _, _ => none
def isNoneD : D → Bool
  | .none => true
  | _ => false
def isD : D → D → Option D
  | d, .none => some (.bool (isNoneD d))
  | _, _ => none
def isNotD : D → D → Option D
  | d, .none => some (.bool (!isNoneD d))
  | _, _ => none
def isBD : D → D → Option D
  | .bool a, .bool b => some (.bool (decide (a = b)))
  | _, _ => none
def isNotBD : D → D → Option D
  | .bool a, .bool b => some (.bool (!decide (a = b)))
  | _, _ => none
def negD : D → Option D
  | .int i => some (.int (-i))
  | _ => none
section
variable {X : Cx} {K : PySem.W.Frag}
theorem opr_or {f : Value → Value → Sem Value} {r r' : R2} (h : OpR X f r) (h' : OpR X f r') : OpR X f (fun x y H Q => r x y H Q ∨ r' x y H Q) := fun pins s σ H x y v u Q I rx ry q => by
  rcases q with q | q
  · exact h pins s σ H x y v u Q I rx ry q
  · exact h' pins s σ H x y v u Q I rx ry q
theorem sn_or1 {r r' : R2} {f : D → D → Option D} (h : Sn2 K r f) : Sn2 K (fun x y H Q => r x y H Q ∨ r' x y H Q) f := fun b0 B Z0 Z H σ ρ x y a b c Q ok ha hb e q => .inl (h b0 B Z0 Z H σ ρ x y a b c Q ok ha hb e q)
theorem sn2_mono {r r' : R2} {f : D → D → Option D} (h : Sn2 K r f) (m : ∀ x y H Q, r x y H Q → r' x y H Q) : Sn2 K r' f := fun b0 B Z0 Z H σ ρ x y a b c Q ok ha hb e q => m _ _ _ _ (h b0 B Z0 Z H σ ρ x y a b c Q ok ha hb e q)
/-- a rule on two ints -/
theorem sn_i0 {g : Int → Int → V} {f : D → D → Option D} (hf : ∀ a b c, f a b = some c → ∃ i j, a = .int i ∧ b = .int j ∧ ∀ Z, Rp K Z (g i j) c) : Sn2 K (rI0 g) f := fun b0 B Z0 Z H σ ρ x y a b c Q ok ha hb e q => by
  obtain ⟨i, j, rfl, rfl, r⟩ := hf a b c e
  cases ha
  cases hb
  exact ⟨i, j, rfl, rfl, q _ H Z ok (Same.refl Z) (r Z)⟩
theorem sn_iC {C : Int → Int → Prop} {g : Int → Int → V} {f : D → D → Option D} (hf : ∀ a b c, f a b = some c → ∃ i j, a = .int i ∧ b = .int j ∧ C i j ∧ ∀ Z, Rp K Z (g i j) c) : Sn2 K (rI C g) f := fun b0 B Z0 Z H σ ρ x y a b c Q ok ha hb e q => by
  obtain ⟨i, j, rfl, rfl, hc, r⟩ := hf a b c e
  cases ha
  cases hb
  exact ⟨i, j, rfl, rfl, hc, q _ H Z ok (Same.refl Z) (r Z)⟩
theorem sn_sub : Sn2 K (rI0 fun i j => .int (i - j)) subD := sn_i0 fun a b c e => by
  unfold subD at e; split at e <;> cases e; exact ⟨_, _, rfl, rfl, fun _ => .int _⟩
theorem sn_mulI : Sn2 K (rI CMul fun i j => .int (i * j)) mulD := sn_iC fun a b c e => by
  unfold mulD at e
  split at e
  · split at e
    · cases e; exact ⟨_, _, rfl, rfl, by assumption, fun _ => .int _⟩
    · cases e
  · cases e
theorem sn_fdiv : Sn2 K (rI CDivW fun i j => .int (i / j)) fdivD := sn_iC fun a b c e => by
  unfold fdivD at e
  split at e
  · split at e
    · cases e; exact ⟨_, _, rfl, rfl, by assumption, fun _ => .int _⟩
    · cases e
  · cases e
theorem sn_mod : Sn2 K (rI (fun _ j => 0 < j) fun i j => .int (i % j)) modD := sn_iC fun a b c e => by
  unfold modD at e
  split at e
  · split at e
    · cases e; exact ⟨_, _, rfl, rfl, by assumption, fun _ => .int _⟩
    · cases e
  · cases e
theorem sn_pow : Sn2 K (rI CPow fun i j => .int (i ^ j.toNat)) powD := sn_iC fun a b c e => by
  unfold powD at e
  split at e
  · split at e
    · cases e; exact ⟨_, _, rfl, rfl, by assumption, fun _ => .int _⟩
    · cases e
  · cases e
theorem sn_lt : Sn2 K (rI0 fun i j => .bl (decide (i < j))) ltD := sn_i0 fun a b c e => by
  unfold ltD at e; split at e <;> cases e; exact ⟨_, _, rfl, rfl, fun _ => .bl _⟩
theorem sn_le : Sn2 K (rI0 fun i j => .bl (decide (i ≤ j))) leD := sn_i0 fun a b c e => by
  unfold leD at e; split at e <;> cases e; exact ⟨_, _, rfl, rfl, fun _ => .bl _⟩
theorem sn_gt : Sn2 K (rI0 fun i j => .bl (decide (j < i))) gtD := sn_i0 fun a b c e => by
  unfold gtD at e; split at e <;> cases e; exact ⟨_, _, rfl, rfl, fun _ => .bl _⟩
theorem sn_ge : Sn2 K (rI0 fun i j => .bl (decide (j ≤ i))) geD := sn_i0 fun a b c e => by
  unfold geD at e; split at e <;> cases e; exact ⟨_, _, rfl, rfl, fun _ => .bl _⟩
/-! + : ints, texts, tuples; lists -/
def rAddI : R2 := rI0 fun i j => .int (i + j)
def rAddS : R2 := fun x y H Q => ∃ i j, x = .str i ∧ y = .str j ∧ i.length + j.length ≤ sizeLine ∧ Q (.str (i ++ j)) H
def rAddU (K : PySem.W.Frag) : R2 := fun x y H Q => rAddI x y H Q ∨ rAddS x y H Q ∨ rCatA K x y H Q ∨ rCat x y H Q
theorem op_addU : OpR X (binaryOp .Add) (rAddU X.K) := opr_or op_add (opr_or op_add_str (opr_or op_catA op_cat))
theorem sn_add : Sn2 K (rAddU K) addD := fun b0 B Z0 Z H σ ρ x y a b c Q ok ha hb e q => by
  unfold addD at e
  split at e
  · cases e; cases ha; cases hb
    exact .inl ⟨_, _, rfl, rfl, q _ H Z ok (Same.refl Z) (.int _)⟩
  · split at e
    · cases e; cases ha; cases hb
      exact .inr (.inl ⟨_, _, rfl, rfl, by assumption, q _ H Z ok (Same.refl Z) (.str _)⟩)
    · cases e
  · split at e
    · rename_i hl
      cases e
      cases ha with
      | tup h1 r1 =>
      cases hb with
      | tup h2 r2 =>
      refine .inr (.inr (.inl ⟨_, _, _, _, rfl, rfl, same_t ok.zh h1, same_t ok.zh h2, by rw [r1.length, r2.length]; exact hl, fun z => ?_, fun _ z => ?_, fun _ _ p hp => ?_⟩))
      · subst z
        cases r1
        exact q _ H Z ok (Same.refl Z) (.tup h2 r2)
      · subst z
        cases r2
        rw [List.append_nil] at q
        exact q _ H Z ok (Same.refl Z) (.tup h1 r1)
      · obtain ⟨ok2, s2⟩ := ok.new (o := .tup _) hp
        exact q _ _ _ ok2 s2 (.tup (.inl (.inl upd_same)) ((r1.append r2).mono s2))
    · cases e
  · cases e
theorem sn_addL : Sn2F K (rAddU K) addL := fun b0 B Z0 Z H σ ρ x y a b c Q ok ha hb e q => by
  unfold addL at e
  split at e
  · split at e
    · rename_i hl
      cases e
      cases ha with
      | lst h1 r1 =>
      cases hb with
      | lst h2 r2 =>
      refine .inr (.inr (.inr ⟨_, _, _, _, rfl, rfl, h1, h2, by rw [r1.length, r2.length]; exact hl, fun p hp => ?_⟩))
      obtain ⟨ok2, zp, bp, ap⟩ := ok.fresh (o := .lst _) hp
      exact q p _ _ ok2 zp bp ap upd_same (r1.append r2)
    · cases e
  · cases e
/-! * : ints; a list times an int -/
def rMulU : R2 := fun x y H Q => rI CMul (fun i j => .int (i * j)) x y H Q ∨ rRep x y H Q
theorem op_mulU : OpR X (binaryOp .Mult) rMulU := opr_or op_mul op_rep
theorem sn_mul : Sn2 K rMulU mulD := sn2_mono sn_mulI fun _ _ _ _ h => .inl h
theorem flat_rep {vs : List V} {ds : List D} {Z : Hp} (r : RpA K Z vs ds) : ∀ n : Nat, RpA K Z (List.replicate n vs).flatten (List.replicate n ds).flatten
  | 0 => .nil
  | n + 1 => by
    rw [List.replicate_succ, List.replicate_succ, List.flatten_cons, List.flatten_cons]
    exact r.append (flat_rep r n)
theorem sn_repL : Sn2F K rMulU repL := fun b0 B Z0 Z H σ ρ x y a b c Q ok ha hb e q => by
  unfold repL at e
  split at e
  · split at e
    · rename_i hl
      cases e
      cases hb
      cases ha with
      | lst h1 r1 =>
      refine .inr ⟨_, _, _, rfl, rfl, h1, hl.1, hl.2.1, by rw [r1.length]; exact hl.2.2, fun p hp => ?_⟩
      obtain ⟨ok2, zp, bp, ap⟩ := ok.fresh (o := .lst _) hp
      exact q p _ _ ok2 zp bp ap upd_same (flat_rep r1 _)
    · cases e
  · cases e
/-! ==, != -/
mutual
theorem noD_of : ∀ d : D, d.canLay0 = true → noD d = true
  | .none, _ => by simp [noD]
  | .bool _, _ => by simp [noD]
  | .int _, _ => by simp [noD]
  | .str _, _ => by simp [noD]
  | .list xs, h => by
    simp only [noD]
    exact noDs_of xs (by simpa [PyData.canLay0] using h)
  | .tuple xs, h => by
    simp only [noD]
    exact noDs_of xs (by simpa [PyData.canLay0] using h)
  | .dict _, h => by simp [PyData.canLay0] at h
theorem noDs_of : ∀ xs : List D, PyData.canLayAll0 xs = true → noDs xs = true
  | [], _ => by simp [noDs]
  | x :: xs, h => by
    have h' : x.canLay0 = true ∧ PyData.canLayAll0 xs = true := by simpa [PyData.canLayAll0] using h
    simp only [noDs, noD_of x h'.1, noDs_of xs h'.2, Bool.and_self]
end
theorem shaped_noD {d : D} (h : SeqAt.shaped d = true) : noD d = true := by
  unfold SeqAt.shaped at h
  rw [Bool.and_eq_true] at h
  exact noD_of d h.1
theorem bd_rp {Z H : Hp} {v : V} {d : D} (s : Same Z H) (h : Bd K Z H v d) : Rp K H v d := by
  cases h with
  | non => exact .non
  | bl b => exact .bl b
  | int i => exact .int i
  | str x => exact .str x
  | lst h r => exact .lst h (r.mono s)
  | scr h r => exact .scr h (r.mono s)
  | tup h r => exact .tup (same_t s h) (r.mono s)
  | exc h1 h2 h3 r => exact .exc (s _ _ h1) (s _ _ h2) h3 (r.mono s)
theorem sn_eq : Sn2 K (rEqD K) eqD := fun b0 B Z0 Z H σ ρ x y a b c Q ok ha hb e q => by
  unfold eqD at e
  split at e
  · rename_i h
    cases e
    exact ⟨a, b, (bd_rp ok.zh ha).dp (shaped_noD h.1), (bd_rp ok.zh hb).dp (shaped_noD h.2), h.1, h.2, q _ H Z ok (Same.refl Z) (.bl _)⟩
  · cases e
theorem sn_ne : Sn2 K (rNeD K) neD := fun b0 B Z0 Z H σ ρ x y a b c Q ok ha hb e q => by
  unfold neD at e
  split at e
  · rename_i h
    cases e
    exact ⟨a, b, (bd_rp ok.zh ha).dp (shaped_noD h.1), (bd_rp ok.zh hb).dp (shaped_noD h.2), h.1, h.2, q _ H Z ok (Same.refl Z) (.bl _)⟩
  · cases e
/-! is -/
theorem non_iff {Z H : Hp} {v : V} {d : D} (h : Bd K Z H v d) : decide (v = V.non) = isNoneD d := by
  cases h <;> rfl
def rIsU : R2 := fun x y H Q => (y = .non ∧ Q (.bl (decide (x = .non))) H)
def rIsNotU : R2 := fun x y H Q => (y = .non ∧ Q (.bl (!decide (x = .non))) H)
theorem op_isU : OpR X (compareOp .Is) rIsU := op_isN
theorem op_isNotU : OpR X (compareOp .IsNot) rIsNotU := op_notN
theorem sn_is : Sn2 K rIsU isD := fun b0 B Z0 Z H σ ρ x y a b c Q ok ha hb e q => by
  unfold isD at e
  split at e
  · cases e; cases hb
    exact ⟨rfl, q _ H Z ok (Same.refl Z) (by rw [non_iff ha]; exact .bl _)⟩
  · cases e
theorem sn_isNot : Sn2 K rIsNotU isNotD := fun b0 B Z0 Z H σ ρ x y a b c Q ok ha hb e q => by
  unfold isNotD at e
  split at e
  · cases e; cases hb
    exact ⟨rfl, q _ H Z ok (Same.refl Z) (by rw [non_iff ha]; exact .bl _)⟩
  · cases e
theorem sn_isB : Sn2 K rIsB isBD := fun b0 B Z0 Z H σ ρ x y a b c Q ok ha hb e q => by
  unfold isBD at e
  split at e
  · cases e; cases ha; cases hb
    exact ⟨_, _, rfl, rfl, q _ H Z ok (Same.refl Z) (.bl _)⟩
  · cases e
theorem sn_isNotB : Sn2 K rNotB isNotBD := fun b0 B Z0 Z H σ ρ x y a b c Q ok ha hb e q => by
  unfold isNotBD at e
  split at e
  · cases e; cases ha; cases hb
    exact ⟨_, _, rfl, rfl, q _ H Z ok (Same.refl Z) (.bl _)⟩
  · cases e
theorem sn_neg : Sn1 K (rU fun i => .int (-i)) negD := fun b0 B Z0 Z H σ ρ x a c Q ok ha e q => by
  unfold negD at e
  split at e
  · cases e; cases ha
    exact ⟨_, rfl, q _ H Z ok (Same.refl Z) (.int _)⟩
  · cases e
/-! ### x[i] -/
def chr1 (c : Nat) : Str := ⟨#[c]⟩
def ixD : D → D → Option D
  | .list xs, .int i => atI xs i
  | .dict [(.list xs, .none)], .int i => atI xs i
  | .tuple xs, .int i => atI xs i
  | .str z, .int i => if z.length ≤ sizeLine then (atI z.cps.toList i).map fun c => .str ⟨#[c]⟩ else none
  | _, _ => none
theorem atI_rp {Z : Hp} {vs : List V} {ds : List D} {i : Int} {d : D} (r : RpA K Z vs ds) (h : atI ds i = some d) : ∃ v, atI vs i = some v ∧ Rp K Z v d := by
  unfold atI at h ⊢
  rw [r.length]
  obtain ⟨j, e1, e2⟩ := Option.bind_eq_some_iff.mp h
  obtain ⟨v, e3, rv⟩ := r.get e2
  exact ⟨v, by rw [e1]; exact e3, rv⟩
theorem sn_ix : Sn2 K (rIx K) ixD := fun b0 B Z0 Z H σ ρ x y a b c Q ok ha hb e q => by
  unfold ixD at e
  split at e
  · cases hb
    cases ha with
    | lst h r =>
    obtain ⟨v, e1, rv⟩ := atI_rp r e
    exact .inl ⟨_, _, _, v, rfl, rfl, .inl (.inl h), e1, q v H Z ok (Same.refl Z) rv⟩
  · cases hb
    cases ha with
    | scr h r =>
    obtain ⟨v, e1, rv⟩ := atI_rp r e
    exact .inl ⟨_, _, _, v, rfl, rfl, h, e1, q v H Z ok (Same.refl Z) rv⟩
  · cases hb
    cases ha with
    | tup h r =>
    obtain ⟨v, e1, rv⟩ := atI_rp r e
    exact .inr (.inl ⟨_, _, _, v, rfl, rfl, same_t ok.zh h, e1, q v H Z ok (Same.refl Z) rv⟩)
  · split at e
    · rename_i hz
      cases hb
      cases ha
      obtain ⟨c', e1, rfl⟩ := Option.map_eq_some_iff.mp e
      exact .inr (.inr ⟨_, _, c', rfl, rfl, hz, e1, q _ H Z ok (Same.refl Z) (.str _)⟩)
    · cases e
  · cases e
end
end DL

namespace DL
open PySem L2
section
variable {X : Cx} {K : PySem.W.Frag} {ta tb te tc : TE} {tas : TA}
/-! ### chains a < b < c -/
def eChain (f f' : D → D → Option D) (a b c : GO) (ρ : Rho) : R D := (a ρ).bind fun x ρ1 => (b ρ1).bind fun y ρ2 => match x.res ρ2, y.res ρ2 with
  | some d, some e => (match f d e with
    | some (.bool true) => (c ρ2).bind fun z ρ3 => (match y.res ρ3, z.res ρ3 with
      | some e', some k => R.lift (f' e' k) ρ3
      | _, _ => .bad)
    | some (.bool false) => .ok (.bool false) ρ2
    | _ => .bad)
  | _, _ => .bad
theorem de_chain {r r' : R2} {f f' : D → D → Option D} {ga gb gc : GO} (sn : Sn2 K r f) (sn' : Sn2 K r' f') (ha : DO K ta ga) (hb : DO K tb gb) (hc : DO K tc gc) : DE K (tChain r r' ta tb tc) (eChain f f' ga gb gc) := fun b0 B Z0 Z H σ ρ d ρ' Q ok e q => by
  obtain ⟨x, ρ1, e1, e⟩ := R.bind_ok e
  obtain ⟨y, ρ2, e2, e⟩ := R.bind_ok e
  refine ha b0 B Z0 Z H σ ρ x ρ1 _ ok e1 fun v H1 Z1 ok1 s1 r1 => ?_
  refine hb b0 B Z0 Z1 H1 σ ρ1 y ρ2 _ ok1 e2 fun u H2 Z2 ok2 s2 r2 => ?_
  split at e
  · rename_i d1 d2 h1 h2
    split at e
    · rename_i hf
      refine sn b0 B Z0 Z2 H2 σ ρ2 v u d1 d2 _ _ ok2 (ok2.bd (r1.mono s2) h1) (ok2.bd r2 h2) hf fun w H3 Z3 ok3 s3 r3 => ?_
      cases r3
      refine ⟨true, rfl, ?_⟩
      obtain ⟨z, ρ3, e3, e⟩ := R.bind_ok e
      refine hc b0 B Z0 Z3 H3 σ ρ2 z ρ3 _ ok3 e3 fun w4 H4 Z4 ok4 s4 r4 => ?_
      split at e
      · rename_i e' k h3 h4
        obtain ⟨e5, rfl⟩ := R.lift_ok e
        exact sn' b0 B Z0 Z4 H4 σ ρ3 u w4 e' k d Q ok4 (ok4.bd ((r2.mono s3).mono s4) h3) (ok4.bd r4 h4) e5 fun w5 H5 Z5 ok5 s5 r5 => q w5 H5 Z5 ok5 ((((s1.trans s2).trans s3).trans s4).trans s5) r5
      · cases e
    · rename_i hf
      cases e
      refine sn b0 B Z0 Z2 H2 σ _ v u d1 d2 _ _ ok2 (ok2.bd (r1.mono s2) h1) (ok2.bd r2 h2) hf fun w H3 Z3 ok3 s3 r3 => ?_
      cases r3
      exact ⟨false, rfl, q _ H3 Z3 ok3 ((s1.trans s2).trans s3) (.bl false)⟩
    · cases e
  · cases e
/-! ### slices -/
abbrev GP := Rho → R (Option Int)
def DP (K : PySem.W.Frag) (t : TO) (g : GP) : Prop := ∀ b0 B Z0 Z H σ ρ o ρ' (Q : Option Int → Hp → Prop), Ok K b0 B Z0 Z H σ ρ → g ρ = .ok o ρ' → (∀ H' Z', Ok K b0 B Z0 Z' H' σ ρ' → Same Z Z' → Q o H') → t σ H Q
def pNo (ρ : Rho) : R (Option Int) := .ok none ρ
def pSo (g : GE) (ρ : Rho) : R (Option Int) := (g ρ).bind fun d ρ1 => match d with
  | .int i => .ok (some i) ρ1
  | _ => .bad
theorem dp_no : DP K tNoPart pNo := fun b0 B Z0 Z H σ ρ o ρ' Q ok e q => by
  cases e
  exact q H Z ok (Same.refl Z)
theorem dp_so {g : GE} (h : DE K te g) : DP K (tPart te) (pSo g) := fun b0 B Z0 Z H σ ρ o ρ' Q ok e q => by
  obtain ⟨d, ρ1, e1, e⟩ := R.bind_ok e
  split at e
  · cases e
    refine h b0 B Z0 Z H σ ρ _ _ _ ok e1 fun v H1 Z1 ok1 s1 r1 => ?_
    cases r1
    exact ⟨_, rfl, q H1 Z1 ok1 s1⟩
  · cases e
def cutD {α : Type} (xs : List α) (lo hi : Option Int) : List α := (xs.drop (HT.sIx xs.length 0 lo)).take (HT.sIx xs.length xs.length hi - HT.sIx xs.length 0 lo)
theorem cut_rp {Z : Hp} {vs : List V} {ds : List D} {lo hi : Option Int} (r : RpA K Z vs ds) : RpA K Z (cutV vs lo hi) (cutD ds lo hi) := by
  unfold cutV cutD
  rw [r.length]
  exact (r.drop _).take _
def SnSl (K : PySem.W.Frag) (r : V → Option Int → Option Int → Hp → VK → Prop) (f : D → Option Int → Option Int → Option D) : Prop := ∀ b0 B Z0 Z H σ ρ x a lo hi c (Q : VK), Ok K b0 B Z0 Z H σ ρ → Bd K Z H x a → f a lo hi = some c → (∀ v H' Z', Ok K b0 B Z0 Z' H' σ ρ → Same Z Z' → Rp K Z' v c → Q v H') → r x lo hi H Q
def SnSlF (K : PySem.W.Frag) (r : V → Option Int → Option Int → Hp → VK → Prop) (f : D → Option Int → Option Int → Option (List D)) : Prop := ∀ b0 B Z0 Z H σ ρ x a lo hi c (Q : VK), Ok K b0 B Z0 Z H σ ρ → Bd K Z H x a → f a lo hi = some c →
  (∀ p vs H', Ok K b0 B Z0 Z H' σ ρ → Z p = none → B p = none → Apart σ ρ p → H' p = some (.lst vs) → RpA K Z vs c → Q (.ref p) H') → r x lo hi H Q
def rSlU (K : PySem.W.Frag) : V → Option Int → Option Int → Hp → VK → Prop := fun x lo hi H Q => rSlL K x lo hi H Q ∨ rSlA K x lo hi H Q
theorem sl_U : SlR X (rSlU X.K) := fun pins s σ H x v vl vu lo hi sl Q I rx hs pl pu h => by
  rcases h with h | h
  · exact sl_list pins s σ H x v vl vu lo hi sl Q I rx hs pl pu h
  · exact sl_tupA pins s σ H x v vl vu lo hi sl Q I rx hs pl pu h
def sliceL (d : D) (lo hi : Option Int) : Option (List D) := match d with
  | .list xs => some (cutD xs lo hi)
  | .dict [(.list xs, .none)] => some (cutD xs lo hi)
  | _ => none
def sliceT (d : D) (lo hi : Option Int) : Option D := match d with
  | .tuple xs => some (.tuple (cutD xs lo hi))
  | _ => none
theorem sn_sliceL : SnSlF K (rSlU K) sliceL := fun b0 B Z0 Z H σ ρ x a lo hi c Q ok ha e q => by
  unfold sliceL at e
  split at e
  · cases e
    cases ha with
    | lst h r =>
    refine .inl ⟨_, _, rfl, .inl (.inl h), fun p hp => ?_⟩
    obtain ⟨ok2, zp, bp, ap⟩ := ok.fresh (o := .lst _) hp
    exact q p _ _ ok2 zp bp ap upd_same (cut_rp r)
  · cases e
    cases ha with
    | scr h r =>
    refine .inl ⟨_, _, rfl, h, fun p hp => ?_⟩
    obtain ⟨ok2, zp, bp, ap⟩ := ok.fresh (o := .lst _) hp
    exact q p _ _ ok2 zp bp ap upd_same (cut_rp r)
  · cases e
theorem cut_all {α : Type} (xs : List α) {lo hi : Option Int} (h1 : HT.sIx xs.length 0 lo = 0) (h2 : HT.sIx xs.length xs.length hi = xs.length) : cutD xs lo hi = xs := by
  unfold cutD
  rw [h1, h2, List.drop_zero, Nat.sub_zero, List.take_length]
theorem sn_sliceT : SnSl K (rSlU K) sliceT := fun b0 B Z0 Z H σ ρ x a lo hi c Q ok ha e q => by
  unfold sliceT at e
  split at e
  · cases e
    cases ha with
    | tup h r =>
    refine .inr ⟨_, _, rfl, same_t ok.zh h, fun z => ?_, fun _ p hp => ?_⟩
    · have := r.length
      rw [this] at z
      rw [cut_all _ z.1 z.2] at q
      exact q _ H Z ok (Same.refl Z) (.tup h r)
    · obtain ⟨ok2, s2⟩ := ok.new (o := .tup _) hp
      exact q _ _ _ ok2 s2 (.tup (.inl (.inl upd_same)) ((cut_rp r).mono s2))
  · cases e
def eSl {α : Type} (f : D → Option Int → Option Int → Option α) (g : GO) (lo hi : GP) (ρ : Rho) : R α := (g ρ).bind fun x ρ1 => (lo ρ1).bind fun l ρ2 => (hi ρ2).bind fun u ρ3 => match x.res ρ3 with
  | some d => R.lift (f d l u) ρ3
  | none => .bad
theorem sl_ok {α : Type} {f : D → Option Int → Option Int → Option α} {g : GO} {lo hi : GP} {ρ ρ' : Rho} {z : α} (e : eSl f g lo hi ρ = .ok z ρ') : ∃ x ρ1 l ρ2 u d, g ρ = .ok x ρ1 ∧ lo ρ1 = .ok l ρ2 ∧ hi ρ2 = .ok u ρ' ∧ x.res ρ' = some d ∧ f d l u = some z := by
  obtain ⟨x, ρ1, e1, e⟩ := R.bind_ok e
  obtain ⟨l, ρ2, e2, e⟩ := R.bind_ok e
  obtain ⟨u, ρ3, e3, e⟩ := R.bind_ok e
  split at e
  · rename_i d h
    obtain ⟨e5, rfl⟩ := R.lift_ok e
    exact ⟨x, ρ1, l, ρ2, u, d, e1, e2, e3, h, e5⟩
  · cases e
theorem df_sl {r : V → Option Int → Option Int → Hp → VK → Prop} {f : D → Option Int → Option Int → Option (List D)} {g : GO} {lo hi : GP} {tl th : TO} (sn : SnSlF K r f) (hg : DO K te g) (hl : DP K tl lo) (hh : DP K th hi) : DF K (tSl r te tl th) (eSl f g lo hi) := fun b0 B Z0 Z H σ ρ d ρ' Q ok e q => by
  obtain ⟨x, ρ1, l, ρ2, u, d', e1, e2, e3, e4, e5⟩ := sl_ok e
  refine hg b0 B Z0 Z H σ ρ x ρ1 _ ok e1 fun v H1 Z1 ok1 s1 r1 => ?_
  refine hl b0 B Z0 Z1 H1 σ ρ1 l ρ2 _ ok1 e2 fun H2 Z2 ok2 s2 => ?_
  refine hh b0 B Z0 Z2 H2 σ ρ2 u ρ' _ ok2 e3 fun H3 Z3 ok3 s3 => ?_
  exact sn b0 B Z0 Z3 H3 σ ρ' v d' l u d Q ok3 (ok3.bd ((r1.mono s2).mono s3) e4) e5 fun p vs H4 ok4 zp bp ap hp r4 => q p vs H4 Z3 ok4 ((s1.trans s2).trans s3) zp bp ap hp r4
theorem de_sl {r : V → Option Int → Option Int → Hp → VK → Prop} {f : D → Option Int → Option Int → Option D} {g : GO} {lo hi : GP} {tl th : TO} (sn : SnSl K r f) (hg : DO K te g) (hl : DP K tl lo) (hh : DP K th hi) : DE K (tSl r te tl th) (eSl f g lo hi) := fun b0 B Z0 Z H σ ρ d ρ' Q ok e q => by
  obtain ⟨x, ρ1, l, ρ2, u, d', e1, e2, e3, e4, e5⟩ := sl_ok e
  refine hg b0 B Z0 Z H σ ρ x ρ1 _ ok e1 fun v H1 Z1 ok1 s1 r1 => ?_
  refine hl b0 B Z0 Z1 H1 σ ρ1 l ρ2 _ ok1 e2 fun H2 Z2 ok2 s2 => ?_
  refine hh b0 B Z0 Z2 H2 σ ρ2 u ρ' _ ok2 e3 fun H3 Z3 ok3 s3 => ?_
  exact sn b0 B Z0 Z3 H3 σ ρ' v d' l u d Q ok3 (ok3.bd ((r1.mono s2).mono s3) e4) e5 fun w H4 Z4 ok4 s4 r4 => q w H4 Z4 ok4 (((s1.trans s2).trans s3).trans s4) r4
/-! ### built-ins -/
theorem callr_or {f : Value} {r r' : List V → Hp → VK → Prop} (h : CallR X f r) (h' : CallR X f r') : CallR X f (fun xs H Q => r xs H Q ∨ r' xs H Q) := fun pins s σ H xs us Q I rx q => by
  rcases q with q | q
  · exact h pins s σ H xs us Q I rx q
  · exact h' pins s σ H xs us Q I rx q
def lenD : List D → Option D
  | [.list xs] => some (.int xs.length)
  | [.dict [(.list xs, .none)]] => some (.int xs.length)
  | [.tuple xs] => some (.int xs.length)
  | [.str z] => if z.length ≤ sizeLine then some (.int z.length) else none
  | _ => none
def rLen (K : PySem.W.Frag) : List V → Hp → VK → Prop := fun xs H Q => ∃ x n, xs = [x] ∧ LenV K x H n ∧ Q (.int n) H
theorem call_lenU : CallR X (.builtin "len") (rLen X.K) := call_len
theorem sn_len : SnA K (rLen K) lenD := fun b0 B Z0 Z H σ ρ xs as c Q ok ha e q => by
  unfold lenD at e
  split at e
  · cases e
    cases ha with
    | cons h h' =>
    cases h'
    cases h with
    | lst h r => exact ⟨_, _, rfl, .inl ⟨_, .inl (.inl h), rfl⟩, by rw [r.length]; exact q _ H Z ok (Same.refl Z) (.int _)⟩
  · cases e
    cases ha with
    | cons h h' =>
    cases h'
    cases h with
    | scr h r => exact ⟨_, _, rfl, .inl ⟨_, h, rfl⟩, by rw [r.length]; exact q _ H Z ok (Same.refl Z) (.int _)⟩
  · cases e
    cases ha with
    | cons h h' =>
    cases h'
    cases h with
    | tup h r => exact ⟨_, _, rfl, .inr ⟨_, same_t ok.zh h, rfl⟩, by rw [r.length]; exact q _ H Z ok (Same.refl Z) (.int _)⟩
  · split at e
    · rename_i hz
      cases e
      cases ha with
      | cons h h' =>
      cases h'
      cases h
      exact ⟨_, _, rfl, ⟨hz, rfl⟩, q _ H Z ok (Same.refl Z) (.int _)⟩
    · cases e
  · cases e
def absD : List D → Option D
  | [.int i] => some (.int (if i < 0 then -i else i))
  | _ => none
def rAbs : List V → Hp → VK → Prop := fun xs H Q => ∃ i, xs = [.int i] ∧ Q (.int (if i < 0 then -i else i)) H
theorem call_absU : CallR X (.builtin "abs") rAbs := call_abs
theorem sn_abs : SnA K rAbs absD := fun b0 B Z0 Z H σ ρ xs as c Q ok ha e q => by
  unfold absD at e
  split at e
  · cases e
    cases ha with
    | cons h h' =>
    cases h'; cases h
    exact ⟨_, rfl, q _ H Z ok (Same.refl Z) (.int _)⟩
  · cases e
def intD : List D → Option D
  | [.int i] => some (.int i)
  | [.bool k] => some (.int (if k then 1 else 0))
  | _ => none
def rInt1 : List V → Hp → VK → Prop := fun xs H Q => (∃ i, xs = [.int i] ∧ Q (.int i) H) ∨ ∃ k, xs = [.bl k] ∧ Q (.int (if k then 1 else 0)) H
theorem call_intU : CallR X (.type "int") rInt1 := call_int1
theorem sn_int : SnA K rInt1 intD := fun b0 B Z0 Z H σ ρ xs as c Q ok ha e q => by
  unfold intD at e
  split at e
  · cases e
    cases ha with
    | cons h h' =>
    cases h'; cases h
    exact .inl ⟨_, rfl, q _ H Z ok (Same.refl Z) (.int _)⟩
  · cases e
    cases ha with
    | cons h h' =>
    cases h'; cases h
    exact .inr ⟨_, rfl, q _ H Z ok (Same.refl Z) (.int _)⟩
  · cases e
def intsOf : List D → Option (List Int)
  | [] => some []
  | .int i :: ds => (intsOf ds).map (i :: ·)
  | _ :: _ => none
theorem intsOf_eq : ∀ {ds : List D} {ns : List Int}, intsOf ds = some ns → ds = ns.map PyData.int
  | [], ns, h => by cases h; rfl
  | .int i :: ds, ns, h => by
    unfold intsOf at h
    obtain ⟨ms, e, rfl⟩ := Option.map_eq_some_iff.mp h
    rw [intsOf_eq e]; rfl
theorem intsOf_map : ∀ (ns : List Int), intsOf (ns.map PyData.int) = some ns
  | [] => rfl
  | n :: r => by
    show (intsOf (r.map PyData.int)).map (n :: ·) = _
    rw [intsOf_map r]; rfl
def boolsOf : List D → Option (List Bool)
  | [] => some []
  | .bool i :: ds => (boolsOf ds).map (i :: ·)
  | _ :: _ => none
theorem boolsOf_eq : ∀ {ds : List D} {ns : List Bool}, boolsOf ds = some ns → ds = ns.map PyData.bool
  | [], ns, h => by cases h; rfl
  | .bool i :: ds, ns, h => by
    unfold boolsOf at h
    obtain ⟨ms, e, rfl⟩ := Option.map_eq_some_iff.mp h
    rw [boolsOf_eq e]; rfl
theorem boolsOf_map : ∀ (ns : List Bool), boolsOf (ns.map PyData.bool) = some ns
  | [] => rfl
  | n :: r => by
    show (boolsOf (r.map PyData.bool)).map (n :: ·) = _
    rw [boolsOf_map r]; rfl
def allD : List D → Option D
  | [.list ds] => (boolsOf ds).map fun bs => .bool (bs.all id)
  | _ => none
def anyD : List D → Option D
  | [.list ds] => (boolsOf ds).map fun bs => .bool (bs.any id)
  | _ => none
def sumD : List D → Option D
  | [.list ds] => (intsOf ds).map fun ns => .int ns.sum
  | _ => none
theorem sn_all : SnA K (rAll K) allD := fun b0 B Z0 Z H σ ρ xs as c Q ok ha e q => by
  unfold allD at e
  split at e
  · obtain ⟨bs, e1, rfl⟩ := Option.map_eq_some_iff.mp e
    cases boolsOf_eq e1
    cases ha with
    | cons h h' =>
    cases h'
    cases h with
    | lst h r =>
    cases r.of_bools
    exact ⟨_, bs, rfl, .inl (.inl h), q _ H Z ok (Same.refl Z) (.bl _)⟩
  · cases e
theorem sn_any : SnA K (rAny K) anyD := fun b0 B Z0 Z H σ ρ xs as c Q ok ha e q => by
  unfold anyD at e
  split at e
  · obtain ⟨bs, e1, rfl⟩ := Option.map_eq_some_iff.mp e
    cases boolsOf_eq e1
    cases ha with
    | cons h h' =>
    cases h'
    cases h with
    | lst h r =>
    cases r.of_bools
    exact ⟨_, bs, rfl, .inl (.inl h), q _ H Z ok (Same.refl Z) (.bl _)⟩
  · cases e
theorem sn_sum : SnA K (rSum K) sumD := fun b0 B Z0 Z H σ ρ xs as c Q ok ha e q => by
  unfold sumD at e
  split at e
  · obtain ⟨bs, e1, rfl⟩ := Option.map_eq_some_iff.mp e
    cases intsOf_eq e1
    cases ha with
    | cons h h' =>
    cases h'
    cases h with
    | lst h r =>
    cases r.of_ints
    exact ⟨_, bs, rfl, .inl (.inl h), q _ H Z ok (Same.refl Z) (.int _)⟩
  · cases e
def max2D : List D → Option D
  | [.int i, .int j] => some (.int (if j > i then j else i))
  | _ => none
def min2D : List D → Option D
  | [.int i, .int j] => some (.int (if j < i then j else i))
  | _ => none
def rMax2 : List V → Hp → VK → Prop := fun xs H Q => ∃ i j, xs = [.int i, .int j] ∧ Q (.int (if j > i then j else i)) H
def rMin2 : List V → Hp → VK → Prop := fun xs H Q => ∃ i j, xs = [.int i, .int j] ∧ Q (.int (if j < i then j else i)) H
theorem call_max2U (hc : X.calm = true) : CallR X (.builtin "max") rMax2 := call_max2 hc
theorem call_min2U (hc : X.calm = true) : CallR X (.builtin "min") rMin2 := call_min2 hc
theorem sn_max2 : SnA K rMax2 max2D := fun b0 B Z0 Z H σ ρ xs as c Q ok ha e q => by
  unfold max2D at e
  split at e
  · cases e
    cases ha with
    | cons h h' =>
    cases h' with
    | cons h2 h' =>
    cases h'; cases h; cases h2
    exact ⟨_, _, rfl, q _ H Z ok (Same.refl Z) (.int _)⟩
  · cases e
theorem sn_min2 : SnA K rMin2 min2D := fun b0 B Z0 Z H σ ρ xs as c Q ok ha e q => by
  unfold min2D at e
  split at e
  · cases e
    cases ha with
    | cons h h' =>
    cases h' with
    | cons h2 h' =>
    cases h'; cases h; cases h2
    exact ⟨_, _, rfl, q _ H Z ok (Same.refl Z) (.int _)⟩
  · cases e
def listD : List D → Option (List D)
  | [.list xs] => some xs
  | [.tuple xs] => some xs
  | [.dict [(.list xs, .none)]] => some xs
  | _ => none
def rList (K : PySem.W.Frag) : List V → Hp → VK → Prop := fun xs H Q => ∃ p ys, xs = [.ref p] ∧ (SqL K H p ys ∨ SqT K H p ys) ∧ ∀ l, H l = none → Q (.ref l) (upd H l (.lst ys))
theorem call_listU : CallR X (.type "list") (rList X.K) := call_list_of
theorem sn_list : SnAF K (rList K) listD := fun b0 B Z0 Z H σ ρ xs as c Q ok ha e q => by
  have fin : ∀ {a : Addr} {vs : List V} (p : Addr), (SqL K H a vs ∨ SqT K H a vs) → RpA K Z vs c → rList K [.ref a] H Q := fun {a vs} _ h r => by
    refine ⟨_, _, rfl, h, fun p hp => ?_⟩
    obtain ⟨ok2, zp, bp, ap⟩ := ok.fresh (o := .lst _) hp
    exact q p _ _ ok2 zp bp ap upd_same r
  unfold listD at e
  split at e
  · cases e
    cases ha with
    | cons h h' =>
    cases h'
    cases h with
    | lst h r => exact fin 0 (.inl (.inl (.inl h))) r
  · cases e
    cases ha with
    | cons h h' =>
    cases h'
    cases h with
    | tup h r => exact fin 0 (.inr (same_t ok.zh h)) r
  · cases e
    cases ha with
    | cons h h' =>
    cases h'
    cases h with
    | scr h r => exact fin 0 (.inl h) r
  · cases e
def tupleD : List D → Option D
  | [.list xs] => some (.tuple xs)
  | [.tuple xs] => some (.tuple xs)
  | [.dict [(.list xs, .none)]] => some (.tuple xs)
  | _ => none
def rTuple (K : PySem.W.Frag) : List V → Hp → VK → Prop := fun xs H Q => ∃ p ys, xs = [.ref p] ∧ ((SqL K H p ys ∧ ∀ l, H l = none → Q (.ref l) (upd H l (.tup ys))) ∨ (SqT K H p ys ∧ Q (.ref p) H))
theorem call_tupleU : CallR X (.type "tuple") (rTuple X.K) := call_tuple_of
theorem sn_tuple : SnA K (rTuple K) tupleD := fun b0 B Z0 Z H σ ρ xs as c Q ok ha e q => by
  have fin : ∀ {a : Addr} {vs : List V} {ds : List D} (p : Addr), c = .tuple ds → SqL K H a vs → RpA K Z vs ds → rTuple K [.ref a] H Q := fun {a vs ds} _ ec h r => by
    refine ⟨_, _, rfl, .inl ⟨h, fun p hp => ?_⟩⟩
    obtain ⟨ok2, s2⟩ := ok.new (o := .tup _) hp
    subst ec
    exact q _ _ _ ok2 s2 (.tup (.inl (.inl upd_same)) (r.mono s2))
  unfold tupleD at e
  split at e
  · cases e
    cases ha with
    | cons h h' =>
    cases h'
    cases h with
    | lst h r => exact fin 0 rfl (.inl (.inl h)) r
  · cases e
    cases ha with
    | cons h h' =>
    cases h'
    cases h with
    | tup h r => exact ⟨_, _, rfl, .inr ⟨same_t ok.zh h, q _ H Z ok (Same.refl Z) (.tup h r)⟩⟩
  · cases e
    cases ha with
    | cons h h' =>
    cases h'
    cases h with
    | scr h r => exact fin 0 rfl h r
  · cases e
end
end DL

namespace DL
open PySem L2
section
variable {X : Cx} {K : PySem.W.Frag} {ta tb te tc : TE} {tas : TA} {tg : Expr}
theorem pi_or {e : Expr} {w1 w2 : TI} (h1 : PI X tg e w1) (h2 : PI X tg e w2) : PI X tg e (fun σ H R => w1 σ H R ∨ w2 σ H R) := ⟨fun pins s σ H R I h => by
  rcases h with h | h
  · exact h1.run pins s σ H R I h
  · exact h2.run pins s σ H R I h⟩
def iSeqU (K : PySem.W.Frag) (te : TE) : TI := fun σ H R => iList K te σ H R ∨ iTup K te σ H R
theorem pi_seqU {e : Expr} (he : PE X e te) : PI X tg e (iSeqU X.K te) := pi_or (pi_list he) (pi_tup he)
def itemsD : D → Option (List D)
  | .list xs => some xs
  | .tuple xs => some xs
  | .dict [(.list xs, .none)] => some xs
  | _ => none
def gSeq (g : GE) (ρ : Rho) : R (List D) := (g ρ).bind fun d ρ1 => R.lift (itemsD d) ρ1
theorem wk_list {Z : Hp} {a : Addr} {xs : List V} {ds : List D} (h : SqL K Z a xs) (r : RpA K Z xs ds) : Wk K (Itl K a) Z ds where
  goes := fun i H hi s => ⟨xs, xs[i]'(by rw [r.length]; exact hi), same_l s h, List.getElem?_eq_getElem _⟩
  stops := fun H s => ⟨xs, same_l s h, by rw [r.length]; exact Nat.le_refl _⟩
  yields := fun i H x H' hi y b0 B Z0 Z' σ ρ ok s => by
    obtain ⟨rfl, y⟩ := y
    obtain ⟨d, e1, r1⟩ := r.getV (y xs (same_l (s.trans ok.zh) h))
    exact ⟨Z', d, ok, Same.refl Z', e1, r1.mono s⟩
theorem wk_tup {Z : Hp} {a : Addr} {xs : List V} {ds : List D} (h : SqT K Z a xs) (r : RpA K Z xs ds) : Wk K (Itt K a) Z ds where
  goes := fun i H hi s => ⟨xs, xs[i]'(by rw [r.length]; exact hi), same_t s h, List.getElem?_eq_getElem _⟩
  stops := fun H s => ⟨xs, same_t s h, by rw [r.length]; exact Nat.le_refl _⟩
  yields := fun i H x H' hi y b0 B Z0 Z' σ ρ ok s => by
    obtain ⟨rfl, y⟩ := y
    obtain ⟨d, e1, r1⟩ := r.getV (y xs (same_t (s.trans ok.zh) h))
    exact ⟨Z', d, ok, Same.refl Z', e1, r1.mono s⟩
theorem di_seq {g : GE} (h : DE K te g) : DI K (iSeqU K te) (gSeq g) := fun b0 B Z0 Z H σ ρ ds ρ' W ok e q => by
  obtain ⟨d, ρ1, e1, e⟩ := R.bind_ok e
  obtain ⟨e2, rfl⟩ := R.lift_ok e
  unfold itemsD at e2
  split at e2
  · cases e2
    refine .inl (h b0 B Z0 Z H σ ρ _ _ _ ok e1 fun v H1 Z1 ok1 s1 r1 => ?_)
    cases r1 with
    | lst hs ra => exact ⟨_, rfl, ⟨_, .inl (.inl (ok1.zh _ _ hs))⟩, q _ H1 Z1 ok1 s1 (wk_list (.inl (.inl hs)) ra)⟩
  · cases e2
    refine .inr (h b0 B Z0 Z H σ ρ _ _ _ ok e1 fun v H1 Z1 ok1 s1 r1 => ?_)
    cases r1 with
    | tup hs ra => exact ⟨_, rfl, ⟨_, same_t ok1.zh hs⟩, q _ H1 Z1 ok1 s1 (wk_tup hs ra)⟩
  · cases e2
    refine .inl (h b0 B Z0 Z H σ ρ _ _ _ ok e1 fun v H1 Z1 ok1 s1 r1 => ?_)
    cases r1 with
    | scr hs ra => exact ⟨_, rfl, ⟨_, same_l ok1.zh hs⟩, q _ H1 Z1 ok1 s1 (wk_list hs ra)⟩
  · cases e2
/-! ### range -/
def rangeD (lo : Int) (n : Nat) : List D := (List.range n).map fun (i : Nat) => PyData.int (lo + (i : Int))
theorem rangeD_len (lo : Int) (n : Nat) : (rangeD lo n).length = n := by unfold rangeD; rw [List.length_map, List.length_range]
theorem rangeD_get {lo : Int} {n i : Nat} (h : i < n) : (rangeD lo n)[i]? = some (.int (lo + (i : Int))) := by
  unfold rangeD
  rw [List.getElem?_map, List.getElem?_range h]; rfl
theorem wk_rng {Z : Hp} {lo : Int} {n : Nat} : Wk K (Itr lo n) Z (rangeD lo n) where
  goes := fun i H hi s => by rw [rangeD_len] at hi; exact hi
  stops := fun H s => by rw [rangeD_len]; exact Nat.le_refl _
  yields := fun i H x H' hi y b0 B Z0 Z' σ ρ ok s => by
    obtain ⟨rfl, rfl⟩ := y
    rw [rangeD_len] at hi
    exact ⟨Z', _, ok, Same.refl Z', rangeD_get hi, .int _⟩
def rng1 : List D → Option (List D)
  | [.int j] => if -(2 ^ 62) ≤ j ∧ j < 2 ^ 62 then some (rangeD 0 j.toNat) else none
  | _ => none
def rng2 : List D → Option (List D)
  | [.int i, .int j] => if -(2 ^ 62) ≤ i ∧ i < 2 ^ 62 ∧ -(2 ^ 62) ≤ j ∧ j < 2 ^ 62 then some (rangeD i (j - i).toNat) else none
  | _ => none
theorem di_rng1 {ga : GA} (h : DA K tas ga) : DI K (iRng1 tas) (eCall rng1 ga) := fun b0 B Z0 Z H σ ρ ds ρ' W ok e q => by
  obtain ⟨os, as, e1, e2, e3⟩ := call_ok e
  refine h b0 B Z0 Z H σ ρ os ρ' _ ok e1 fun vs H1 Z1 ok1 s1 r1 => ?_
  have ra := valA_ok r1 e2
  unfold rng1 at e3
  split at e3
  · split at e3
    · rename_i hb
      cases e3
      cases ra with
      | cons r ra =>
      cases r; cases ra
      exact ⟨_, rfl, hb.1, hb.2, q _ H1 Z1 ok1 s1 wk_rng⟩
    · cases e3
  · cases e3
theorem di_rng2 {ga : GA} (h : DA K tas ga) : DI K (iRng2 tas) (eCall rng2 ga) := fun b0 B Z0 Z H σ ρ ds ρ' W ok e q => by
  obtain ⟨os, as, e1, e2, e3⟩ := call_ok e
  refine h b0 B Z0 Z H σ ρ os ρ' _ ok e1 fun vs H1 Z1 ok1 s1 r1 => ?_
  have ra := valA_ok r1 e2
  unfold rng2 at e3
  split at e3
  · split at e3
    · rename_i hb
      cases e3
      cases ra with
      | cons r ra =>
      cases ra with
      | cons r' ra =>
      cases r; cases r'; cases ra
      exact ⟨_, _, rfl, hb, q _ H1 Z1 ok1 s1 wk_rng⟩
    · cases e3
  · cases e3
/-! ### zip and enumerate of lists and tuples in any mix -/
/-- what may be walked: a list, a tuple -/
inductive Sk where
  | L
  | T
def Sk.sq (K : PySem.W.Frag) (H : Hp) (a : Addr) (xs : List V) : Sk → Prop
  | .L => SqL K H a xs
  | .T => SqT K H a xs
def Sk.src (h : Heap) (a : Addr) (its : Array Value) : Sk → Prop
  | .L => h.IsList a its
  | .T => h.IsTuple a its
def Sk.itr (h : Heap) (it a : Addr) (i : Nat) : Sk → Prop
  | .L => h.IsListIter it a i
  | .T => h.IsTupleIter it a i
def Sk.obj (a : Addr) : Sk → Obj
  | .L => { cls := .type "list_iterator", data := .fields #[.ref a, .int 0 0] }
  | .T => { cls := .type "tuple_iterator", data := .fields #[.ref a, .int 0 0] }
theorem Sk.draws {prog : Program} {w : World} {A : Around} (k : Sk) (hh : A.handled = none) (it a : Addr) (hne : a ≠ it) (its : Array Value) : Draws prog w A it [it, a] its.size (fun i v => its[i]? = some v) (fun i h => k.itr h it a i ∧ k.src h a its) := by
  cases k with
  | L => exact Draws.list hh it a hne its
  | T => exact Draws.tuple hh it a hne its
theorem Sk.begins (k : Sk) (a : Addr) (its : Array Value) : Begins (.ref a) (k.obj a) (fun h => k.src h a its) := by
  cases k with
  | L => exact begins_list a its
  | T => exact begins_tuple a its
theorem Sk.first (k : Sk) {h : Heap} {it a : Addr} (e : h.get? it = some (k.obj a)) : k.itr h it a 0 := by
  cases k with
  | L => exact ⟨_, e, rfl, rfl⟩
  | T => exact ⟨_, e, rfl, rfl⟩
theorem Sk.there (k : Sk) {pins : List (Addr × Obj)} {σ : L2.St} {H : Hp} {s : Shared} {a : Addr} {xs : List V} (I : L2.Inv X pins σ H s) (h : k.sq X.K H a xs) : ∃ its, Vals xs its ∧ k.src s.heap a its.toArray := by
  cases k with
  | L =>
    obtain ⟨its, r, p, _⟩ := I.list h
    exact ⟨its, r, p.isList⟩
  | T =>
    obtain ⟨its, r, p, _⟩ := I.tuple h
    exact ⟨its, r, p⟩
theorem Sk.lt (k : Sk) {h : Heap} {a : Addr} {its : Array Value} (e : k.src h a its) : a < h.objs.size := by
  cases k with
  | L => obtain ⟨o, q, _⟩ := e; exact Heap.lt_size q
  | T => obtain ⟨o, q, _⟩ := e; exact Heap.lt_size q
theorem Sk.obj_of (k : Sk) {h : Heap} {it a : Addr} {i : Nat} (e : k.itr h it a i) : ∃ o, h.get? it = some o ∧ ∀ v, o.data ≠ .cell v := by
  cases k with
  | L => obtain ⟨o, q, _, d⟩ := e; exact ⟨o, q, fun v z => by rw [d] at z; cases z⟩
  | T => obtain ⟨o, q, _, d⟩ := e; exact ⟨o, q, fun v z => by rw [d] at z; cases z⟩
theorem Sk.keep (k : Sk) {h h' : Heap} {it a : Addr} {i : Nat} (e : k.itr h it a i) (kp : ∀ o, h.get? it = some o → h'.get? it = some o) : k.itr h' it a i := by
  cases k with
  | L => obtain ⟨o, q, r⟩ := e; exact ⟨o, kp o q, r⟩
  | T => obtain ⟨o, q, r⟩ := e; exact ⟨o, kp o q, r⟩
theorem Sk.mono (k : Sk) {Z H : Hp} {a : Addr} {xs : List V} (s : Same Z H) (h : k.sq K Z a xs) : k.sq K H a xs := by
  cases k with
  | L => exact same_l s h
  | T => exact same_t s h
/-- pairs, n of them, while S holds -/
def ItP (S : Hp → Prop) (n : Nat) (f g : Nat → Option V) : It :=
  ⟨fun i H => S H ∧ i < n, fun i H v H' => ∃ T x y, v = .ref T ∧ H T = none ∧ H' = upd H T (.tup [x, y]) ∧ f i = some x ∧ g i = some y, fun i H => S H ∧ i = n⟩
/-- a new pair goes into the heap, the iterators' own objects turn -/
theorem pair_inv {pins : List (Addr × Obj)} {σ : L2.St} {H : Hp} {s : Shared} {h' : Heap} {tk : Nat} {T : Addr} {x y : V} {u v : Value} {wr fp : List Addr} (I : L2.Inv X pins σ H s) (hf : ∀ b ∈ fp, FpOk X pins H b) (sub : ∀ b ∈ wr, b ∈ fp)
    (kp : ∀ b o, b ∉ wr → s.heap.get? b = some o → h'.get? b = some o) (hT : s.heap.objs.size ≤ T) (tup : h'.IsTuple T #[u, v]) (rx : RelV x u) (ry : RelV y v) (live : ∀ b ∈ fp, ∃ o, s.heap.get? b = some o) :
    L2.Inv X pins σ (upd H T (.tup [x, y])) { s with heap := h', toks := tk } ∧ H T = none ∧ ∀ b ∈ fp, upd H T (.tup [x, y]) b = none := by
  refine ⟨I.turnedNew (t' := tk) (ch := wr) kp (fun b hb => hf b (sub b hb)) hT ⟨by show 2 ≤ sizeLine; decide, [u, v], .cons rx (.cons ry .nil), tup⟩, I.hok.fresh hT, fun b hb => ?_⟩
  obtain ⟨o, e⟩ := live b hb
  rw [upd_ne (Nat.ne_of_lt (Nat.lt_of_lt_of_le (Heap.lt_size e) hT))]
  exact (hf b hb).1
def zipTn (k1 k2 : Sk) (a b N : Addr) : Nat → Heap → Prop := fun i h => IsZip h (N + 4) (N + 2) (N + 3) .none ∧ IsTupOf2 h (N + 2) (.ref N) (.ref (N + 1)) ∧ (∃ a1 a2, IsTupOf2 h (N + 3) a1 a2) ∧ k1.itr h N a i ∧ k2.itr h (N + 1) b i
def fp5 (N : Addr) : List Addr := [N + 4, N + 2, N + 3, N, N + 1]
theorem zip_live {k1 k2 : Sk} {a b N : Addr} {i : Nat} {h : Heap} (st : zipTn k1 k2 a b N i h) : ∀ c ∈ fp5 N, ∃ o, h.get? c = some o ∧ ∀ v, o.data ≠ .cell v := fun c hc => by
  obtain ⟨h1, h2, ⟨a1, a2, h3⟩, h4, h5⟩ := st
  have e : c = N + 4 ∨ c = N + 2 ∨ c = N + 3 ∨ c = N ∨ c = N + 1 := by simpa [fp5] using hc
  rcases e with e | e | e | e | e
  · rw [e]; exact ⟨_, h1, fun v z => nomatch z⟩
  · rw [e]; exact ⟨_, h2, fun v z => nomatch z⟩
  · rw [e]; exact ⟨_, h3, fun v z => nomatch z⟩
  · rw [e]; exact k1.obj_of h4
  · rw [e]; exact k2.obj_of h5
theorem turn_zipU {P : Program} {w : World} {elts : List Expr} {kk : Nat} {tpos : Pos} (k1 k2 : Sk) {a b N : Addr} (ha : a < N) (hb : b < N) (xs ys : List V) :
    Turn P w K (.Tuple elts kk tpos) (ItP (fun H => k1.sq K H a xs ∧ k2.sq K H b ys) (min xs.length ys.length) (fun i => xs[i]?) (fun i => ys[i]?)) (fp5 N) (N + 4) (zipTn k1 k2 a b N) where
  mem := by simp [fp5]
  obj := fun i h st => zip_live st
  keep := fun i h h' st kp => by
    obtain ⟨h1, h2, ⟨a1, a2, h3⟩, h4, h5⟩ := st
    exact ⟨kp _ (by simp [fp5]) _ h1, kp _ (by simp [fp5]) _ h2, ⟨a1, a2, kp _ (by simp [fp5]) _ h3⟩, k1.keep h4 fun o q => kp _ (by simp [fp5]) o q, k2.keep h5 fun o q => kp _ (by simp [fp5]) o q⟩
  item := by
    intro X hP hw hK hc i pins s σ H E I hf st hg
    subst hP hw hK
    obtain ⟨⟨q1, q2⟩, hi⟩ := hg
    obtain ⟨i1, r1, s1⟩ := k1.there I q1
    obtain ⟨i2, r2, s2⟩ := k2.there I q2
    have W := GoesN.zip2 (prog := X.prog) (w := X.w) (A := X.A) (elts := elts) (x1 := kk) (pos := tpos) (zip_sep2 (N := N) (fp1 := [a]) (fp2 := [b]) (by simpa using ha) (by simpa using hb))
      (k1.draws (A := X.A.in1) (I.ok.hd hc) N a (Nat.ne_of_lt ha) i1.toArray) (k2.draws (A := X.A.in1) (I.ok.hd hc) (N + 1) b (Nat.ne_of_lt (Nat.lt_succ_of_lt hb)) i2.toArray)
    have st0 := st
    obtain ⟨h1, h2, h3, h4, h5⟩ := st
    refine W.goes i s _ E (by rw [List.size_toArray, List.size_toArray, ← r1.length, ← r2.length]; exact hi) ⟨h1, h2, h3, ⟨h4, s1⟩, h5, s2⟩ fun v h' tk hY st' kp htk => ?_
    obtain ⟨T, x, y, rfl, hT, ex, ey, tup⟩ := hY
    have gx : xs[i]? = some (xs[i]'(by omega)) := List.getElem?_eq_getElem _
    have gy : ys[i]? = some (ys[i]'(by omega)) := List.getElem?_eq_getElem _
    obtain ⟨u, eu, ru⟩ := r1.get gx
    obtain ⟨v, ev, rv⟩ := r2.get gy
    have e1 : u = x := Option.some.inj (eu.symm.trans (by simpa using ex))
    have e2 : v = y := Option.some.inj (ev.symm.trans (by simpa using ey))
    subst e1 e2
    obtain ⟨I2, hn, fr⟩ := pair_inv (tk := tk) I hf (by simp [fp5]) kp hT tup ru rv fun b hb => let ⟨o, e, _⟩ := zip_live st0 b hb; ⟨o, e⟩
    obtain ⟨g1, g2, g3, ⟨g4, _⟩, g5, _⟩ := st'
    exact ⟨.ref T, _, I2, rfl, ⟨T, _, _, rfl, hn, rfl, gx, gy⟩, ⟨g1, g2, g3, g4, g5⟩, fr⟩
  done := by
    intro X hP hw hK hc i pins s σ H E I hf st hg
    subst hP hw hK
    obtain ⟨⟨q1, q2⟩, hi⟩ := hg
    obtain ⟨i1, r1, s1⟩ := k1.there I q1
    obtain ⟨i2, r2, s2⟩ := k2.there I q2
    have W := GoesN.zip2 (prog := X.prog) (w := X.w) (A := X.A) (elts := elts) (x1 := kk) (pos := tpos) (zip_sep2 (N := N) (fp1 := [a]) (fp2 := [b]) (by simpa using ha) (by simpa using hb))
      (k1.draws (A := X.A.in1) (I.ok.hd hc) N a (Nat.ne_of_lt ha) i1.toArray) (k2.draws (A := X.A.in1) (I.ok.hd hc) (N + 1) b (Nat.ne_of_lt (Nat.lt_succ_of_lt hb)) i2.toArray)
    obtain ⟨h1, h2, h3, h4, h5⟩ := st
    have hn : min i1.toArray.size i2.toArray.size = i := by rw [List.size_toArray, List.size_toArray, ← r1.length, ← r2.length]; exact hi.symm
    rw [hn] at W
    refine W.stops s _ E ⟨h1, h2, h3, ⟨h4, s1⟩, h5, s2⟩ fun h' tk kp htk => ?_
    exact I.turnedL (t' := tk) (ch := [N + 4, N + 3, N, N + 1]) kp fun b hb => hf b (by
      have : b = N + 4 ∨ b = N + 3 ∨ b = N ∨ b = N + 1 := by simpa using hb
      rcases this with e | e | e | e <;> simp [fp5, e])
  self := fun A i s Q E st h => wpAny_pyIter_zip st.1 h
def iZipU (K : PySem.W.Frag) (ta : TA) : TI := fun σ H R => ta σ H fun vs H1 => ∃ a b k1 k2 xs ys, vs = [.ref a, .ref b] ∧ Sk.sq K H1 a xs k1 ∧ Sk.sq K H1 b ys k2 ∧ R (ItP (fun H => k1.sq K H a xs ∧ k2.sq K H b ys) (min xs.length ys.length) (fun i => xs[i]?) (fun i => ys[i]?)) H1
theorem pi_zipU {e e2 : Expr} {ta : TA} {p pos tpos : Pos} {elts : List Expr} {kk : Nat} (hg : Gl X "zip") (hm : X.mg "zip" = none) (ha : PA X [e, e2] ta)
    (h1 : starEach [e, e2] X.env = (false, eval e X.env) :: starEach [e2] X.env := by rfl) (h2 : (backTo pos (starEach [e2] X.env)).any (·.1) = false := by rfl) :
    PI X (.Tuple elts kk tpos) (.Call (.Name "zip" p) [e, e2] [] pos) (iZipU X.K ta) := by
  refine ⟨fun pins s σ H R I h => PyProof.Rows.Call_ (ld_blt I hg hm PyProof.Rows.boot_zip (PyProof.Rows.callWith_type1 (thn (ha.run pos pins s σ H _ I h) fun us s1 ⟨vs, H1, I1, r1, q1⟩ => ?_) h1 h2))⟩
  obtain ⟨a, b, k1, k2, xs, ys, rfl, q1, q2, q⟩ := q1
  cases r1 with
  | cons r rr =>
  cases rr with
  | cons r' rr =>
  cases rr; cases r; cases r'
  obtain ⟨i1, r1, s1'⟩ := k1.there I1 q1
  obtain ⟨i2, r2, s2'⟩ := k2.there I1 q2
  refine zip_begins2 (k1.begins a i1.toArray) (k2.begins b i2.toArray) s1' s2' fun h' hz hTI hTO g1 g2 hsz hk => wpAny_pyIter_zip hz ?_
  refine ⟨s1.heap.objs.size + 4, fp5 s1.heap.objs.size, _, _, H1, rfl, I1.kept (t' := s1.toks) hk, turn_zipU k1 k2 (k1.lt s1') (k2.lt s2') xs ys, ⟨hz, hTI, ⟨_, _, hTO⟩, k1.first g1, k2.first g2⟩, fun c hc => ?_, q⟩
  have hle : s1.heap.objs.size ≤ c := by
    have : c = s1.heap.objs.size + 4 ∨ c = s1.heap.objs.size + 2 ∨ c = s1.heap.objs.size + 3 ∨ c = s1.heap.objs.size ∨ c = s1.heap.objs.size + 1 := by simpa [fp5] using hc
    rcases this with z | z | z | z | z <;> rw [z] <;> first | exact Nat.le_add_right _ _ | exact Nat.le_refl _
  exact I1.fpOk hle (I1.hok.fresh hle)
theorem wk_pair {Z : Hp} {S : Hp → Prop} {n : Nat} {f g : Nat → Option V} {ds : List D} (hS : ∀ H, Same Z H → S H) (hn : ds.length = n) (hd : ∀ i x y, i < n → f i = some x → g i = some y → ∃ a b, ds[i]? = some (.tuple [a, b]) ∧ Rp K Z x a ∧ Rp K Z y b) : Wk K (ItP S n f g) Z ds where
  goes := fun i H hi s => ⟨hS H s, by rw [← hn]; exact hi⟩
  stops := fun H s => ⟨hS H s, hn⟩
  yields := fun i H x H' hi y b0 B Z0 Z' σ ρ ok s => by
    obtain ⟨T, x, y, rfl, hT, rfl, e1, e2⟩ := y
    obtain ⟨a, b, ed, ra, rb⟩ := hd i x y (by omega) e1 e2
    obtain ⟨ok2, s2⟩ := ok.new (o := .tup [x, y]) hT
    exact ⟨_, _, ok2, s2, ed, .tup (.inl (.inl upd_same)) (.cons ((ra.mono s).mono s2) (.cons ((rb.mono s).mono s2) .nil))⟩
def skOf : D → Option (Sk × List D)
  | .list xs => some (.L, xs)
  | .tuple xs => some (.T, xs)
  | .dict [(.list xs, .none)] => some (.L, xs)
  | _ => none
theorem sk_rp {Z : Hp} {v : V} {d : D} {k : Sk} {ds : List D} (h : skOf d = some (k, ds)) (r : Rp K Z v d) : ∃ a xs, v = .ref a ∧ k.sq K Z a xs ∧ RpA K Z xs ds := by
  unfold skOf at h
  split at h
  · cases h
    cases r with
    | lst hs ra => exact ⟨_, _, rfl, .inl (.inl hs), ra⟩
  · cases h
    cases r with
    | tup hs ra => exact ⟨_, _, rfl, hs, ra⟩
  · cases h
    cases r with
    | scr hs ra => exact ⟨_, _, rfl, hs, ra⟩
  · cases h
def zipD (as bs : List D) : List D := List.zipWith (fun a b => .tuple [a, b]) as bs
def zip2D : List D → Option (List D)
  | [a, b] => match skOf a, skOf b with
    | some (_, xs), some (_, ys) => some (zipD xs ys)
    | _, _ => none
  | _ => none
theorem di_zip {ga : GA} (h : DA K tas ga) : DI K (iZipU K tas) (eCall zip2D ga) := fun b0 B Z0 Z H σ ρ ds ρ' W ok e q => by
  obtain ⟨os, as, e1, e2, e3⟩ := call_ok e
  refine h b0 B Z0 Z H σ ρ os ρ' _ ok e1 fun vs H1 Z1 ok1 s1 r1 => ?_
  have ra := valA_ok r1 e2
  unfold zip2D at e3
  split at e3
  · split at e3
    · rename_i k1 xs k2 ys f1 f2
      cases e3
      cases ra with
      | cons r ra =>
      cases ra with
      | cons r' ra =>
      cases ra
      obtain ⟨a, va, rfl, qa, rva⟩ := sk_rp f1 r
      obtain ⟨b, vb, rfl, qb, rvb⟩ := sk_rp f2 r'
      refine ⟨a, b, k1, k2, va, vb, rfl, k1.mono ok1.zh qa, k2.mono ok1.zh qb, q _ H1 Z1 ok1 s1 (wk_pair (fun H s => ⟨k1.mono s qa, k2.mono s qb⟩) ?_ fun i x y hi ex ey => ?_)⟩
      · unfold zipD; rw [List.length_zipWith, rva.length, rvb.length]
      · obtain ⟨d1, g1, rd1⟩ := rva.getV ex
        obtain ⟨d2, g2, rd2⟩ := rvb.getV ey
        refine ⟨d1, d2, ?_, rd1, rd2⟩
        unfold zipD
        rw [List.getElem?_zipWith, g1, g2]
    · cases e3
  · cases e3
end
end DL

namespace DL
open PySem L2
/-! ### enumerate(x), x a list or a tuple -/
theorem enum_new1 {v : Value} {o : Obj} {HH : Heap → Prop} (B : Begins v o HH) :
    Meets (Builtin.«enumerate.__new__» ⟨[.type "enumerate", v], []⟩) (fun _ R s => HH s.heap ∧
      R (.ok (.ret (.ref (s.heap.push o).objs.size))) { s with heap := (s.heap.push o).push { cls := .type "enumerate", data := .fields #[.none, .bool false, .ref s.heap.objs.size, rawInt 0, .none, .none] } }) :=
  .of_wp fun prog w A R s h => by
    obtain ⟨hp, gn, dr, tk, os⟩ := s
    obtain ⟨h1, h⟩ := h
    have hsub := sub_enumerate
    have q1 : ∀ {A' : Around} {E : Value → Shared → Prop} {Q : Value → Shared → Prop}, Q (.ref hp.objs.size) ⟨hp.push o, gn, dr, tk, os⟩ → wpAny (model prog w) A' (pyIter v) Q E ⟨hp, gn, dr, tk, os⟩ :=
      fun q => B.iter prog w _ _ ⟨hp, gn, dr, tk, os⟩ _ h1 q
    wp_walk using q1
    refine wpAny_stack_any fun st => wpAny_pure ?_
    split
    · rename_i c _ _ _ _ _
      cases (c == Value.type "enumerate") <;> (wp_walk using q1; exact ⟨_, rfl, h⟩)
    · wp_walk using q1
      exact ⟨_, rfl, h⟩
theorem enum_begins1 {prog : Program} {w : World} {A : Around} {E : Value → Shared → Prop} {s : Shared} {v : Value} {o : Obj} {HH : Heap → Prop} {Q : Value → Shared → Prop} (B : Begins v o HH) (h1 : HH s.heap)
    (h : ∀ h', IsEnum h' (s.heap.objs.size + 1) s.heap.objs.size 0 .none → h'.get? s.heap.objs.size = some o → (∀ b o, s.heap.get? b = some o → h'.get? b = some o) → Q (.ref (s.heap.objs.size + 1)) { s with heap := h' }) :
    wpAny (model prog w) A (call (.type "enumerate") [v]) Q E s := by
  refine callType_new F.called_enumerate (by decide) (F.typeCall_enumerate_1 _) (F.newCall_enumerate_1 _) (fun obj => F.args_object_init_2 obj _) F.entry_enumerate_new (enum_new1 B) ⟨h1, ?_⟩
  have hz : (s.heap.push o).objs.size = s.heap.objs.size + 1 := Heap.size_push ..
  show _ ∧ _
  rw [hz]
  have he : IsEnum ((s.heap.push o).push { cls := .type "enumerate", data := .fields #[.none, .bool false, .ref s.heap.objs.size, rawInt 0, .none, .none] }) (s.heap.objs.size + 1) s.heap.objs.size 0 .none := by
    have q := Heap.get?_push_size (s.heap.push o) (o := { cls := .type "enumerate", data := .fields #[.none, .bool false, .ref s.heap.objs.size, rawInt 0, .none, .none] }) rfl
    rw [hz] at q
    exact q
  exact ⟨⟨_, he, rfl⟩, h _ he (Heap.get?_push_of_some _ (Heap.get?_push_size _ B.free)) fun b o x => Heap.get?_push_of_some _ (Heap.get?_push_of_some _ x)⟩
section
variable {X : Cx} {K : PySem.W.Frag} {ta tb te tc : TE} {tas : TA} {tg : Expr}
def enumTn (k : Sk) (a N : Addr) : Nat → Heap → Prop := fun i h => (∃ old, IsEnum h (N + 1) N (0 + (i : Int)) old) ∧ k.itr h N a i
theorem enum_live {k : Sk} {a N : Addr} {i : Nat} {h : Heap} (st : enumTn k a N i h) : ∀ c ∈ [N + 1, N], ∃ o, h.get? c = some o ∧ ∀ v, o.data ≠ .cell v := fun c hc => by
  obtain ⟨⟨old, h1⟩, h2⟩ := st
  have e : c = N + 1 ∨ c = N := by simpa using hc
  rcases e with e | e
  · rw [e]; exact ⟨_, h1, fun v z => nomatch z⟩
  · rw [e]; exact k.obj_of h2
theorem turn_enumU {P : Program} {w : World} {elts : List Expr} {kk : Nat} {tpos : Pos} (k : Sk) {a N : Addr} (ha : a < N) (xs : List V) :
    Turn P w K (.Tuple elts kk tpos) (ItP (fun H => k.sq K H a xs) xs.length (fun i => some (.int (0 + (i : Int)))) (fun i => xs[i]?)) [N + 1, N] (N + 1) (enumTn k a N) where
  mem := by simp
  obj := fun i h st => enum_live st
  keep := fun i h h' st kp => by
    obtain ⟨⟨old, h1⟩, h2⟩ := st
    exact ⟨⟨old, kp _ (by simp) _ h1⟩, k.keep h2 fun o q => kp _ (by simp) o q⟩
  item := by
    intro X hP hw hK hc i pins s σ H E I hf st hg
    subst hP hw hK
    obtain ⟨q1, hi⟩ := hg
    obtain ⟨i1, r1, s1⟩ := k.there I q1
    have W := GoesN.enumFrom (prog := X.prog) (w := X.w) (A := X.A) (elts := elts) (x1 := kk) (pos := tpos) 0 (k.draws (A := X.A.in1) (I.ok.hd hc) N a (Nat.ne_of_lt ha) i1.toArray) (N + 1) (Nat.succ_ne_self _) (by
      intro z
      rcases List.mem_cons.mp z with z | z
      · exact Nat.succ_ne_self _ z
      · rcases List.mem_cons.mp z with z | z
        · exact Nat.lt_irrefl _ (Nat.lt_of_lt_of_le ha (by rw [← z]; exact Nat.le_succ N))
        · cases z) (by simp)
    have st0 := st
    obtain ⟨h1, h2⟩ := st
    refine W.goes i s _ E (by rw [List.size_toArray, ← r1.length]; exact hi) ⟨h1, h2, s1⟩ fun v h' tk hY st' kp htk => ?_
    obtain ⟨T, t, x, rfl, hT, ex, tup⟩ := hY
    have gx : xs[i]? = some xs[i] := List.getElem?_eq_getElem _
    obtain ⟨u, eu, ru⟩ := r1.get gx
    have e1 : u = x := Option.some.inj (eu.symm.trans (by simpa using ex))
    subst e1
    obtain ⟨I2, hn, fr⟩ := pair_inv (tk := tk) (x := .int (0 + (i : Int))) I hf (by simp) kp hT tup ⟨_, rfl⟩ ru fun b hb => let ⟨o, e, _⟩ := enum_live st0 b hb; ⟨o, e⟩
    obtain ⟨g1, g2, _⟩ := st'
    exact ⟨.ref T, _, I2, rfl, ⟨T, _, _, rfl, hn, rfl, rfl, gx⟩, ⟨g1, g2⟩, fr⟩
  done := by
    intro X hP hw hK hc i pins s σ H E I hf st hg
    subst hP hw hK
    obtain ⟨q1, hi⟩ := hg
    obtain ⟨i1, r1, s1⟩ := k.there I q1
    have W := GoesN.enumFrom (prog := X.prog) (w := X.w) (A := X.A) (elts := elts) (x1 := kk) (pos := tpos) 0 (k.draws (A := X.A.in1) (I.ok.hd hc) N a (Nat.ne_of_lt ha) i1.toArray) (N + 1) (Nat.succ_ne_self _) (by
      intro z
      rcases List.mem_cons.mp z with z | z
      · exact Nat.succ_ne_self _ z
      · rcases List.mem_cons.mp z with z | z
        · exact Nat.lt_irrefl _ (Nat.lt_of_lt_of_le ha (by rw [← z]; exact Nat.le_succ N))
        · cases z) (by simp)
    obtain ⟨h1, h2⟩ := st
    have hn : i1.toArray.size = i := by rw [List.size_toArray, ← r1.length]; exact hi.symm
    rw [hn] at W
    refine W.stops s _ E ⟨h1, h2, s1⟩ fun h' tk kp htk => ?_
    exact I.turnedL (t' := tk) (ch := [N + 1, N]) kp fun b hb => hf b hb
  self := fun A i s Q E st h => let ⟨⟨_, he⟩, _⟩ := st; wpAny_pyIter_enum he h
def iEnumU (K : PySem.W.Frag) (ta : TA) : TI := fun σ H R => ta σ H fun vs H1 => ∃ a k xs, vs = [.ref a] ∧ Sk.sq K H1 a xs k ∧ R (ItP (fun H => k.sq K H a xs) xs.length (fun i => some (.int (0 + (i : Int)))) (fun i => xs[i]?)) H1
theorem pi_enumU {e : Expr} {ta : TA} {p pos tpos : Pos} {elts : List Expr} {kk : Nat} (hg : Gl X "enumerate") (hm : X.mg "enumerate" = none) (ha : PA X [e] ta) (h1 : starEach [e] X.env = [(false, eval e X.env)] := by rfl) :
    PI X (.Tuple elts kk tpos) (.Call (.Name "enumerate" p) [e] [] pos) (iEnumU X.K ta) := by
  refine ⟨fun pins s σ H R I h => PyProof.Rows.Call_ (ld_blt I hg hm PyProof.Rows.boot_enumerate (PyProof.Rows.callWith_type1 (thn (ha.run pos pins s σ H _ I h) fun us s1 ⟨vs, H1, I1, r1, q1⟩ => ?_) h1 rfl))⟩
  obtain ⟨a, k, xs, rfl, q1, q⟩ := q1
  cases r1 with
  | cons r rr =>
  cases rr; cases r
  obtain ⟨i1, r1, s1'⟩ := k.there I1 q1
  refine enum_begins1 (k.begins a i1.toArray) s1' fun h' he g1 hk => wpAny_pyIter_enum he ?_
  refine ⟨s1.heap.objs.size + 1, [s1.heap.objs.size + 1, s1.heap.objs.size], _, _, H1, rfl, I1.kept (t' := s1.toks) hk, turn_enumU k (k.lt s1') xs, ⟨⟨_, he⟩, k.first g1⟩, fun c hc => ?_, q⟩
  have hle : s1.heap.objs.size ≤ c := by
    have : c = s1.heap.objs.size + 1 ∨ c = s1.heap.objs.size := by simpa using hc
    rcases this with z | z <;> rw [z] <;> first | exact Nat.le_add_right _ _ | exact Nat.le_refl _
  exact I1.fpOk hle (I1.hok.fresh hle)
def enumFrom (i : Nat) : List D → List D
  | [] => []
  | d :: ds => .tuple [.int (i : Int), d] :: enumFrom (i + 1) ds
theorem enumFrom_len : ∀ (ds : List D) (i : Nat), (enumFrom i ds).length = ds.length
  | [], _ => rfl
  | d :: ds, i => by
    show (enumFrom (i + 1) ds).length + 1 = ds.length + 1
    rw [enumFrom_len ds (i + 1)]
theorem enumFrom_get : ∀ (ds : List D) (i j : Nat) (d : D), ds[j]? = some d → (enumFrom i ds)[j]? = some (.tuple [.int ((i + j : Nat) : Int), d])
  | d :: ds, i, 0, e, h => by cases h; rfl
  | d :: ds, i, j + 1, e, h => by
    show (enumFrom (i + 1) ds)[j]? = _
    rw [enumFrom_get ds (i + 1) j e h, show i + 1 + j = i + (j + 1) by omega]
def enum1D : List D → Option (List D)
  | [a] => (skOf a).map fun q => enumFrom 0 q.2
  | _ => none
theorem di_enum {ga : GA} (h : DA K tas ga) : DI K (iEnumU K tas) (eCall enum1D ga) := fun b0 B Z0 Z H σ ρ ds ρ' W ok e q => by
  obtain ⟨os, as, e1, e2, e3⟩ := call_ok e
  refine h b0 B Z0 Z H σ ρ os ρ' _ ok e1 fun vs H1 Z1 ok1 s1 r1 => ?_
  have ra := valA_ok r1 e2
  unfold enum1D at e3
  split at e3
  · obtain ⟨⟨k, xs⟩, f1, rfl⟩ := Option.map_eq_some_iff.mp e3
    cases ra with
    | cons r ra =>
    cases ra
    obtain ⟨a, va, rfl, qa, rva⟩ := sk_rp f1 r
    refine ⟨a, k, va, rfl, k.mono ok1.zh qa, q _ H1 Z1 ok1 s1 (wk_pair (fun H s => k.mono s qa) (by rw [enumFrom_len, rva.length]) fun i x y hi ex ey => ?_)⟩
    cases ex
    obtain ⟨d1, g1, rd1⟩ := rva.getV ey
    exact ⟨_, d1, enumFrom_get xs 0 i d1 g1, by rw [show ((0 + i : Nat) : Int) = 0 + (i : Int) by omega]; exact .int _, rd1⟩
  · cases e3
/-! ### isinstance(x, T), T a built-in class or a written tuple of such -/
def tyName : D → String
  | .none => "NoneType"
  | .bool _ => "bool"
  | .int _ => "int"
  | .str _ => "str"
  | .list _ => "list"
  | .tuple _ => "tuple"
  | .dict [(.list _, .none)] => "list"
  | .dict _ => "?"
def plainT (d : D) : Bool := tyName d != "?"
def isiD (T : String) (d : D) : Option D := if plainT d then (kitB (tyName d) T).map .bool else none
def isiAny (a : String) : List String → Option Bool
  | [] => some false
  | T :: r => match kitB a T with
    | some true => some true
    | some false => isiAny a r
    | none => none
def isiTD (Ts : List String) (d : D) : Option D := if plainT d then (isiAny (tyName d) Ts).map .bool else none
theorem tyx_of {Z H : Hp} {v : V} {d : D} (s : Same Z H) (h : Bd K Z H v d) (hp : plainT d = true) : TyX K H v (.type (tyName d)) := by
  cases h with
  | non => exact .base .non
  | bl b => exact .base (.bl b)
  | int i => exact .base (.int i)
  | str x => exact .base (.str x)
  | lst h r => exact .base (.lst h)
  | scr h r =>
    rcases h with (h | ⟨o, h⟩) | ⟨o, its, n, h, c, _⟩
    · exact .base (.lst h)
    · exact .base (.frz h)
    · exact .kList h c
  | tup h r =>
    rcases same_t s h with (h | ⟨o, h⟩) | ⟨o, its, n, h, c, _⟩
    · exact .base (.tup h)
    · exact .fTuple h
    · exact .kTuple h c
  | exc h1 h2 h3 r => exact absurd (show false = true from hp) (by decide)
theorem de_isi {T : String} {g : GO} (h : DO K te g) : DE K (tCB (rIsi K) (tCons te (tCons (tC (.ty T)) tNil))) (eOp1 (isiD T) g) := fun b0 B Z0 Z H σ ρ d ρ' Q ok e q => by
  obtain ⟨x, a, e1, e3, e5⟩ := op1_ok e
  unfold isiD at e5
  split at e5
  case isFalse => cases e5
  rename_i hp
  obtain ⟨b, e6, rfl⟩ := Option.map_eq_some_iff.mp e5
  refine h b0 B Z0 Z H σ ρ x ρ' _ ok e1 fun v H1 Z1 ok1 s1 r1 => ?_
  exact ⟨v, .ty T, _, _, b, rfl, .ty T, tyx_of ok1.zh (ok1.bd r1 e3) hp, kit_ty e6, q _ H1 Z1 ok1 s1 (.bl b)⟩
theorem kitAny_of {a : String} : ∀ {Ts : List String} {b : Bool}, isiAny a Ts = some b → PySem.W.kitAny K (.type a) (Ts.map Value.type) = some b
  | [], b, h => by cases h; rfl
  | T :: r, b, h => by
    unfold isiAny at h
    split at h
    · rename_i hk
      cases h
      exact kitAny_cons (kit_ty hk) (fun z => nomatch z) fun _ => rfl
    · rename_i hk
      exact kitAny_cons (kit_ty hk) (fun _ => kitAny_of h) fun z => nomatch z
    · cases h
def tTys : List String → TA
  | [] => tNil
  | T :: r => tCons (tC (.ty T)) (tTys r)
theorem tTys_run {σ : L2.St} {H : Hp} {Q : List V → Hp → Prop} : ∀ (Ts : List String), Q (Ts.map V.ty) H → tTys Ts σ H Q
  | [], h => h
  | T :: r, h => tTys_run (Q := fun xs H2 => Q (.ty T :: xs) H2) r h
theorem paired_ty : ∀ Ts : List String, Paired ClsV (Ts.map V.ty) (Ts.map Value.type)
  | [] => .nil
  | T :: r => .cons (.ty T) (paired_ty r)
theorem de_isiT {Ts : List String} {g : GO} (hl : Ts.length ≤ sizeLine) (h : DO K te g) : DE K (tCB (rIsiT K) (tCons te (tCons (tTup (tTys Ts)) tNil))) (eOp1 (isiTD Ts) g) := fun b0 B Z0 Z H σ ρ d ρ' Q ok e q => by
  obtain ⟨x, a, e1, e3, e5⟩ := op1_ok e
  unfold isiTD at e5
  split at e5
  case isFalse => cases e5
  rename_i hpl
  obtain ⟨b, e6, rfl⟩ := Option.map_eq_some_iff.mp e5
  refine h b0 B Z0 Z H σ ρ x ρ' _ ok e1 fun v H1 Z1 ok1 s1 r1 => ?_
  refine tTys_run (Q := fun xs H2 => xs.length ≤ sizeLine ∧ ∀ p, H2 p = none → _) Ts ⟨by rw [List.length_map]; exact hl, fun p hp => ?_⟩
  obtain ⟨ok2, zp, bp, ap⟩ := ok1.fresh (o := .tup (Ts.map V.ty)) hp
  exact ⟨v, p, Ts.map V.ty, _, _, b, rfl, upd_same, paired_ty Ts, tyx_of ok2.zh (ok2.bd r1 e3) hpl, kitAny_of e6, q _ _ Z1 ok2 s1 (.bl b)⟩
/-! ### x in xs -/
def flV : D → Option V
  | .none => some .non
  | .bool b => some (.bl b)
  | .int i => some (.int i)
  | .str x => some (.str x)
  | _ => none
def flVs : List D → Option (List V)
  | [] => some []
  | d :: ds => match flV d, flVs ds with
    | some v, some vs => some (v :: vs)
    | _, _ => none
theorem flV_rp {Z : Hp} {v w : V} {d : D} (h : flV d = some w) (r : Rp K Z v d) : v = w ∧ flatV v = true := by
  cases r <;> cases h <;> exact ⟨rfl, rfl⟩
theorem flVs_rp {Z : Hp} : ∀ {vs ws : List V} {ds : List D}, flVs ds = some ws → RpA K Z vs ds → vs = ws ∧ vs.all flatV = true
  | _, _, _, h, .nil => by cases h; exact ⟨rfl, rfl⟩
  | _, _, _, h, .cons r ra => by
    unfold flVs at h
    split at h
    · rename_i v' vs' e1 e2
      cases h
      obtain ⟨rfl, f1⟩ := flV_rp e1 r
      obtain ⟨rfl, f2⟩ := flVs_rp e2 ra
      exact ⟨rfl, by rw [List.all_cons, f1, f2]; rfl⟩
    · cases h
def inDb (x d : D) : Option Bool := match d with
  | .list ds => (match flV x, flVs ds with
    | some v, some vs => some (inV v vs)
    | _, _ => none)
  | .tuple ds => (match flV x, flVs ds with
    | some v, some vs => some (inV v vs)
    | _, _ => none)
  | _ => none
def inD (x d : D) : Option D := (inDb x d).map .bool
def notInD (x d : D) : Option D := (inDb x d).map fun b => .bool (!b)
theorem in_rp {Z H : Hp} {x y : V} {a b : D} {k : Bool} (s : Same Z H) (ha : Bd K Z H x a) (hb : Bd K Z H y b) (h : inDb a b = some k) : ∃ p xs, y = .ref p ∧ (SqL K H p xs ∨ SqT K H p xs) ∧ flatV x = true ∧ xs.all flatV = true ∧ k = inV x xs := by
  have fx : ∀ v, flV a = some v → x = v ∧ flatV x = true := fun v e => flV_rp e (bd_rp s ha)
  unfold inDb at h
  split at h
  · split at h
    · rename_i v vs e1 e2
      cases h
      cases hb with
      | lst h r =>
      obtain ⟨rfl, f1⟩ := fx v e1
      obtain ⟨rfl, f2⟩ := flVs_rp e2 r
      exact ⟨_, _, rfl, .inl (.inl (.inl h)), f1, f2, rfl⟩
    · cases h
  · split at h
    · rename_i v vs e1 e2
      cases h
      cases hb with
      | tup h r =>
      obtain ⟨rfl, f1⟩ := fx v e1
      obtain ⟨rfl, f2⟩ := flVs_rp e2 r
      exact ⟨_, _, rfl, .inr (same_t s h), f1, f2, rfl⟩
    · cases h
  · cases h
theorem sn_in : Sn2 K (rIn K false) inD := fun b0 B Z0 Z H σ ρ x y a b c Q ok ha hb e q => by
  obtain ⟨k, e1, rfl⟩ := Option.map_eq_some_iff.mp e
  obtain ⟨p, xs, rfl, h1, h2, h3, rfl⟩ := in_rp ok.zh ha hb e1
  exact ⟨p, xs, rfl, h1, h2, h3, q _ H Z ok (Same.refl Z) (.bl _)⟩
theorem sn_notIn : Sn2 K (rIn K true) notInD := fun b0 B Z0 Z H σ ρ x y a b c Q ok ha hb e q => by
  obtain ⟨k, e1, rfl⟩ := Option.map_eq_some_iff.mp e
  obtain ⟨p, xs, rfl, h1, h2, h3, rfl⟩ := in_rp ok.zh ha hb e1
  exact ⟨p, xs, rfl, h1, h2, h3, q _ H Z ok (Same.refl Z) (.bl _)⟩
end
end DL

namespace DL
open PySem L2
section
variable {X : Cx} {K : PySem.W.Frag} {ta tb te tc : TE} {tas tks : TA} {tg : Expr}
/-! ### rules that give lists, as data too -/
theorem sn2_of_f {r : R2} {f : D → D → Option (List D)} (h : Sn2F K r f) : Sn2 K r (fun a b => (f a b).map .list) := fun b0 B Z0 Z H σ ρ x y a b c Q ok ha hb e q => by
  obtain ⟨ds, e1, rfl⟩ := Option.map_eq_some_iff.mp e
  refine h b0 B Z0 Z H σ ρ x y a b ds Q ok ha hb e1 fun p vs H' ok' zp bp ap hp r => ?_
  obtain ⟨ok2, s2⟩ := ok'.freeze zp bp ap hp
  exact q (.ref p) H' _ ok2 s2 (.lst upd_same (r.mono s2))
theorem sn2_or {r : R2} {f g : D → D → Option D} (h : Sn2 K r f) (h' : Sn2 K r g) : Sn2 K r (fun a b => (f a b).orElse fun _ => g a b) := fun b0 B Z0 Z H σ ρ x y a b c Q ok ha hb e q => by
  dsimp only at e
  cases hf : f a b with
  | some d =>
    rw [hf] at e
    cases e
    exact h b0 B Z0 Z H σ ρ x y a b _ Q ok ha hb hf q
  | none =>
    rw [hf] at e
    exact h' b0 B Z0 Z H σ ρ x y a b c Q ok ha hb e q
def addU (a b : D) : Option D := (addD a b).orElse fun _ => (addL a b).map .list
def mulU (a b : D) : Option D := (mulD a b).orElse fun _ => (repL a b).map .list
theorem sn_addU : Sn2 K (rAddU K) addU := sn2_or sn_add (sn2_of_f sn_addL)
theorem sn_mulU : Sn2 K rMulU mulU := sn2_or sn_mul (sn2_of_f sn_repL)
def sliceU (d : D) (lo hi : Option Int) : Option D := (sliceT d lo hi).orElse fun _ => (sliceL d lo hi).map .list
theorem sn_sliceU : SnSl K (rSlU K) sliceU := fun b0 B Z0 Z H σ ρ x a lo hi c Q ok ha e q => by
  unfold sliceU at e
  cases hf : sliceT a lo hi with
  | some d =>
    rw [hf] at e
    cases e
    exact sn_sliceT b0 B Z0 Z H σ ρ x a lo hi _ Q ok ha hf q
  | none =>
    rw [hf] at e
    obtain ⟨ds, e1, rfl⟩ := Option.map_eq_some_iff.mp e
    refine sn_sliceL b0 B Z0 Z H σ ρ x a lo hi ds Q ok ha e1 fun p vs H' ok' zp bp ap hp r => ?_
    obtain ⟨ok2, s2⟩ := ok'.freeze zp bp ap hp
    exact q (.ref p) H' _ ok2 s2 (.lst upd_same (r.mono s2))
/-! ### a call that may change the list in slot i and gives a new list -/
def eCallBF (F : List D → List D → Option (List D × List D)) (i : Nat) (ga : GA) (ρ : Rho) : R (List D) := if isOw ρ[i]? then (ga ρ).bind fun os ρ1 => match ρ1[i]?, valA os with
    | some (.ow box), some ds => (match F box ds with
      | some (d, box') => .ok d (ρ1.set i (.ow box'))
      | none => .bad)
    | _, _ => .bad
  else .bad
theorem df_callBF {np : Nat} {F : List D → List D → Option (List D × List D)} {i : Nat} {ga : GA} {E : XK} (hF0 : ∀ b ds d, F b ds = some d → ds.length + 1 = np) (ha : DA K tas ga) : DF K (tCall (spBF K np F) [] E (tCons (tVar i) tas)) (eCallBF F i ga) := fun b0 B Z0 Z H σ ρ d ρ' Q ok e q => by
  unfold eCallBF at e
  split at e
  · rename_i h0
    obtain ⟨b, vb0, e0, hb0⟩ := ok.isOw h0
    obtain ⟨os, ρ1, e1, e⟩ := R.bind_ok e
    split at e
    · rename_i box ds hi hv
      split at e
      · rename_i d' box' hF
        cases e
        refine ⟨.ref b, e0, ?_⟩
        refine ha b0 B Z0 Z H σ ρ os ρ1 _ ok e1 fun vs H1 Z1 ok1 s1 r1 => ?_
        obtain ⟨b1, vb, f1, f2, f3, f4, f5⟩ := ok1.ow i box hi
        rw [e0] at f1
        cases f1
        have rA := valA_ok r1 hv
        refine ⟨by rw [List.append_nil, List.length_cons, rA.length]; exact hF0 _ _ _ hF, Z1, b, vb, box, vs, ds, d, box', by rw [List.append_nil], ok1.zh, f2, f4, f5, rA, hF, fun p ws H' Z' vb' hh g zb hb' rb hp zp hp' r => ?_⟩
        have ok2 := ok1.growB hi e0 hh g zb hb' rb
        refine q p ws H' Z' ok2 (s1.trans g.1) zp (ok1.bh.free hp) (fun j es hj hq => ?_) hp' r
        obtain ⟨q', vs', g1, g2, _, g4, _⟩ := ok2.ow j es hj
        rw [g1] at hq
        cases hq
        -- p was free before the call; an owned list was there before
        have : ∃ es', ρ1[j]? = some (.ow es') := by
          rcases set_get hj with ⟨rfl, _⟩ | ⟨_, z⟩
          · exact ⟨_, hi⟩
          · exact ⟨_, z⟩
        obtain ⟨es', z⟩ := this
        obtain ⟨q2, vs2, k1, _, _, k4, _⟩ := ok1.ow j es' z
        rw [g1] at k1
        cases k1
        rw [hp] at k4
        cases k4
      · cases e
    · cases e
  · cases e
/-! ### a call with keywords alone -/
structure KwB (K : PySem.W.Frag) (fd : FuncData) (ps ks : List Str) (g : {α : Type} → List α → List α) : Prop where
  to : ∀ (s : Shared) (ws : List Value), K.In s.heap → ws.length = ks.length → BindsTo s fd ⟨[], ks.zip ws⟩ (ps.zip (g ws))
  rel : ∀ {A C : Type} {rel : A → C → Prop} {zs : List A} {ws : List C}, Paired rel zs ws → Paired rel (g zs) (g ws)
def tCallW (sp : Sp) (m : Nat) (g : {α : Type} → List α → List α) (E : XK) (tk : TA) : TE := fun σ H Q => tk σ H fun zs H2 => zs.length = m ∧ sp (g zs) H2 Q E
theorem pe_callW {CX : CXT} {k : Nat} {f : Addr} {fd : FuncData} {ps ks : List Str} {sp : Sp} {E : XK} {x : Str} {p pos : Pos} {kws : List Keyword} {g : {α : Type} → List α → List α} (F : FnOk X.prog X.w X.K X.mg X.base CX k f fd ps sp) (hr : Room k X.A) (hg : Gl X x) (hm : X.mg x = some (.ref f)) (hk : PySem.W.keepIn X.K (.ref f) = true) (hb : KwB X.K fd ps ks g) (hx : Passes CX X E) (hkw : PK X kws tks)
    (c1 : (backToKw pos (keywordEach kws X.env)).all (·.1.isSome) = true := by rfl) (c2 : (backToKw pos (keywordEach kws X.env)).filterMap (·.1) = ks := by rfl) (c3 : (x == ("__debug__" : Str)) = false := by decide)
    (c4 : ((backTo pos (starEach [] X.env)).any (·.1) || (backToKw pos (keywordEach kws X.env)).any (·.1.isNone)) = false := by rfl) : PE X (.Call (.Name x p) [] kws pos) (tCallW sp ks.length g E tks) := by
  refine ⟨fun pins s σ H Q I h => wpAny_Call_Name_kw (ld_glob I hg hm (PySem.W.callWith_KW0 (h₀ := X.base) I.ok.mod.kin hk c1 ?_ c4) c3)⟩
  refine thn (hkw.run pos pins s σ H _ I h) fun ws s2 ⟨zs, H2, I2, rz, l2, q2⟩ => ⟨I2.kIn, ?_⟩
  rw [c2]
  have r2 : Vals (g zs) (g ws) := hb.rel rz
  refine wpAny_call (codeAny_mono (F.run X.A X.stack s2 H2 ⟨[], ks.zip ws⟩ (g ws) (g zs) Q E hr I2.env0 (hb.to s2 ws I2.kIn (rz.length.symm.trans l2)) r2 q2) fun r s' hq => ?_)
  cases r with
  | error e => exact hx pins σ H2 s2 e s' I2 hq
  | ok fl => cases fl <;> first | exact I2.after hq | exact hq.elim
def eCallW {α : Type} (F : List D → Option α) (m : Nat) (g : {α : Type} → List α → List α) (ga : GA) (ρ : Rho) : R α := (ga ρ).bind fun os ρ1 => match valA os with
  | some ds => if ds.length = m then R.lift (F (g ds)) ρ1 else .bad
  | none => .bad
theorem RpA.paired {Z : Hp} : ∀ {vs : List V} {ds : List D}, RpA K Z vs ds → Paired (Rp K Z) vs ds
  | _, _, .nil => .nil
  | _, _, .cons h r => .cons h (RpA.paired r)
theorem RpA.of_paired {Z : Hp} : ∀ {vs : List V} {ds : List D}, Paired (Rp K Z) vs ds → RpA K Z vs ds
  | _, _, .nil => .nil
  | _, _, .cons h r => .cons h (RpA.of_paired r)
theorem callW_ok {α : Type} {F : List D → Option α} {m : Nat} {g : {α : Type} → List α → List α} {ga : GA} {ρ ρ' : Rho} {z : α} (e : eCallW F m g ga ρ = .ok z ρ') : ∃ os ds, ga ρ = .ok os ρ' ∧ valA os = some ds ∧ ds.length = m ∧ F (g ds) = some z := by
  obtain ⟨x, ρ1, e1, e2⟩ := R.bind_ok e
  split at e2
  · rename_i d h1
    split at e2
    · obtain ⟨e5, rfl⟩ := R.lift_ok e2
      exact ⟨x, d, e1, h1, by assumption, e5⟩
    · cases e2
  · cases e2
theorem de_callW {m np : Nat} {F : List D → Option D} {g : {α : Type} → List α → List α} {ga : GA} {E : XK} (hg : ∀ {A C : Type} {rel : A → C → Prop} {zs : List A} {ws : List C}, Paired rel zs ws → Paired rel (g zs) (g ws)) (hF : ∀ ds d, F ds = some d → ds.length = np) (ha : DA K tks ga) : DE K (tCallW (spP K np F) m g E tks) (eCallW F m g ga) := fun b0 B Z0 Z H σ ρ d ρ' Q ok e q => by
  obtain ⟨os, ds, e1, e2, hm, e3⟩ := callW_ok e
  refine ha b0 B Z0 Z H σ ρ os ρ' _ ok e1 fun vs H1 Z1 ok1 s1 r1 => ?_
  have ra := valA_ok r1 e2
  have rg : RpA K Z1 (g vs) (g ds) := RpA.of_paired (hg ra.paired)
  refine ⟨by rw [ra.length]; exact hm, by rw [rg.length]; exact hF _ _ e3, Z1, g ds, d, ok1.zh, rg, e3, fun v H' Z' hh g r => ?_⟩
  exact q v H' Z' (ok1.grow hh g) (s1.trans g.1) r
theorem df_callW {m np : Nat} {F : List D → Option (List D)} {g : {α : Type} → List α → List α} {ga : GA} {E : XK} (hg : ∀ {A C : Type} {rel : A → C → Prop} {zs : List A} {ws : List C}, Paired rel zs ws → Paired rel (g zs) (g ws)) (hF : ∀ ds d, F ds = some d → ds.length = np) (ha : DA K tks ga) : DF K (tCallW (spF K np F) m g E tks) (eCallW F m g ga) := fun b0 B Z0 Z H σ ρ d ρ' Q ok e q => by
  obtain ⟨os, ds, e1, e2, hm, e3⟩ := callW_ok e
  refine ha b0 B Z0 Z H σ ρ os ρ' _ ok e1 fun vs H1 Z1 ok1 s1 r1 => ?_
  have ra := valA_ok r1 e2
  have rg : RpA K Z1 (g vs) (g ds) := RpA.of_paired (hg ra.paired)
  refine ⟨by rw [ra.length]; exact hm, by rw [rg.length]; exact hF _ _ e3, Z1, g ds, d, ok1.zh, rg, e3, fun p ws H' Z' hh g hp zp hp' r => ?_⟩
  refine q p ws H' Z' (ok1.grow hh g) (s1.trans g.1) zp (ok1.bh.free hp) (fun i es hi hq => ?_) hp' r
  obtain ⟨q', vs', f1, _, _, f4, _⟩ := ok1.ow i es hi
  rw [f1] at hq
  cases hq
  rw [hp] at f4
  cases f4
/-- one keyword for one parameter: nothing to put in order -/
theorem kw_id {A C : Type} {rel : A → C → Prop} {zs : List A} {ws : List C} (h : Paired rel zs ws) : Paired rel (id zs) (id ws) := h
/-! ### a def whose mirror says nothing -/
theorem fn_noneP {P : Program} {w : World} {mg : Str → Option Value} {base : Heap} {k np : Nat} {f : Addr} {fd : FuncData} {ps : List Str} (h : ps.length = np) : FnOk P w K mg base CX0 k f fd ps (spP K np fun _ => none) :=
  ⟨fun vs H Q E q => q.1.trans h.symm, fun A outer s H args us vs Q E hr he hb hv hs => by
    obtain ⟨_, Z, ds, d, _, _, e, _⟩ := hs
    cases e⟩
theorem fn_noneB {P : Program} {w : World} {mg : Str → Option Value} {base : Heap} {k np : Nat} {f : Addr} {fd : FuncData} {ps : List Str} (h : ps.length = np) : FnOk P w K mg base CX0 k f fd ps (spB K np fun _ _ => none) :=
  ⟨fun vs H Q E q => q.1.trans h.symm, fun A outer s H args us vs Q E hr he hb hv hs => by
    obtain ⟨_, Z, b, vb, box, rest, ds, d, box', _, _, _, _, _, _, e, _⟩ := hs
    cases e⟩
end
end DL

namespace DL
open PySem PySem.Spec PyProof.Rows L2
/-! ### defs that ask that no repr runs around them -/
structure FnG (P : Program) (w : World) (K : PySem.W.Frag) (mg : Str → Option Value) (base : Heap) (k : Nat) (f : Addr) (fd : FuncData) (ps : List Str) (sp : Sp) : Prop where
  len : ∀ vs H Q E, sp vs H Q E → vs.length = ps.length
  run : ∀ (A : Around) (out : List PySem.Env) (t : Shared) (H : Hp) (ar : Args) (us : List Value) (vs : List V) (Q : VK) (E : XK), Room k A → A.guards = some [] → Env0 P w K mg base A out t H → BindsTo t fd ar (ps.zip us) → Vals vs us → sp vs H Q E →
    codeAny (model P w) A (.call (.ref f) ar) (CR CX0 out P w H t Q E) t
section
variable {P : Program} {w : World} {K : PySem.W.Frag} {mg : Str → Option Value} {base : Heap} {X : Cx}
theorem FnG.of {k : Nat} {f : Addr} {fd : FuncData} {ps : List Str} {sp : Sp} (F : FnOk P w K mg base CX0 k f fd ps sp) : FnG P w K mg base k f fd ps sp :=
  ⟨F.len, fun A out t H ar us vs Q E hr _ e b r h => F.run A out t H ar us vs Q E hr e b r h⟩
theorem FnG.mono {j k : Nat} {f : Addr} {fd : FuncData} {ps : List Str} {sp : Sp} (F : FnG P w K mg base j f fd ps sp) (h : j ≤ k) : FnG P w K mg base k f fd ps sp :=
  ⟨F.len, fun A out t H ar us vs Q E hr => F.run A out t H ar us vs Q E (hr.mono h)⟩
theorem fun_okG {x qual : Str} {st : Stmt} {f : Addr} {fd : FuncData} {N ps : List Str} {k : Nat} {sp : Sp} (F : Fun K x qual st f fd) (S : FnScope N ps (defScope st)) (ln : ∀ vs H Q E, sp vs H Q E → vs.length = ps.length)
    (body : ∀ (cv : Value) (A : Around) (out : List PySem.Env) (t : Shared) (H : Hp) (vs : List V) (Q : VK) (E : XK), Room k (A.deeper (envOfC qual (defScope st) t.heap.objs.size f cv)) → A.guards = some [] → sp vs H Q E →
      ∃ rd, PSs (cxOf CX0 P w K mg base N qual (defScope st) f cv A out t H E).nox (defBody st) rd ∧ rd { nx := fun _ H' => Q .non H', rt := Q } (L2.start N vs) H) : FnG P w K mg base (k + 1) f fd ps sp := by
  obtain ⟨oc, od, kV, doc, pm, an, cv, ct, osl, rfl, lk, hcd⟩ := F.ex
  refine ⟨ln, fun A out t H ar us vs Q E hr hg e0 hb r hs => ?_⟩
  have hl := ln _ _ _ _ hs
  have kp : ∀ b o, base.get? b = some o → t.heap.get? b = some o := fun b o e => (e0.bs b o e).1
  have KX : K.In t.heap := e0.mod.kin.keeps kp
  have lim : t.heap.NoLimit := e0.mod.nolimit.keeps kp
  refine codeAny_call_function hr.depth (KX _ _ lk) rfl S.co S.gen rfl (PySem.W.codeRec_of KX hcd) (hb _ _ _ _ ?_)
  refine wpAny_newFunctionEnv_cells S.kind (fun y hy => ?_) fun env he t1 x => ?_
  · obtain ⟨n, v⟩ := y
    exact (S.par n (List.of_mem_zip hy).1).imp id fun q => ⟨q, PySem.W.cellsFrom_some _ _ _ (.inl q)⟩
  · subst he
    refine ⟨lim.keeps x.toInCall.keep, codeAny_func ?_⟩
    obtain ⟨rd, ht, hq⟩ := body cv A out t H vs Q E (hr.deeper _) hg hs
    have I : L2.Inv (cxOf CX0 P w K mg base N qual (defScope st) f cv A out t H E) [] (L2.start N vs) H t1 := inv_start S hr.hd e0 hl r x
    refine wpAny_mono (ht.nox.run [] t1 (L2.start N vs) H _ I hq) (fun fl t' hs => ?_) fun e t' hs => hs
    have fin : ∀ {σ' : L2.St} {H' : Hp} {v : V} {u : Value}, L2.Inv (cxOf CX0 P w K mg base N qual (defScope st) f cv A out t H E) [] σ' H' t' → RelV v u → Q v H' → CE out P w H t Q u t' :=
      fun {σ' H' v u} J rv z => ⟨v, H', J.os, J.bare, J.base, J.hok, rv, z⟩
    cases fl with
    | ret u => obtain ⟨v, σ', H', J, rv, z⟩ := hs; exact fin J rv z
    | next => obtain ⟨σ', H', J, z⟩ := hs; exact fin (v := V.non) (u := Value.none) J rfl z
    | brk => obtain ⟨_, _, _, z⟩ := hs; exact z.elim
    | cont => obtain ⟨_, _, _, z⟩ := hs; exact z.elim
theorem pe_callG {k : Nat} {f : Addr} {fd : FuncData} {ps : List Str} {sp : Sp} {E : XK} {x : Str} {p pos : Pos} {e : Expr} {es : List Expr} {t : TA} (F : FnG X.prog X.w X.K X.mg X.base k f fd ps sp) (hr : Room k X.A) (gd : X.A.guards = some []) (hg : Gl X x) (hm : X.mg x = some (.ref f)) (hk : PySem.W.keepIn X.K (.ref f) = true) (hb : Binds X.K fd ps [])
    (ha : PA X (e :: es) t) (c1 : (x == ("__debug__" : Str)) = false := by decide) (c2 : starEach (e :: es) X.env = (false, eval e X.env) :: starEach es X.env := by rfl) (c3 : (backTo pos (starEach es X.env)).any (·.1) = false := by rfl) :
    PE X (.Call (.Name x p) (e :: es) [] pos) (tCall sp [] E t) := by
  refine ⟨fun pins s σ H Q I h => wpAny_Call_Name_kw (ld_glob I hg hm ?_ c1)⟩
  refine PySem.W.callWith_K (h₀ := X.base) I.ok.mod.kin hk (thn (ha.run pos pins s σ H _ I h) fun us s1 ⟨vs, H1, I1, r, z⟩ => ⟨I1.kIn, ?_⟩) c2 c3
  have z' : sp vs H1 Q E := by
    have y : sp (vs ++ []) H1 Q E := z
    rw [List.append_nil] at y
    exact y
  have hl : (us ++ []).length = ps.length := by rw [List.append_nil, ← r.length]; exact F.len _ _ _ _ z'
  have b1 := hb s1 us I1.kIn hl
  rw [List.append_nil] at b1
  refine wpAny_call (codeAny_mono (F.run X.A X.stack s1 H1 ⟨us, []⟩ us vs Q E hr gd I1.env0 b1 r z') fun rr s' hq => ?_)
  cases rr with
  | error e => exact hq.elim
  | ok fl => cases fl <;> first | exact I1.after hq | exact hq.elim
/-! ### the law's own call -/
theorem law_runG {mb : Str → Option Value} {k : Nat} {fa a : Addr} {fd : FuncData} {x : Str} {sp : Sp} {t : Shared} {vs : List Value} {ns : List Int}
    (KX : K.In t.heap) (g1 : t.heap.Ns mainGlobals mg) (g2 : t.heap.Ns builtinsNs mb) (g3 : ∀ x : Str, x ≠ "__name__" → mb x = bootBuiltins x) (g4 : t.heap.NoLimit) (g5 : t.gens = #[])
    (ha : t.heap.get? a = some { cls := .type "list", data := .seq vs.toArray }) (hi : IntsAre vs ns) (hl : ns.length ≤ sizeLine) (hr : Room k callerA)
    (F : ∀ base : Heap, K.In base → base.Ns mainGlobals mg → FnG P w K mg base k fa fd [x] sp) (bd : ∀ (s : Shared) (u : Value), BindsTo s fd ⟨[u], []⟩ [(x, u)])
    (hsp : ∀ H : Hp, Only H → SqL K H a (ns.map V.int) → sp [.ref a] H (fun v _ => v = .bl true) fun _ _ _ => False) :
    codeAny (model P w) callerA (.call (.ref fa) ⟨[.ref a], []⟩) (fun r s' => r = .ok (.ret (.bool true)) ∧ OldK t.heap s'.heap ∧ s'.os = t.os ∧ AllBare s'.gens) t := by
  have rv := vals_ints hi
  have lv := hi.length
  have main : ∀ H : Hp, Only H → SqL K H a (ns.map V.int) → HOk P w H t.heap → (∀ b u, H b = some u → b = a ∧ K.lookup a = none) →
      codeAny (model P w) callerA (.call (.ref fa) ⟨[.ref a], []⟩) (fun r s' => r = .ok (.ret (.bool true)) ∧ OldK t.heap s'.heap ∧ s'.os = t.os ∧ AllBare s'.gens) t := by
    intro H hO hS hok hA
    have hid : ∀ {b : Addr} {o : Obj}, t.heap.get? b = some o → H b = none → (hidT t.heap H).get? b = some o := fun e n => hidT_get e n
    have noD : ∀ {b : Addr} {o : Obj} {es : Array DictEntry} {ep : Nat}, t.heap.get? b = some o → o.data = .dict es ep → H b = none := fun {b o es ep} e d => by
      cases z : H b with
      | none => rfl
      | some u =>
        have y := (hA b u z).1
        rw [y, ha] at e
        injection e with e
        rw [← e] at d
        cases d
    have ns1 : ∀ {b : Addr} {m : Str → Option Value}, t.heap.Ns b m → (hidT t.heap H).Ns b m := fun {b m} ⟨o, es, ep, e, d, r⟩ => ⟨o, es, ep, hid e (noD e d), d, r⟩
    have kb : K.In (hidT t.heap H) := fun b o e => hid (KX b o e) (by
      cases z : H b with
      | none => rfl
      | some u =>
        obtain ⟨y1, y2⟩ := hA b u z
        rw [y1, y2] at e
        cases e)
    obtain ⟨mc, l1, l2⟩ := g4
    have md : Mod K mg (hidT t.heap H) := ⟨kb, ns1 g1, ⟨mb, ns1 g2, g3⟩, ⟨mc, ns1 l1, l2⟩⟩
    have e0 : Env0 P w K mg (hidT t.heap H) callerA [] t H := ⟨rfl, md, fun b o e => of_hidT e, Nat.le_of_eq (hidT_size _ _), trivial, (fun b hb => nomatch hb), hok, .of_eq g5⟩
    refine codeAny_mono ((F _ kb (ns1 g1)).run callerA [] t H ⟨[.ref a], []⟩ [.ref a] [.ref a] _ _ hr rfl e0 (bd t (.ref a)) (.cons rfl .nil) (hsp H hO hS)) fun r s' h => ?_
    cases r with
    | error e => exact h.elim
    | ok fl =>
      cases fl with
      | next => exact h.elim
      | brk => exact h.elim
      | cont => exact h.elim
      | ret u =>
        obtain ⟨v, H', os, bare, un, hok', rr, z⟩ := h
        cases (show v = .bl true from z)
        cases (show u = Value.bool true from rr)
        refine ⟨rfl, OldK.of_keep fun b o e => ?_, os, bare⟩
        cases y : H b with
        | none => exact un.keep b o e y (fun c => nomatch c) (fun c => nomatch c)
        | some u =>
          rcases hO b with c | ⟨ob, xs, c⟩
          · rw [y] at c; cases c
          · obtain ⟨d1, _⟩ := hok b _ c
            obtain ⟨d2, _⟩ := hok' b _ (un.frzs b ob _ c)
            rw [e] at d1
            cases d1
            exact d2
  cases hk : K.lookup a with
  | some o =>
    have e := KX a o hk
    rw [ha] at e
    cases e
    exact main (fun _ => none) (fun _ => .inl rfl) (.inr ⟨_, vs.toArray, _, hk, rfl, rfl, rfl, by rw [List.size_toArray, lv]; exact hl, by simpa using rv⟩) (fun b u c => nomatch c) (fun b u c => nomatch c)
  | none =>
    have ev : ∀ {b : Addr} {u : HO}, (if b = a then some (HO.frz { cls := .type "list", data := .seq vs.toArray } (.lst (ns.map V.int))) else none) = some u → b = a ∧ u = HO.frz { cls := .type "list", data := .seq vs.toArray } (.lst (ns.map V.int)) := fun {b u} c => by
      split at c
      · cases c; exact ⟨by assumption, rfl⟩
      · cases c
    refine main (fun b => if b = a then some (.frz { cls := .type "list", data := .seq vs.toArray } (.lst (ns.map V.int))) else none) (fun b => ?_) (.inl (.inr ⟨_, if_pos rfl⟩)) (fun b u c => ?_) fun b u c => ⟨(ev c).1, hk⟩
    · by_cases hb : b = a
      · exact .inr ⟨_, _, if_pos hb⟩
      · exact .inl (if_neg hb)
    · obtain ⟨rfl, rfl⟩ := ev c
      exact ⟨ha, by rw [List.length_map]; exact hl, vs, _, rv, ha⟩
end
theorem walk_G {l : PySem.W.OpenLaw} {n k : Nat} {q : Program} {loose : List Str} {XP : (Str → Option Value) → Heap → Prop} {YP : World → Heap → Prop} {d : DefRec} {K : Params → PySem.W.Frag} {sp : World → Sp} {x : Str}
    (hn : l.most = some n) (hn2 : n ≤ sizeLine) (hdf : d.params.defaults = []) (hr : Room k callerA) (hY : ∀ (w : World) (h : Heap), YP w h → (K w.params).In h)
    (F : ∀ (w : World) (mg : Str → Option Value) (fa : Addr) (h : Heap), (K w.params).In h → h.Ns mainGlobals mg → mg d.name = some (.ref fa) →
      ∃ fd : FuncData, (∀ (s : Shared) (u : Value), BindsTo s fd ⟨[u], []⟩ [(x, u)]) ∧ ∀ base : Heap, (K w.params).In base → base.Ns mainGlobals mg → FnG l.prog w (K w.params) mg base k fa fd [x] (sp w))
    (hsp : ∀ (w : World) (H : Hp) (a : Addr) (ns : List Int), ns.length ≤ n → Only H → SqL (K w.params) H a (ns.map V.int) → sp w [.ref a] H (fun v _ => v = .bl true) fun _ _ _ => False) :
    PySem.W.WalkO q loose XP YP l.row.toRowW d [] (fun f vs => PySem.call f vs) := by
  refine Att.attach_call hn hdf fun w t0 t mg mb fa o pm cd doc a vs ns G Y ho hd hcd hmg hobj hints hlen hg => ?_
  have KX := hY w _ Y
  obtain ⟨fd, hb, hF⟩ := F w mg fa _ KX G.T.g hmg
  exact law_runG KX G.T.g G.T.b G.T.builtins G.T.nolimit hg hobj hints (Nat.le_trans hlen hn2) hr hF hb fun H hO hS => hsp w H a ns hlen hO hS
/-! ### repr of lists and tuples -/
section
variable {X : Cx} {K : PySem.W.Frag}
def isSq : D → Bool
  | .list _ => true
  | .tuple _ => true
  | _ => false
def rRepr (K : PySem.W.Frag) : List V → Hp → VK → Prop := fun xs H Q => ∃ x d, xs = [x] ∧ Dp K H x d ∧ isSq d = true ∧ d.showable = true ∧ d.hasDict = false ∧ d.depth ≤ 30 ∧ d.shown.length ≤ sizeLine ∧ Q (.str d.shown) H
theorem cr_repr {k : Nat} (gd : X.A.guards = some []) (hr : Room k X.A) : CallR X (.builtin "repr") (rRepr X.K) := by
  intro pins s σ H xs us Q I rx h
  obtain ⟨x, d, rfl, hd, sq, sh, nod, dp, sz, z⟩ := h
  cases rx with
  | cons r rr =>
  cases rr
  obtain ⟨as, rd⟩ := Dp.reads I d x _ hd r
  have hu := hr.un
  cases hd with
  | non => cases sq
  | bl => cases sq
  | int => cases sq
  | str => cases sq
  | lst h ra =>
    cases r
    exact repr_of_reads' rd sh (PyData.noDict_hsm nod) gd (by omega) (fun b o e => e) (fun h' u tk hk => ⟨.str _, H, I.kept (t' := tk) hk, ⟨_, rfl⟩, z⟩) sz
  | tup h ra =>
    cases r
    exact repr_of_reads' rd sh (PyData.noDict_hsm nod) gd (by omega) (fun b o e => e) (fun h' u tk hk => ⟨.str _, H, I.kept (t' := tk) hk, ⟨_, rfl⟩, z⟩) sz
def reprD : List D → Option D
  | [d] => if isSq d = true ∧ d.showable = true ∧ d.hasDict = false ∧ d.depth ≤ 30 ∧ d.shown.length ≤ sizeLine then some (.str d.shown) else none
  | _ => none
mutual
theorem noD_hd : ∀ d : D, d.hasDict = false → noD d = true
  | .none, _ => by simp [noD]
  | .bool _, _ => by simp [noD]
  | .int _, _ => by simp [noD]
  | .str _, _ => by simp [noD]
  | .list xs, h => by
    simp only [noD]
    exact noDs_hd xs (by simpa [PyData.hasDict] using h)
  | .tuple xs, h => by
    simp only [noD]
    exact noDs_hd xs (by simpa [PyData.hasDict] using h)
  | .dict _, h => by simp [PyData.hasDict] at h
theorem noDs_hd : ∀ xs : List D, PyData.hasDictAll xs = false → noDs xs = true
  | [], _ => by simp [noDs]
  | x :: xs, h => by
    have h' : x.hasDict = false ∧ PyData.hasDictAll xs = false := by simpa [PyData.hasDictAll] using h
    simp only [noDs, noD_hd x h'.1, noDs_hd xs h'.2, Bool.and_self]
end
theorem sn_repr : SnA K (rRepr K) reprD := fun b0 B Z0 Z H σ ρ xs as c Q ok ha e q => by
  unfold reprD at e
  split at e
  · split at e
    · rename_i hc
      obtain ⟨h1, h2, h3, h4, h5⟩ := hc
      cases e
      cases ha with
      | cons h h' =>
      cases h'
      exact ⟨_, _, rfl, (bd_rp ok.zh h).dp (noD_hd _ h3), h1, h2, h3, h4, h5, q _ H Z ok (Same.refl Z) (.str _)⟩
    · cases e
  · cases e
/-! ### list(range(..)), tuple(range(..)) -/
def rg2 (a b : D) : Option (List D) := match a, b with
  | .int i, .int j => if -(2 ^ 62) ≤ i ∧ i < 2 ^ 62 ∧ -(2 ^ 62) ≤ j ∧ j < 2 ^ 62 ∧ (j - i).toNat ≤ 2 ^ 24 then some (rangeD i (j - i).toNat) else none
  | _, _ => none
def eRg2 (a b : GE) (ρ : Rho) : R (List D) := (a ρ).bind fun x ρ1 => (b ρ1).bind fun y ρ2 => R.lift (rg2 x y) ρ2
def eRg1 (a : GE) (ρ : Rho) : R (List D) := (a ρ).bind fun x ρ1 => R.lift (rg2 (.int 0) x) ρ1
theorem rgV_rp {Z : Hp} (i j : Int) : RpA K Z (rgV i j) (rangeD i (j - i).toNat) := by
  unfold rgV rangeD
  generalize List.range (j - i).toNat = l
  induction l with
  | nil => exact .nil
  | cons n r ih => exact .cons (.int _) ih
theorem rg2_ok {x y : D} {ds : List D} (h : rg2 x y = some ds) : ∃ i j, x = .int i ∧ y = .int j ∧ RgOk i j ∧ ds = rangeD i (j - i).toNat := by
  unfold rg2 at h
  split at h
  · split at h
    · cases h; exact ⟨_, _, rfl, rfl, by assumption, rfl⟩
    · cases h
  · cases h
variable {ta tb : TE}
theorem df_listRg2 {a b : GE} (ha : DE K ta a) (hb : DE K tb b) : DF K (tLstRg (tRg2 ta tb)) (eRg2 a b) := fun b0 B Z0 Z H σ ρ d ρ' Q ok e q => by
  obtain ⟨x, ρ1, e1, e⟩ := R.bind_ok e
  obtain ⟨y, ρ2, e2, e⟩ := R.bind_ok e
  obtain ⟨e3, rfl⟩ := R.lift_ok e
  obtain ⟨i, j, rfl, rfl, ro, rfl⟩ := rg2_ok e3
  refine ha b0 B Z0 Z H σ ρ _ ρ1 _ ok e1 fun v H1 Z1 ok1 s1 r1 => ?_
  refine hb b0 B Z0 Z1 H1 σ ρ1 _ ρ2 _ ok1 e2 fun u H2 Z2 ok2 s2 r2 => ?_
  cases r1; cases r2
  refine ⟨i, j, rfl, rfl, ro, fun p hp => ?_⟩
  obtain ⟨ok3, zp, bp, ap⟩ := ok2.fresh (o := .lst (rgV i j)) hp
  exact q p _ _ Z2 ok3 (s1.trans s2) zp bp ap upd_same (rgV_rp i j)
theorem df_listRg1 {a : GE} (ha : DE K ta a) : DF K (tLstRg (tRg1 ta)) (eRg1 a) := fun b0 B Z0 Z H σ ρ d ρ' Q ok e q => by
  obtain ⟨x, ρ1, e1, e⟩ := R.bind_ok e
  obtain ⟨e3, rfl⟩ := R.lift_ok e
  obtain ⟨i, j, e4, rfl, ro, rfl⟩ := rg2_ok e3
  cases e4
  refine ha b0 B Z0 Z H σ ρ _ ρ1 _ ok e1 fun v H1 Z1 ok1 s1 r1 => ?_
  cases r1
  refine ⟨j, rfl, ro, fun p hp => ?_⟩
  obtain ⟨ok3, zp, bp, ap⟩ := ok1.fresh (o := .lst (rgV 0 j)) hp
  exact q p _ _ Z1 ok3 s1 zp bp ap upd_same (rgV_rp 0 j)
theorem de_tupRg2 {a b : GE} (ha : DE K ta a) (hb : DE K tb b) : DE K (tTupRg (tRg2 ta tb)) (eT (eRg2 a b)) := fun b0 B Z0 Z H σ ρ d ρ' Q ok e q => by
  obtain ⟨ds, e0, rfl⟩ := R.map_ok e
  obtain ⟨x, ρ1, e1, e⟩ := R.bind_ok e0
  obtain ⟨y, ρ2, e2, e⟩ := R.bind_ok e
  obtain ⟨e3, rfl⟩ := R.lift_ok e
  obtain ⟨i, j, rfl, rfl, ro, rfl⟩ := rg2_ok e3
  refine ha b0 B Z0 Z H σ ρ _ ρ1 _ ok e1 fun v H1 Z1 ok1 s1 r1 => ?_
  refine hb b0 B Z0 Z1 H1 σ ρ1 _ ρ2 _ ok1 e2 fun u H2 Z2 ok2 s2 r2 => ?_
  cases r1; cases r2
  refine ⟨i, j, rfl, rfl, ro, fun p hp => ?_⟩
  obtain ⟨ok3, s3⟩ := ok2.new (o := .tup (rgV i j)) hp
  exact q _ _ _ ok3 ((s1.trans s2).trans s3) (.tup (.inl (.inl upd_same)) ((rgV_rp i j).mono s3))
end
end DL

namespace DL
open PySem PySem.Spec PyProof.Rows L2
open AutoSeq1 (wpAny_loadPart')
/-! ### a tuple times 0 or 1 -/
theorem tup_mul1 (l : Addr) (its : Array Value) (n : Nat) (dd : Option Addr) (sl : Array (Option Value)) (u : Tok) :
    Meets (Builtin.«tuple.__mul__» ⟨[.ref l, .int 1 u], []⟩) (fun _ R s => s.heap.get? l = some { cls := .type "tuple", dict := dd, data := .seq its n, slots := sl } ∧ R (.ok (.ret (Value.ref l))) s) :=
  .of_wp fun prog w A R s h => by
    obtain ⟨hp, g, d, tk, os⟩ := s
    obtain ⟨hl, h⟩ := h
    have f1 := AutoSeq1.idx_int
    have c : (its.isEmpty || (1 : Int) == 1) = true := by cases its.isEmpty <;> rfl
    wp_walk using wpAny_loadPart' hl
    exact ⟨_, rfl, h⟩
theorem tup_mul0 (l : Addr) (its : Array Value) (n : Nat) (dd : Option Addr) (sl : Array (Option Value)) (u : Tok) (c : its.isEmpty = false) :
    Meets (Builtin.«tuple.__mul__» ⟨[.ref l, .int 0 u], []⟩) (fun _ R s => s.heap.get? l = some { cls := .type "tuple", dict := dd, data := .seq its n, slots := sl } ∧ R (.ok (.ret (Value.ref s.heap.objs.size))) { s with heap := s.heap.push { cls := Value.type "tuple", data := Data.seq #[] } }) :=
  .of_wp fun prog w A R s h => by
    obtain ⟨hp, g, d, tk, os⟩ := s
    obtain ⟨hl, h⟩ := h
    have f1 := AutoSeq1.idx_int
    have c1 : (its.isEmpty || (0 : Int) == 1) = false := by rw [c]; rfl
    have c2 : (decide ((0 : Int) ≤ 0) || its.isEmpty) = true := rfl
    wp_walk using wpAny_loadPart' hl
    exact ⟨_, rfl, h⟩
section
variable {X : Cx} {K : PySem.W.Frag}
def rRepT01 (K : PySem.W.Frag) : R2 := fun x y H Q => ∃ l k xs, x = .ref l ∧ y = .int k ∧ SqT K H l xs ∧ xs ≠ [] ∧ ((k = 0 ∧ ∀ p, H p = none → Q (.ref p) (upd H p (.tup []))) ∨ (k = 1 ∧ Q (.ref l) H))
theorem op_repT01 : OpR X (binaryOp .Mult) (rRepT01 X.K) := by
  intro pins s σ H x y v u Q I rx ry h
  obtain ⟨l, k, xs, rfl, rfl, hT, hne, h⟩ := h
  cases rx
  obtain ⟨t, rfl⟩ := ry
  obtain ⟨its, r, ⟨⟨cls, dd, data, sl⟩, ho, hc, n, hd⟩, hs⟩ := I.tuple hT
  simp only at hc hd
  subst hc hd
  have hi : its.toArray.isEmpty = false := by
    cases its with
    | nil => exact absurd (List.eq_nil_of_length_eq_zero (by rw [r.length]; rfl)) hne
    | cons a b => rfl
  refine wpAny_binaryOp_repeat_ref (T := "tuple") (U := "int") (by decide) ⟨_, ho, rfl⟩ (fun s' => typeIs_int s' k t) noFill_tuple_mul F.fills_int_mul F.slot_int_rmul repeat_tuple F.slot_int_index.lookup ?_
  refine call_meets F.slot_int_rmul (typeIs_int s k t) F.entry_int_rmul (F.args_int_rmul_2 _ _) (int_rmul_tuple k t l its.toArray n dd sl) ⟨ho, rfl, ⟨_, ho, rfl⟩, ?_⟩
  rcases h with ⟨rfl, q⟩ | ⟨rfl, q⟩
  · refine call_meets F.slot_tuple_mul ⟨_, ho, rfl⟩ F.entry_tuple_mul (F.args_tuple_mul_2 _ _) (tup_mul0 l its.toArray n dd sl t hi) ⟨ho, ?_⟩
    exact ⟨.ref s.heap.objs.size, _, I.laid (t' := s.toks) (o := .tup []) (fun b ob q => Heap.get?_push_of_some _ q) (Nat.le_refl _) ⟨Nat.zero_le _, [], .nil, IsTup.new _ _⟩, rfl, q _ (I.hok.fresh (Nat.le_refl _))⟩
  · refine call_meets F.slot_tuple_mul ⟨_, ho, rfl⟩ F.entry_tuple_mul (F.args_tuple_mul_2 _ _) (tup_mul1 l its.toArray n dd sl t) ⟨ho, ?_⟩
    exact ⟨.ref l, H, I, rfl, q⟩
/-- * : ints, a list or a tuple times an int -/
def rMulT (K : PySem.W.Frag) : R2 := fun x y H Q => rMulU x y H Q ∨ rRepT K x y H Q ∨ rRepT01 K x y H Q
theorem op_mulT : OpR X (binaryOp .Mult) (rMulT X.K) := opr_or op_mulU (opr_or op_repT op_repT01)
def repT : D → D → Option D
  | .tuple xs, .int k => if 0 ≤ k ∧ k ≤ 1000 ∧ xs.length ≤ 1000 ∧ xs ≠ [] then some (.tuple (List.replicate k.toNat xs).flatten) else none
  | _, _ => none
theorem sn_repT : Sn2 K (rMulT K) repT := fun b0 B Z0 Z H σ ρ x y a b c Q ok ha hb e q => by
  unfold repT at e
  split at e
  · split at e
    · rename_i hl
      obtain ⟨h0, h1, h2, h3⟩ := hl
      cases e
      cases hb
      cases ha with
      | tup hs ra =>
      have hne : ∀ {vs : List V} {ds : List D}, RpA K Z vs ds → ds ≠ [] → vs ≠ [] := fun r n z => by
        subst z
        cases r
        exact n rfl
      rename_i k _ _
      by_cases k0 : k = 0
      · subst k0
        refine .inr (.inr ⟨_, _, _, rfl, rfl, same_t ok.zh hs, hne ra h3, .inl ⟨rfl, fun p hp => ?_⟩⟩)
        obtain ⟨ok2, s2⟩ := ok.new (o := .tup []) hp
        exact q _ _ _ ok2 s2 (.tup (.inl (.inl upd_same)) .nil)
      · by_cases k1 : k = 1
        · subst k1
          refine .inr (.inr ⟨_, _, _, rfl, rfl, same_t ok.zh hs, hne ra h3, .inr ⟨rfl, q _ H Z ok (Same.refl Z) ?_⟩⟩)
          have := flat_rep ra 1
          rw [show (List.replicate 1 _).flatten = _ from List.append_nil _] at this
          exact .tup hs this
        · refine .inr (.inl ⟨_, _, _, rfl, rfl, same_t ok.zh hs, hne ra h3, by omega, h1, by rw [ra.length]; exact h2, fun p hp => ?_⟩)
          obtain ⟨ok2, s2⟩ := ok.new (o := .tup _) hp
          exact q _ _ _ ok2 s2 (.tup (.inl (.inl upd_same)) ((flat_rep ra _).mono s2))
    · cases e
  · cases e
def mulV (a b : D) : Option D := (mulU a b).orElse fun _ => repT a b
theorem sn_mulV : Sn2 K (rMulT K) mulV := sn2_or (sn2_mono sn_mulU fun _ _ _ _ h => .inl h) sn_repT
theorem sn_repLT : Sn2F K (rMulT K) repL := fun b0 B Z0 Z H σ ρ x y a b c Q ok ha hb e q => .inl (sn_repL b0 B Z0 Z H σ ρ x y a b c Q ok ha hb e q)
variable {te : TE} {tas : TA}
/-! ### a call whose changed list is new and goes away -/
def eCallBX (F : List D → List D → Option (D × List D)) (g0 : GF) (ga : GA) (ρ : Rho) : R D := (g0 ρ).bind fun box ρ1 => (ga ρ1).bind fun os ρ2 => match valA os with
  | some ds => (match F box ds with
    | some (d, _) => .ok d ρ2
    | none => .bad)
  | none => .bad
theorem de_callBX {np : Nat} {F : List D → List D → Option (D × List D)} {g0 : GF} {ga : GA} {E : XK} (hF0 : ∀ b ds d, F b ds = some d → ds.length + 1 = np) (h0 : DF K te g0) (ha : DA K tas ga) : DE K (tCall (spB K np F) [] E (tCons te tas)) (eCallBX F g0 ga) := fun b0 B Z0 Z H σ ρ d ρ' Q ok e q => by
  obtain ⟨box, ρ1, e1, e⟩ := R.bind_ok e
  obtain ⟨os, ρ2, e2, e⟩ := R.bind_ok e
  split at e
  · rename_i ds hv
    split at e
    · rename_i d' box' hF
      cases e
      refine h0 b0 B Z0 Z H σ ρ box ρ1 _ ok e1 fun p vb H1 Z1 ok1 s1 zp bp ap hp rb => ?_
      refine ha b0 (upd B p (.lst vb)) Z0 Z1 H1 σ ρ1 os ρ' _ (ok1.frame zp ap hp) e2 fun vs H2 Z2 ok2 s2 r2 => ?_
      obtain ⟨ok3, zp3, ap3, hp3⟩ := ok2.unframe (ok1.zz.free zp) bp
      have rA := valA_ok r2 hv
      refine ⟨by rw [List.append_nil, List.length_cons, rA.length]; exact hF0 _ _ _ hF, Z2, p, vb, box, vs, ds, d, box', by rw [List.append_nil], ok3.zh, zp3, hp3, rb.mono s2, rA, hF, fun v H' Z' vb' hh g zb hb' rb' r => ?_⟩
      refine q v H' Z' ⟨ok3.len, fun c o e => hh c o (ne_of_none e bp) (ok3.bh c o e), g.2.1, ok3.zz.trans g.1, fun c o e => ?_, fun i d e => ?_, fun i es e => ?_, ok3.fix, ok3.sep⟩ ((s1.trans s2).trans g.1) r
      · rcases g.2.2 c o e with z | z
        · exact ok3.nb c o z
        · exact .inr (ok3.bh.free z)
      · obtain ⟨w, z1, z2⟩ := ok3.sh i d e
        exact ⟨w, z1, z2.mono g.1⟩
      · obtain ⟨c, ws, z1, z2, z3, z4, z5⟩ := ok3.ow i es e
        have nc : c ≠ p := fun z => ap3 i es e (by rw [z1, z])
        refine ⟨c, ws, z1, ?_, z3, hh _ _ nc z4, z5.mono g.1⟩
        cases y : Z' c with
        | none => rfl
        | some o =>
          rcases g.2.2 c o y with z | z
          · rw [z2] at z; cases z
          · rw [z4] at z; cases z
    · cases e
  · cases e
end
end DL

namespace DL
open PySem L2
/-! ### data's operators on ints -/
theorem addU_int (i j : Int) : addU (.int i) (.int j) = some (.int (i + j)) := rfl
theorem subD_int (i j : Int) : subD (.int i) (.int j) = some (.int (i - j)) := rfl
theorem mulD_of {i j : Int} (h : CMul i j) : mulV (.int i) (.int j) = some (.int (i * j)) := by
  have e : mulD (.int i) (.int j) = some (.int (i * j)) := if_pos h
  unfold mulV mulU
  rw [e]; rfl
theorem cmul_l {i j : Int} (h : -(2 ^ 64) < i ∧ i < 2 ^ 64) : mulV (.int i) (.int j) = some (.int (i * j)) := mulD_of (.inl h)
theorem cmul_r {i j : Int} (h : -(2 ^ 64) < j ∧ j < 2 ^ 64) : mulV (.int i) (.int j) = some (.int (i * j)) := mulD_of (.inr h)
theorem modD_int {i j : Int} (h : 0 < j) : modD (.int i) (.int j) = some (.int (i % j)) := if_pos h
theorem fdivD_int {i j : Int} (h : 0 < j) (h2 : j < 2 ^ 300) : fdivD (.int i) (.int j) = some (.int (i / j)) := by
  have q : j.natAbs.log2 < 9000 := by
    have : j.natAbs < 2 ^ 300 := by omega
    have h0 : j.natAbs ≠ 0 := by omega
    exact Nat.lt_of_lt_of_le ((Nat.log2_lt h0).mpr this) (by decide)
  exact if_pos ⟨h, q⟩
theorem powD_int {i j : Int} (h0 : 0 ≤ j) (h1 : j ≤ 1000000) (h : i.natAbs < 2 ^ 64) : powD (.int i) (.int j) = some (.int (i ^ j.toNat)) := if_pos ⟨h0, h1, h⟩
theorem ltD_int (i j : Int) : ltD (.int i) (.int j) = some (.bool (decide (i < j))) := rfl
theorem leD_int (i j : Int) : leD (.int i) (.int j) = some (.bool (decide (i ≤ j))) := rfl
theorem gtD_int (i j : Int) : gtD (.int i) (.int j) = some (.bool (decide (j < i))) := rfl
theorem geD_int (i j : Int) : geD (.int i) (.int j) = some (.bool (decide (j ≤ i))) := rfl
theorem negD_int (i : Int) : negD (.int i) = some (.int (-i)) := rfl
theorem absD_int (i : Int) : absD [.int i] = some (.int (if i < 0 then -i else i)) := rfl
theorem intD_bool (k : Bool) : intD [.bool k] = some (.int (if k then 1 else 0)) := rfl
theorem intD_int (i : Int) : intD [.int i] = some (.int i) := rfl
theorem lenD_list (xs : List D) : lenD [.list xs] = some (.int xs.length) := rfl
theorem lenD_tuple (xs : List D) : lenD [.tuple xs] = some (.int xs.length) := rfl
theorem lenD_scr (xs : List D) : lenD [.dict [(.list xs, .none)]] = some (.int xs.length) := rfl
theorem pow10_7 : powD (.int 10) (.int 7) = some (.int 10000000) := rfl
theorem pow10_18 : powD (.int 10) (.int 18) = some (.int 1000000000000000000) := rfl
theorem pow10_40 : powD (.int 10) (.int 40) = some (.int 10000000000000000000000000000000000000000) := rfl
theorem isD_none (d : D) : isD d .none = some (.bool (isNoneD d)) := by cases d <;> rfl
theorem isNotD_none (d : D) : isNotD d .none = some (.bool (!isNoneD d)) := by cases d <;> rfl
/-! shaped data -/
theorem shaped_int (i : Int) : SeqAt.shaped (.int i) = true := rfl
theorem shaped_bool (b : Bool) : SeqAt.shaped (.bool b) = true := rfl
theorem shaped_none : SeqAt.shaped .none = true := rfl
theorem eqv_int (i j : Int) : PyData.eqv (.int i) (.int j) = decide (i = j) := by
  unfold PyData.eqv
  by_cases h : i = j
  · rw [decide_eq_true h, h]; exact beq_self_eq_true j
  · rw [decide_eq_false h]; exact beq_eq_false_iff_ne.mpr h
theorem eqv_bool (i j : Bool) : PyData.eqv (.bool i) (.bool j) = decide (i = j) := by
  unfold PyData.eqv
  cases i <;> cases j <;> rfl
theorem eqv_none : PyData.eqv .none .none = true := by unfold PyData.eqv; rfl
theorem eqD_ints (i j : Int) : eqD (.int i) (.int j) = some (.bool (decide (i = j))) := by
  rw [← eqv_int]; exact if_pos ⟨shaped_int i, shaped_int j⟩
theorem neD_ints (i j : Int) : neD (.int i) (.int j) = some (.bool (!decide (i = j))) := by
  rw [← eqv_int]; exact if_pos ⟨shaped_int i, shaped_int j⟩
theorem eqD_bools (i j : Bool) : eqD (.bool i) (.bool j) = some (.bool (decide (i = j))) := by
  rw [← eqv_bool]; exact if_pos ⟨shaped_bool i, shaped_bool j⟩
theorem neD_bools (i j : Bool) : neD (.bool i) (.bool j) = some (.bool (!decide (i = j))) := by
  rw [← eqv_bool]; exact if_pos ⟨shaped_bool i, shaped_bool j⟩
theorem eqD_of {a b : D} (ha : SeqAt.shaped a = true) (hb : SeqAt.shaped b = true) : eqD a b = some (.bool (PyData.eqv a b)) := if_pos ⟨ha, hb⟩
theorem neD_of {a b : D} (ha : SeqAt.shaped a = true) (hb : SeqAt.shaped b = true) : neD a b = some (.bool (!PyData.eqv a b)) := if_pos ⟨ha, hb⟩
/-! x[i] -/
theorem atI_nat0 {α : Type} (x : α) (xs : List α) : atI (x :: xs) 0 = some x := atI_nat (j := 0) rfl
theorem ixD_list (xs : List D) (i : Int) : ixD (.list xs) (.int i) = atI xs i := by unfold ixD; rfl
theorem ixD_tuple (xs : List D) (i : Int) : ixD (.tuple xs) (.int i) = atI xs i := by unfold ixD; rfl
theorem ixD_scr (xs : List D) (i : Int) : ixD (.dict [(.list xs, .none)]) (.int i) = atI xs i := by unfold ixD; rfl
theorem atI_3_0 {α : Type} (a b c : α) : atI [a, b, c] 0 = some a := rfl
theorem atI_3_1 {α : Type} (a b c : α) : atI [a, b, c] 1 = some b := rfl
theorem atI_3_2 {α : Type} (a b c : α) : atI [a, b, c] 2 = some c := rfl
theorem ixN_3_0 : ixN 3 0 = some 0 := rfl
theorem ixN_3_1 : ixN 3 1 = some 1 := rfl
theorem ixN_3_2 : ixN 3 2 = some 2 := rfl
theorem atI_of {α : Type} {xs : List α} {i : Int} {n : Nat} {x : α} (hi : i = (n : Int)) (h : xs[n]? = some x) : atI xs i = some x := by
  subst hi
  exact atI_nat h
/-- the box: three ints -/
def GoodBox (n : Int) (box : List D) : Prop := ∃ a b c : Int, box = [.int a, .int b, .int c] ∧ 0 ≤ a ∧ 0 ≤ b ∧ b < 2 ^ 62 ∧ 0 ≤ c ∧ c ≤ n
theorem GoodBox.mono {n m : Int} {box : List D} (h : GoodBox n box) (hm : n ≤ m) : GoodBox m box := by
  obtain ⟨a, b, c, e, h1, h2, h3, h4, h5⟩ := h
  exact ⟨a, b, c, e, h1, h2, h3, h4, by omega⟩
/-! ### loops over data -/
theorem for_inv {k : GG} {b : GS} {ds : List D} (I : Nat → Rho → Prop) (step : ∀ i d ρ, ds[i]? = some d → I i ρ → ∃ ρ1, k d ρ = some ρ1 ∧ ∃ ρ2, (b ρ1 = .nx ρ2 ∨ b ρ1 = .ct ρ2) ∧ I (i + 1) ρ2) :
    ∀ {ρ : Rho}, I 0 ρ → ∃ ρ', forL k b ds ρ = .nx ρ' ∧ I ds.length ρ' := by
  have main : ∀ (es : List D) (j : Nat) (ρ : Rho), ds.drop j = es → I j ρ → ∃ ρ', forL k b es ρ = .nx ρ' ∧ I (j + es.length) ρ' := by
    intro es
    induction es with
    | nil => intro j ρ _ h; exact ⟨ρ, rfl, h⟩
    | cons d es ih =>
      intro j ρ hd h
      have hj : ds[j]? = some d := by
        have := congrArg List.head? hd
        rw [List.head?_drop] at this
        exact this
      have hd2 : ds.drop (j + 1) = es := by
        rw [← List.tail_drop, hd]; rfl
      obtain ⟨ρ1, e1, ρ2, e2, h2⟩ := step j d ρ hj h
      obtain ⟨ρ', e3, h3⟩ := ih (j + 1) ρ2 hd2 h2
      refine ⟨ρ', ?_, by rw [List.length_cons, show j + (es.length + 1) = j + 1 + es.length by omega]; exact h3⟩
      unfold forL
      rw [e1]
      rcases e2 with e2 | e2 <;> (dsimp only; rw [e2]; exact e3)
  intro ρ h
  obtain ⟨ρ', e, h'⟩ := main ds 0 ρ rfl h
  rw [Nat.zero_add] at h'
  exact ⟨ρ', e, h'⟩
theorem lc_inv {vs : List Nat} {k : GG} {t : GT} {e : GE} {ds : List D} (I : Nat → Rho → Prop) (Pd : D → D → Prop) (step : ∀ i d ρ, ds[i]? = some d → I i ρ → ∃ ρ1, k d ρ = some ρ1 ∧ ∃ ρ2, t ρ1 = .ok true ρ2 ∧ ∃ y ρ3, e ρ2 = .ok y ρ3 ∧ Pd d y ∧ I (i + 1) (wipeR ρ3 vs)) :
    ∀ {ρ : Rho}, I 0 ρ → ∃ ys ρ', lcL vs k t e ds ρ = .ok ys ρ' ∧ I ds.length ρ' ∧ Paired Pd ds ys := by
  have main : ∀ (es : List D) (j : Nat) (ρ : Rho), ds.drop j = es → I j ρ → ∃ ys ρ', lcL vs k t e es ρ = .ok ys ρ' ∧ I (j + es.length) ρ' ∧ Paired Pd es ys := by
    intro es
    induction es with
    | nil => intro j ρ _ h; exact ⟨[], ρ, rfl, h, .nil⟩
    | cons d es ih =>
      intro j ρ hd h
      have hj : ds[j]? = some d := by
        have := congrArg List.head? hd
        rw [List.head?_drop] at this
        exact this
      have hd2 : ds.drop (j + 1) = es := by
        rw [← List.tail_drop, hd]; rfl
      obtain ⟨ρ1, e1, ρ2, e2, y, ρ3, e3, py, h3⟩ := step j d ρ hj h
      obtain ⟨ys, ρ', e4, h4, pp⟩ := ih (j + 1) _ hd2 h3
      refine ⟨y :: ys, ρ', ?_, by rw [List.length_cons, show j + (es.length + 1) = j + 1 + es.length by omega]; exact h4, .cons py pp⟩
      unfold lcL
      rw [e1]
      dsimp only
      rw [e2, R.ok_bind, if_pos rfl, e3, R.ok_bind, e4]
      rfl
  intro ρ h
  obtain ⟨ys, ρ', e, h', pp⟩ := main ds 0 ρ rfl h
  rw [Nat.zero_add] at h'
  exact ⟨ys, ρ', e, h', pp⟩
/-- a comprehension whose turns leave the environment as it is -/
theorem lc_fm {vs : List Nat} {k : GG} {t : GT} {e : GE} {ρ : Rho} (f : D → Option D) : ∀ {ds : List D}, (∀ d ∈ ds, ∃ ρ1, k d ρ = some ρ1 ∧ wipeR ρ1 vs = ρ ∧ ((∃ y, f d = some y ∧ t ρ1 = .ok true ρ1 ∧ e ρ1 = .ok y ρ1) ∨ (f d = none ∧ t ρ1 = .ok false ρ1))) → lcL vs k t e ds ρ = .ok (ds.filterMap f) ρ
  | [], _ => rfl
  | d :: ds, h => by
    obtain ⟨ρ1, e1, ew, h1⟩ := h d List.mem_cons_self
    have ih := lc_fm (ds := ds) f fun x hx => h x (List.mem_cons_of_mem _ hx)
    unfold lcL
    rw [e1]
    dsimp only
    rcases h1 with ⟨y, fy, et, ee⟩ | ⟨fn, et⟩
    · rw [et, R.ok_bind, if_pos rfl, ee, R.ok_bind, ew, ih, List.filterMap_cons, fy]
      rfl
    · rw [et, R.ok_bind, if_neg Bool.false_ne_true, ew, ih, List.filterMap_cons, fn]
theorem lc_map {vs : List Nat} {k : GG} {t : GT} {e : GE} {ρ : Rho} (f : D → D) {ds : List D} (h : ∀ d ∈ ds, ∃ ρ1, k d ρ = some ρ1 ∧ wipeR ρ1 vs = ρ ∧ t ρ1 = .ok true ρ1 ∧ e ρ1 = .ok (f d) ρ1) : lcL vs k t e ds ρ = .ok (ds.map f) ρ := by
  rw [lc_fm (fun d => some (f d)) fun d hd => ?_]
  · show R.ok (ds.filterMap (some ∘ f)) ρ = _
    rw [List.filterMap_eq_map]
  · obtain ⟨ρ1, e1, e2, e3, e4⟩ := h d hd
    exact ⟨ρ1, e1, e2, .inl ⟨f d, rfl, e3, e4⟩⟩
/-! ### isinstance, by the table -/
theorem kt_ll : kitB "list" "list" = some true := by decide +kernel
theorem kt_lt : kitB "list" "tuple" = some false := by decide +kernel
theorem kt_ls : kitB "list" "str" = some false := by decide +kernel
theorem kt_li : kitB "list" "int" = some false := by decide +kernel
theorem kt_lb : kitB "list" "bool" = some false := by decide +kernel
theorem kt_tl : kitB "tuple" "list" = some false := by decide +kernel
theorem kt_tt : kitB "tuple" "tuple" = some true := by decide +kernel
theorem kt_ts : kitB "tuple" "str" = some false := by decide +kernel
theorem kt_ti : kitB "tuple" "int" = some false := by decide +kernel
theorem kt_tb : kitB "tuple" "bool" = some false := by decide +kernel
theorem kt_sl : kitB "str" "list" = some false := by decide +kernel
theorem kt_st : kitB "str" "tuple" = some false := by decide +kernel
theorem kt_ss : kitB "str" "str" = some true := by decide +kernel
theorem kt_si : kitB "str" "int" = some false := by decide +kernel
theorem kt_sb : kitB "str" "bool" = some false := by decide +kernel
theorem kt_il : kitB "int" "list" = some false := by decide +kernel
theorem kt_it : kitB "int" "tuple" = some false := by decide +kernel
theorem kt_is : kitB "int" "str" = some false := by decide +kernel
theorem kt_ii : kitB "int" "int" = some true := by decide +kernel
theorem kt_ib : kitB "int" "bool" = some false := by decide +kernel
theorem kt_bl : kitB "bool" "list" = some false := by decide +kernel
theorem kt_bt : kitB "bool" "tuple" = some false := by decide +kernel
theorem kt_bs : kitB "bool" "str" = some false := by decide +kernel
theorem kt_bi : kitB "bool" "int" = some true := by decide +kernel
theorem kt_bb : kitB "bool" "bool" = some true := by decide +kernel
theorem kt_nl : kitB "NoneType" "list" = some false := by decide +kernel
theorem kt_nt : kitB "NoneType" "tuple" = some false := by decide +kernel
theorem kt_ns : kitB "NoneType" "str" = some false := by decide +kernel
theorem kt_ni : kitB "NoneType" "int" = some false := by decide +kernel
theorem kt_nb : kitB "NoneType" "bool" = some false := by decide +kernel
theorem zipD_self : ∀ xs : List D, zipD xs xs = xs.map fun x => .tuple [x, x]
  | [] => rfl
  | x :: xs => by
    show _ :: zipD xs xs = _
    rw [zipD_self xs]; rfl
end DL

namespace DL
open PySem L2
/-! ### == and != : texts too -/
section
variable {X : Cx} {K : PySem.W.Frag}
def rEqU (K : PySem.W.Frag) : R2 := fun x y H Q => rEqD K x y H Q ∨ rEq x y H Q
def rNeU (K : PySem.W.Frag) : R2 := fun x y H Q => rNeD K x y H Q ∨ rNe x y H Q
theorem op_eqU {k : Nat} (hr : Room k X.A) : OpR X (compareOp .Eq) (rEqU X.K) := opr_or (op_eqD hr.units) op_eq
theorem op_neU {k : Nat} (hr : Room k X.A) : OpR X (compareOp .NotEq) (rNeU X.K) := opr_or (op_neD hr.units) op_ne
def eqS : D → D → Option D
  | .str x, .str y => some (.bool (decide (x = y)))
  | _, _ => none
def neS : D → D → Option D
  | .str x, .str y => some (.bool (!decide (x = y)))
  | _, _ => none
def eqW (a b : D) : Option D := (eqS a b).orElse fun _ => eqD a b
def neW (a b : D) : Option D := (neS a b).orElse fun _ => neD a b
theorem str_inj (x y : Str) : decide (V.str x = V.str y) = decide (x = y) := by
  by_cases h : x = y
  · rw [decide_eq_true h, h]; exact decide_eq_true rfl
  · rw [decide_eq_false h]; exact decide_eq_false fun z => h (V.str.inj z)
theorem sn_eqS : Sn2 K (rEqU K) eqS := fun b0 B Z0 Z H σ ρ x y a b c Q ok ha hb e q => by
  unfold eqS at e
  split at e
  · cases e; cases ha; cases hb
    exact .inr ⟨rfl, by rw [str_inj]; exact q _ H Z ok (Same.refl Z) (.bl _)⟩
  · cases e
theorem sn_neS : Sn2 K (rNeU K) neS := fun b0 B Z0 Z H σ ρ x y a b c Q ok ha hb e q => by
  unfold neS at e
  split at e
  · cases e; cases ha; cases hb
    exact .inr ⟨rfl, by rw [str_inj]; exact q _ H Z ok (Same.refl Z) (.bl _)⟩
  · cases e
theorem sn_eqW : Sn2 K (rEqU K) eqW := sn2_or sn_eqS (sn2_mono sn_eq fun _ _ _ _ h => .inl h)
theorem sn_neW : Sn2 K (rNeU K) neW := sn2_or sn_neS (sn2_mono sn_ne fun _ _ _ _ h => .inl h)
theorem eqW_ints (i j : Int) : eqW (.int i) (.int j) = some (.bool (decide (i = j))) := eqD_ints i j
theorem neW_ints (i j : Int) : neW (.int i) (.int j) = some (.bool (!decide (i = j))) := neD_ints i j
theorem eqW_bools (i j : Bool) : eqW (.bool i) (.bool j) = some (.bool (decide (i = j))) := eqD_bools i j
theorem neW_bools (i j : Bool) : neW (.bool i) (.bool j) = some (.bool (!decide (i = j))) := neD_bools i j
theorem eqW_strs (x y : Str) : eqW (.str x) (.str y) = some (.bool (decide (x = y))) := rfl
theorem neW_strs (x y : Str) : neW (.str x) (.str y) = some (.bool (!decide (x = y))) := rfl
theorem eqW_none : eqW .none .none = some (.bool true) := by
  show eqD .none .none = _
  rw [eqD_of rfl rfl, eqv_none]
theorem eqW_in (i : Int) : eqW .none (.int i) = some (.bool false) := by
  show eqD .none (.int i) = _
  rw [eqD_of rfl rfl]; unfold PyData.eqv; rfl
theorem eqW_ni (i : Int) : eqW (.int i) .none = some (.bool false) := by
  show eqD (.int i) .none = _
  rw [eqD_of rfl rfl]; unfold PyData.eqv; rfl
theorem eqW_tt {xs ys : List D} (h1 : SeqAt.shaped (.tuple xs) = true) (h2 : SeqAt.shaped (.tuple ys) = true) : eqW (.tuple xs) (.tuple ys) = some (.bool (PyData.eqv (.tuple xs) (.tuple ys))) := eqD_of h1 h2
theorem neW_tt {xs ys : List D} (h1 : SeqAt.shaped (.tuple xs) = true) (h2 : SeqAt.shaped (.tuple ys) = true) : neW (.tuple xs) (.tuple ys) = some (.bool (!PyData.eqv (.tuple xs) (.tuple ys))) := neD_of h1 h2
theorem eqW_ll {xs ys : List D} (h1 : SeqAt.shaped (.list xs) = true) (h2 : SeqAt.shaped (.list ys) = true) : eqW (.list xs) (.list ys) = some (.bool (PyData.eqv (.list xs) (.list ys))) := eqD_of h1 h2
theorem neW_ll {xs ys : List D} (h1 : SeqAt.shaped (.list xs) = true) (h2 : SeqAt.shaped (.list ys) = true) : neW (.list xs) (.list ys) = some (.bool (!PyData.eqv (.list xs) (.list ys))) := neD_of h1 h2
end
/-! ### rows of ints are shaped; when they are equal -/
theorem canLay_ints : ∀ ns : List Int, PyData.canLayAll0 (ns.map PyData.int) = true
  | [] => by simp [PyData.canLayAll0]
  | n :: r => by simp [PyData.canLayAll0, PyData.canLay0, canLay_ints r]
theorem depth_ints : ∀ ns : List Int, PyData.depthAll (ns.map PyData.int) = 0
  | [] => by simp [PyData.depthAll]
  | n :: r => by simp [PyData.depthAll, PyData.depth, depth_ints r]
theorem shaped_li (ns : List Int) : SeqAt.shaped (.list (ns.map PyData.int)) = true := by
  unfold SeqAt.shaped
  simp [PyData.canLay0, canLay_ints, PyData.depth, depth_ints]
theorem shaped_ti (ns : List Int) : SeqAt.shaped (.tuple (ns.map PyData.int)) = true := by
  unfold SeqAt.shaped
  simp [PyData.canLay0, canLay_ints, PyData.depth, depth_ints]
theorem eqvAll_ints : ∀ ns ms : List Int, PyData.eqvAll (ns.map PyData.int) (ms.map PyData.int) = decide (ns = ms)
  | [], [] => by simp [PyData.eqvAll]
  | [], m :: ms => by simp [PyData.eqvAll]
  | n :: ns, [] => by simp [PyData.eqvAll]
  | n :: ns, m :: ms => by
    simp only [List.map_cons, PyData.eqvAll, eqv_int, eqvAll_ints ns ms, List.cons.injEq, Bool.decide_and]
theorem eqv_li (ns ms : List Int) : PyData.eqv (.list (ns.map PyData.int)) (.list (ms.map PyData.int)) = decide (ns = ms) := by
  rw [← eqvAll_ints]; simp [PyData.eqv]
theorem eqv_ti (ns ms : List Int) : PyData.eqv (.tuple (ns.map PyData.int)) (.tuple (ms.map PyData.int)) = decide (ns = ms) := by
  rw [← eqvAll_ints]; simp [PyData.eqv]
theorem eqW_ti (ns ms : List Int) : eqW (.tuple (ns.map PyData.int)) (.tuple (ms.map PyData.int)) = some (.bool (decide (ns = ms))) := by rw [eqW_tt (shaped_ti _) (shaped_ti _), eqv_ti]
theorem neW_ti (ns ms : List Int) : neW (.tuple (ns.map PyData.int)) (.tuple (ms.map PyData.int)) = some (.bool (!decide (ns = ms))) := by rw [neW_tt (shaped_ti _) (shaped_ti _), eqv_ti]
theorem eqW_li (ns ms : List Int) : eqW (.list (ns.map PyData.int)) (.list (ms.map PyData.int)) = some (.bool (decide (ns = ms))) := by rw [eqW_ll (shaped_li _) (shaped_li _), eqv_li]
theorem neW_li (ns ms : List Int) : neW (.list (ns.map PyData.int)) (.list (ms.map PyData.int)) = some (.bool (!decide (ns = ms))) := by rw [neW_ll (shaped_li _) (shaped_li _), eqv_li]
/-! ### repr fits -/
structure Shw (h L : Nat) (d : D) : Prop where
  sh : d.showable = true
  nd : d.hasDict = false
  dp : d.depth ≤ h
  ln : d.shown.length ≤ L
theorem Shw.mono {h h' L L' : Nat} {d : D} (s : Shw h L d) (a : h ≤ h') (b : L ≤ L') : Shw h' L' d := ⟨s.sh, s.nd, Nat.le_trans s.dp a, Nat.le_trans s.ln b⟩
theorem shw_int {i : Int} (h : i.natAbs < 10 ^ 60) : Shw 0 61 (.int i) := by
  refine ⟨?_, by simp [PyData.hasDict], by simp [PyData.depth], ?_⟩
  · simp only [PyData.showable, decide_eq_true_eq]
    by_cases h0 : i.natAbs = 0
    · rw [h0]; decide
    · exact Nat.lt_of_lt_of_le ((Nat.log2_lt h0).mpr (Nat.lt_of_lt_of_le h (by decide : 10 ^ 60 ≤ 2 ^ 200))) (by decide)
  · have := int_text_length_le10 (k := 60) (by decide) h
    have e : PyData.shown (.int i) = Str.ofString (toString i) := by simp only [PyData.shown]
    rw [e, ofString_length]
    exact this
theorem shw_none : Shw 0 61 .none := ⟨by simp [PyData.showable], by simp [PyData.hasDict], by simp [PyData.depth], by simp only [PyData.shown]; decide⟩
theorem textFrom_le : ∀ (ts : List Str) (L k : Nat) (acc : Str), (∀ t ∈ ts, t.length ≤ L) → (textFrom k acc ts).length ≤ acc.length + ts.length * (L + 2)
  | [], L, k, acc, _ => by show acc.length ≤ _; simp
  | t :: r, L, k, acc, h => by
    have ih := textFrom_le r L (k + 1) (acc ++ (if k > 0 then ", " else "" : String) ++ t) fun x hx => h x (List.mem_cons_of_mem _ hx)
    have ht := h t List.mem_cons_self
    have e : (acc ++ (if k > 0 then ", " else "" : String) ++ t : Str).length ≤ acc.length + 2 + L := by
      rw [Str.length_append, Str.length_append]
      have : (Str.ofString (if k > 0 then ", " else "")).length ≤ 2 := by split <;> decide
      omega
    show (textFrom (k + 1) _ r).length ≤ _
    rw [List.length_cons, Nat.succ_mul]
    omega
theorem shownAll_le : ∀ {xs : List D} {h L : Nat}, (∀ x ∈ xs, Shw h L x) → (∀ t ∈ PyData.shownAll xs, t.length ≤ L) ∧ (PyData.shownAll xs).length = xs.length ∧ PyData.showableAll xs = true ∧ PyData.hasDictAll xs = false ∧ PyData.depthAll xs ≤ h
  | [], h, L, _ => by simp [PyData.shownAll, PyData.showableAll, PyData.hasDictAll, PyData.depthAll]
  | x :: xs, h, L, hx => by
    obtain ⟨a, b, c, d, e⟩ := shownAll_le (xs := xs) fun y hy => hx y (List.mem_cons_of_mem _ hy)
    have q := hx x List.mem_cons_self
    have q1 := q.ln
    have q2 := q.dp
    refine ⟨?_, ?_, ?_, ?_, ?_⟩
    · intro t ht
      simp only [PyData.shownAll, List.mem_cons] at ht
      rcases ht with rfl | ht
      · exact q1
      · exact a t ht
    · simp [PyData.shownAll, b]
    · simp [PyData.showableAll, q.sh, c]
    · simp [PyData.hasDictAll, q.nd, d]
    · simp only [PyData.depthAll]; omega
theorem shw_list {xs : List D} {h L : Nat} (hx : ∀ x ∈ xs, Shw h L x) : Shw (h + 1) (2 + xs.length * (L + 2)) (.list xs) := by
  obtain ⟨a, b, c, d, e⟩ := shownAll_le hx
  refine ⟨by simpa [PyData.showable] using c, by simpa [PyData.hasDict] using d, by simp only [PyData.depth]; omega, ?_⟩
  simp only [PyData.shown, listText]
  have := textFrom_le (PyData.shownAll xs) L 0 "[" a
  rw [Str.length_append]
  rw [b] at this
  have h1 : (Str.ofString "[").length = 1 := by decide
  have h2 : (Str.ofString "]").length = 1 := by decide
  omega
theorem repr_of {d : D} {h L : Nat} (s : Shw h L d) (sq : isSq d = true) (hh : h ≤ 30) (hL : L ≤ sizeLine) : reprD [d] = some (.str d.shown) := if_pos ⟨sq, s.sh, s.nd, Nat.le_trans s.dp hh, Nat.le_trans s.ln hL⟩
theorem nc0 : ((0 : Nat) : Int) = 0 := rfl
theorem nc1 : ((1 : Nat) : Int) = 1 := rfl
theorem nc2 : ((2 : Nat) : Int) = 2 := rfl
theorem nc3 : ((3 : Nat) : Int) = 3 := rfl
theorem nc4 : ((4 : Nat) : Int) = 4 := rfl
theorem nc5 : ((5 : Nat) : Int) = 5 := rfl
theorem nc6 : ((6 : Nat) : Int) = 6 := rfl
theorem nc7 : ((7 : Nat) : Int) = 7 := rfl
theorem nc8 : ((8 : Nat) : Int) = 8 := rfl
theorem nc9 : ((9 : Nat) : Int) = 9 := rfl
theorem nc10 : ((10 : Nat) : Int) = 10 := rfl
theorem nc11 : ((11 : Nat) : Int) = 11 := rfl
theorem nc12 : ((12 : Nat) : Int) = 12 := rfl
theorem nc13 : ((13 : Nat) : Int) = 13 := rfl
theorem nc14 : ((14 : Nat) : Int) = 14 := rfl
theorem nc15 : ((15 : Nat) : Int) = 15 := rfl
theorem nc16 : ((16 : Nat) : Int) = 16 := rfl
theorem nc17 : ((17 : Nat) : Int) = 17 := rfl
theorem nc18 : ((18 : Nat) : Int) = 18 := rfl
theorem nc19 : ((19 : Nat) : Int) = 19 := rfl
theorem nc20 : ((20 : Nat) : Int) = 20 := rfl
end DL

namespace DL
open PySem L2
section
variable {K : PySem.W.Frag} {Wx : WX} {ta tb te td : TE} {tt tu : TT} {tas : TA} {t u rest : TS} {b0 : Option Addr} {B Bf Z0 Z H : Hp} {σ : L2.St} {ρ : Rho} {p : Addr} {o o' : HO}
/-! ### a list of new things, compared, then its own lists are changed -/
theorem Ok.shrink (ok : Ok K b0 Bf Z0 Z H σ ρ) (s : Same B Bf) : Ok K b0 B Z0 Z H σ ρ := by
  refine ⟨ok.len, s.trans ok.bh, ok.zh, ok.zz, fun q x e => ?_, ok.sh, fun i ds e => ?_, ok.fix, ok.sep⟩
  · rcases ok.nb q x e with z | z
    · exact .inl z
    · exact .inr (s.free z)
  · obtain ⟨q, vs, e1, e2, e3, e4, e5⟩ := ok.ow i ds e
    exact ⟨q, vs, e1, e2, s.free e3, e4, e5⟩
theorem Ok.reB (ok : Ok K b0 Bf Z0 Z H σ ρ) (hp : Bf p = some o) (zp : Z0 p = none) : Ok K b0 (upd Bf p o') Z0 Z (upd H p o') σ ρ := by
  have hz : Z p = none := by
    cases q : Z p with
    | none => rfl
    | some x =>
      rcases ok.nb p x q with z | z
      · rw [zp] at z; cases z
      · rw [hp] at z; cases z
  have ap : ∀ (i : Nat) (ds : List D) (q : Addr) (vs : List V), ρ[i]? = some (.ow ds) → Bf q = none → q ≠ p := fun i ds q vs _ e z => by rw [z, hp] at e; cases e
  refine ⟨ok.len, fun q x e => ?_, fun q x e => ?_, ok.zz, fun q x e => ?_, ok.sh, fun i ds e => ?_, ok.fix, ok.sep⟩
  · by_cases hq : q = p
    · subst hq; rw [upd_same] at e ⊢; exact e
    · rw [upd_ne hq] at e ⊢; exact ok.bh q x e
  · rw [upd_ne (ne_of_none e hz)]; exact ok.zh q x e
  · rcases ok.nb q x e with z | z
    · exact .inl z
    · exact .inr (by rw [upd_ne (ne_of_none e hz)]; exact z)
  · obtain ⟨q, vs, e1, e2, e3, e4, e5⟩ := ok.ow i ds e
    have nq := ap i ds q vs e e3
    exact ⟨q, vs, e1, e2, by rw [upd_ne nq]; exact e3, by rw [upd_ne nq]; exact e4, e5⟩
theorem Ok.putAny {i : Nat} {x : Option V} (ok : Ok K b0 B Z0 Z H σ ρ) : Ok K b0 B Z0 Z H (σ.set i x) (ρ.set i .no) :=
  ok.weak (by rw [List.length_set, List.length_set]; exact ok.len) fun j s h => (no_get h).imp id fun z => ⟨z.2, by rw [List.getElem?_set_ne z.1]⟩
/-- the frames: new lists and what they hold -/
inductive NwA (K : PySem.W.Frag) (B Z0 Bf Z : Hp) : List V → List Nw → Prop
  | nil : NwA K B Z0 Bf Z [] []
  | s {v : V} {vs : List V} {d : D} {ns : List Nw} : Rp K Z v d → NwA K B Z0 Bf Z vs ns → NwA K B Z0 Bf Z (v :: vs) (.s d :: ns)
  | f {q : Addr} {ws vs : List V} {ds : List D} {ns : List Nw} : Bf q = some (.lst ws) → B q = none → Z0 q = none → RpA K Z ws ds → NwA K B Z0 Bf Z vs ns → NwA K B Z0 Bf Z (.ref q :: vs) (.f ds :: ns)
def Nw.dat : Nw → D
  | .s d => d
  | .f ds => .list ds
def DNL (K : PySem.W.Frag) (t : TA) (g : Rho → R (List Nw)) : Prop := ∀ b0 B Bf Z0 Z H σ ρ ns ρ' (Q : List V → Hp → Prop), Same B Bf → Ok K b0 Bf Z0 Z H σ ρ → g ρ = .ok ns ρ' →
  (∀ vs H' Z' Bf', Same Bf Bf' → Ok K b0 Bf' Z0 Z' H' σ ρ' → Same Z Z' → NwA K B Z0 Bf' Z' vs ns → Q vs H') → t σ H Q
def nlNil (ρ : Rho) : R (List Nw) := .ok [] ρ
def nlCons (g : Rho → R Nw) (r : Rho → R (List Nw)) (ρ : Rho) : R (List Nw) := (g ρ).bind fun n ρ1 => (r ρ1).map (n :: ·)
theorem dnl_nil : DNL K tNil nlNil := fun b0 B Bf Z0 Z H σ ρ ns ρ' Q sb ok e q => by
  cases e
  exact q [] H Z Bf (Same.refl Bf) ok (Same.refl Z) .nil
theorem dnl_s {g : GE} {r : Rho → R (List Nw)} (h : DE K te g) (hr : DNL K tas r) : DNL K (tCons te tas) (nlCons (nS g) r) := fun b0 B Bf Z0 Z H σ ρ ns ρ' Q sb ok e q => by
  obtain ⟨n, ρ1, e1, e2⟩ := R.bind_ok e
  obtain ⟨d, e3, rfl⟩ := R.map_ok e1
  obtain ⟨ms, e4, rfl⟩ := R.map_ok e2
  refine h b0 Bf Z0 Z H σ ρ d ρ1 _ ok e3 fun v H1 Z1 ok1 s1 r1 => ?_
  exact hr b0 B Bf Z0 Z1 H1 σ ρ1 ms ρ' _ sb ok1 e4 fun vs H2 Z2 Bf2 sb2 ok2 s2 r2 => q (v :: vs) H2 Z2 Bf2 sb2 ok2 (s1.trans s2) (.s (r1.mono s2) r2)
theorem dnl_f {g : GF} {r : Rho → R (List Nw)} (h : DF K te g) (hr : DNL K tas r) : DNL K (tCons te tas) (nlCons (nF g) r) := fun b0 B Bf Z0 Z H σ ρ ns ρ' Q sb ok e q => by
  obtain ⟨n, ρ1, e1, e2⟩ := R.bind_ok e
  obtain ⟨ds, e3, rfl⟩ := R.map_ok e1
  obtain ⟨ms, e4, rfl⟩ := R.map_ok e2
  refine h b0 Bf Z0 Z H σ ρ ds ρ1 _ ok e3 fun q1 ws H1 Z1 ok1 s1 zq bq aq hq r1 => ?_
  have sn : Same Bf (upd Bf q1 (.lst ws)) := fun c x ec => by rw [upd_ne (ne_of_none ec bq)]; exact ec
  refine hr b0 B (upd Bf q1 (.lst ws)) Z0 Z1 H1 σ ρ1 ms ρ' _ (sb.trans sn) (ok1.frame zq aq hq) e4 fun vs H2 Z2 Bf2 sb2 ok2 s2 r2 => ?_
  exact q (.ref q1 :: vs) H2 Z2 Bf2 (sn.trans sb2) ok2 (s1.trans s2) (.f (sb2 _ _ upd_same) (sb.free bq) (ok1.zz.free zq) (r1.mono s2) r2)
theorem NwA.mono {Z' Bf' : Hp} (s : Same Z Z') (b : Same Bf Bf') : ∀ {vs : List V} {ns : List Nw}, NwA K B Z0 Bf Z vs ns → NwA K B Z0 Bf' Z' vs ns
  | _, _, .nil => .nil
  | _, _, .s h r => .s (h.mono s) (NwA.mono s b r)
  | _, _, .f h1 h2 h3 h4 r => .f (b _ _ h1) h2 h3 (h4.mono s) (NwA.mono s b r)
theorem NwA.rp (sz : Same Z H) (sb : Same Bf H) : ∀ {vs : List V} {ns : List Nw}, NwA K B Z0 Bf Z vs ns → RpA K H vs (ns.map Nw.dat)
  | _, _, .nil => .nil
  | _, _, .s h r => .cons (h.mono sz) (NwA.rp sz sb r)
  | _, _, .f h1 _ _ h4 r => .cons (.lst (sb _ _ h1) (h4.mono sz)) (NwA.rp sz sb r)
theorem NwA.len : ∀ {vs : List V} {ns : List Nw}, NwA K B Z0 Bf Z vs ns → vs.length = ns.length
  | _, _, .nil => rfl
  | _, _, .s _ r => by rw [List.length_cons, List.length_cons, NwA.len r]
  | _, _, .f _ _ _ _ r => by rw [List.length_cons, List.length_cons, NwA.len r]
theorem NwA.get : ∀ {vs : List V} {ns : List Nw} {j : Nat} {ds : List D}, NwA K B Z0 Bf Z vs ns → ns[j]? = some (.f ds) → ∃ q ws, vs[j]? = some (.ref q) ∧ Bf q = some (.lst ws) ∧ B q = none ∧ Z0 q = none ∧ ws.length = ds.length
  | _, _, j, _, .nil, h => by simp at h
  | _, _, 0, _, .s _ _, h => by simp at h
  | _, _, 0, _, .f (q := q) (ws := ws) h1 h2 h3 h4 _, h => by
    simp at h
    subst h
    exact ⟨q, ws, rfl, h1, h2, h3, h4.length⟩
  | _, _, j + 1, ds, .s _ r, h => by
    obtain ⟨q, ws, e, z⟩ := NwA.get (j := j) (ds := ds) r (by simpa using h)
    exact ⟨q, ws, by simpa using e, z⟩
  | _, _, j + 1, ds, .f _ _ _ _ r, h => by
    obtain ⟨q, ws, e, z⟩ := NwA.get (j := j) (ds := ds) r (by simpa using h)
    exact ⟨q, ws, by simpa using e, z⟩
/-- heard[j].append(x) -/
abbrev tApp1 (K : PySem.W.Frag) (h : Nat) (j : Int) (x : Str) : TS := tDrop (tBM K "list" rAppend (tOp (rIx K) (tVar h) (tC (.int j))) (tCons (tC (.str x)) tNil))
def tApps (K : PySem.W.Frag) (h : Nat) (x : Str) (rest : TS) : List Nat → TS
  | [] => rest
  | j :: js => tSeq (tApp1 K h (j : Int) x) (tApps K h x rest js)
/-- each place holds a list that is framed, smaller than half the line -/
theorem apps_run {h : Nat} {x : Str} {E : Ends} {a : Addr} {vs : List V} (hσ : σ[h]? = some (some (.ref a))) (hrest : ∀ Bf H, Same B Bf → Ok K b0 Bf Z0 Z H σ ρ → rest E σ H) :
    ∀ (js : List Nat) {Bf H : Hp}, Same B Bf → Ok K b0 Bf Z0 Z H σ ρ → Bf a = some (.lst vs) → (∀ j ∈ js, ∃ q ws, vs[j]? = some (.ref q) ∧ q ≠ a ∧ Bf q = some (.lst ws) ∧ B q = none ∧ Z0 q = none ∧ ws.length + js.length ≤ sizeLine) → tApps K h x rest js E σ H
  | [], Bf, H, sb, ok, _, _ => hrest Bf H sb ok
  | j :: js, Bf, H, sb, ok, ha, hj => by
    obtain ⟨q, ws, e1, nq, e2, e3, e4, e5⟩ := hj j List.mem_cons_self
    have hH : H a = some (.lst vs) := ok.bh _ _ ha
    have hq : H q = some (.lst ws) := ok.bh _ _ e2
    rw [List.length_cons] at e5
    refine ⟨.ref a, hσ, .inl ⟨a, vs, (j : Int), .ref q, rfl, rfl, .inl (.inl hH), atI_nat e1, .inl ⟨rfl, ws, .inl (.inl hq)⟩, q, ws, .str x, rfl, rfl, hq, by omega, ?_⟩⟩
    have sn : Same B (upd Bf q (.lst (ws ++ [.str x]))) := fun c y ec => by rw [upd_ne (ne_of_none ec e3)]; exact sb c y ec
    refine apps_run hσ hrest js sn (ok.reB e2 e4) (by rw [upd_ne (Ne.symm nq)]; exact ha) fun j' hj' => ?_
    obtain ⟨q', ws', f1, nq', f2, f3, f4, f5⟩ := hj j' (List.mem_cons_of_mem _ hj')
    rw [List.length_cons] at f5
    by_cases hqq : q' = q
    · subst hqq
      refine ⟨q', ws ++ [.str x], f1, nq, upd_same, e3, e4, ?_⟩
      rw [List.length_append, List.length_singleton]
      omega
    · exact ⟨q', ws', f1, nq', by rw [upd_ne hqq]; exact f2, f3, f4, by omega⟩
def isF (k : Nat) : Option Nw → Bool
  | some (.f ds) => decide (ds.length + k ≤ sizeLine)
  | _ => false
/-- h = [..]; if not same(h, due): return False; h[j].append(x) ..; the rest -/
def sHeard (h : Nat) (gn : Rho → R (List Nw)) (Fs : List D → Option D) (gd : GE) (js : List Nat) (rest : GS) (ρ : Rho) : O := (gn ρ).to fun ns ρ1 => if ns.length ≤ sizeLine ∧ h < ρ1.length then (gd (ρ1.set h .no)).to fun due ρ2 => match Fs [.list (ns.map Nw.dat), due] with
    | some (.bool true) => if js.all (fun j => isF js.length ns[j]?) then rest (ρ2.set h .no) else .bad
    | some (.bool false) => .rt (.bool false) (ρ2.set h .no)
    | _ => .bad
  else .bad
theorem ds_heard {h : Nat} {x : Str} {gn : Rho → R (List Nw)} {Fs : List D → Option D} {gd : GE} {js : List Nat} {k : GS} {E0 : XK} (hn : DNL K tas gn) (hd : DE K td gd) (hr : DS K Wx rest k) :
    DS K Wx (tSeq (tAsg (tLst tas) (gName h)) (tSeq (tIfS (tNot (tB (tCall (spP K 2 Fs) [] E0 (tCons (tVar h) (tCons td tNil))))) (tRet (tC (.bl false))) tNext) (tApps K h x rest js))) (sHeard h gn Fs gd js k) := fun b0 B Z0 Z H σ ρ E ok s => by
  unfold sHeard at s
  obtain ⟨ns, ρ1, e1, s⟩ := Sat.to s
  refine hn b0 B B Z0 Z H σ ρ ns ρ1 _ (Same.refl B) ok e1 fun vs H1 Z1 Bf1 sb1 ok1 s1 nw => ?_
  split at s
  · rename_i hsz
    obtain ⟨hsz, hh⟩ := hsz
    refine ⟨by rw [nw.len]; exact hsz, fun a hp => ?_⟩
    obtain ⟨okf, zf, bf, af⟩ := ok1.fresh (o := .lst vs) hp
    have sn : Same Bf1 (upd Bf1 a (.lst vs)) := fun c y ec => by rw [upd_ne (ne_of_none ec bf)]; exact ec
    have ok2 := (okf.frame zf af upd_same).putAny (i := h) (x := some (.ref a))
    have hσ : (σ.set h (some (.ref a)))[h]? = some (some (.ref a)) := List.getElem?_set_self (by rw [ok1.len]; exact hh)
    obtain ⟨due, ρ2, e2, s⟩ := Sat.to s
    refine ⟨.ref a, hσ, ?_⟩
    refine hd b0 _ Z0 Z1 _ _ _ due ρ2 _ ok2 e2 fun vd H3 Z3 ok3 s3 r3 => ?_
    have nw3 := nw.mono s3 sn
    have ha3 : H3 a = some (.lst vs) := ok3.bh _ _ upd_same
    have rpA : RpA K H3 [.ref a, vd] [.list (ns.map Nw.dat), due] := .cons (.lst ha3 (nw3.rp ok3.zh ok3.bh)) (.cons (r3.mono ok3.zh) .nil)
    have fin : ∀ (b : Bool), Fs [.list (ns.map Nw.dat), due] = some (.bool b) → (∀ H4, Same H3 H4 → (tIfS (fun _ H Q => Q (!b) H) (tRet (tC (.bl false))) tNext) { E with nx := tApps K h x rest js E } (σ.set h (some (.ref a))) H4) →
        spP K 2 Fs [.ref a, vd] H3 (fun y H1 => ∃ c, y = V.bl c ∧ (if (!c) = true then tRet (tC (.bl false)) { E with nx := tApps K h x rest js E } (σ.set h (some (.ref a))) H1 else tNext { E with nx := tApps K h x rest js E } (σ.set h (some (.ref a))) H1)) E0 := by
      intro b eb hc
      refine ⟨rfl, H3, _, _, Same.refl H3, rpA, eb, fun v H' Z' hs g r => ?_⟩
      cases r
      exact ⟨b, rfl, hc H' hs⟩
    split at s
    · rename_i eF
      split at s
      · rename_i hjs
        refine fin true eF fun H4 hs => ?_
        have ok4 := ok3.later hs
        have ok5 := ok4.forget (i := h)
        refine apps_run (B := B) (vs := vs) hσ (fun Bf' H' sb' ok' => hr b0 B Z0 Z3 H' _ _ E (ok'.shrink sb') s) js (sb1.trans sn) ok5 upd_same fun j hj => ?_
        have hf := List.all_eq_true.mp hjs j hj
        unfold isF at hf
        split at hf
        · rename_i ds ej
          obtain ⟨q, ws, f1, f2, f3, f4, f5⟩ := nw.get ej
          have nq : q ≠ a := ne_of_none f2 bf
          exact ⟨q, ws, f1, nq, by rw [upd_ne nq]; exact f2, f3, f4, by rw [f5]; exact of_decide_eq_true hf⟩
        · cases hf
      · exact s.elim
    · rename_i eF
      refine fin false eF fun H4 hs => ?_
      exact s (.bl false) _ H4 Z3 ((ok3.later hs).forget.shrink (sb1.trans sn)) (.bl false)
    · exact s.elim
  · exact s.elim
end
end DL

namespace DL
open PySem L2
section
variable {K : PySem.W.Frag} {Wx : WX} {ta tb te td : TE} {tt tu : TT} {tas : TA} {t u rest tail : TS} {b0 : Option Addr} {B Bf Z0 Z H : Hp} {σ : L2.St} {ρ : Rho} {p : Addr} {o o' : HO}
/-- what follows the comparison: it changes the framed lists at js, then the rest runs -/
def HTail (K : PySem.W.Frag) (h : Nat) (js : List Nat) (m : Rho → Option Rho) (tail rest : TS) : Prop := ∀ (b0 : Option Addr) (B Bf Z0 Z H : Hp) (σ : L2.St) (ρ ρ' : Rho) (E : Ends) (a : Addr) (vs : List V), σ[h]? = some (some (.ref a)) → m ρ = some ρ' →
  (∀ Bf H σ', Same B Bf → Ok K b0 Bf Z0 Z H σ' ρ' → rest E σ' H) → Same B Bf → Ok K b0 Bf Z0 Z H σ ρ → Bf a = some (.lst vs) → js.length ≤ sizeLine →
  (∀ j ∈ js, ∃ q ws, vs[j]? = some (.ref q) ∧ q ≠ a ∧ Bf q = some (.lst ws) ∧ B q = none ∧ Z0 q = none ∧ ws.length + js.length ≤ sizeLine) → tail E σ H
theorem ht_apps {h : Nat} {x : Str} {js : List Nat} : HTail K h js some (tApps K h x rest js) rest := fun b0 B Bf Z0 Z H σ ρ ρ' E a vs hσ em hr sb ok ha hl hj => by
  cases em
  exact apps_run hσ (fun Bf H s o => hr Bf H σ s o) js sb ok ha hj
def tIxs (K : PySem.W.Frag) (h : Nat) : List Nat → TA
  | [] => tNil
  | j :: js => tCons (tOp (rIx K) (tVar h) (tC (.int (j : Int)))) (tIxs K h js)
theorem ixs_run {h : Nat} {a : Addr} {vs : List V} (hσ : σ[h]? = some (some (.ref a))) (ha : H a = some (.lst vs)) : ∀ (js : List Nat) (Q : List V → Hp → Prop), (∀ j ∈ js, ∃ v, vs[j]? = some v) → (∀ xs, xs.length = js.length → (∀ (k j : Nat), js[k]? = some j → xs[k]? = vs[j]?) → Q xs H) → tIxs K h js σ H Q
  | [], Q, _, q => q [] rfl fun k j e => by simp at e
  | j :: js, Q, hj, q => by
    obtain ⟨v, hv⟩ := hj j List.mem_cons_self
    refine ⟨.ref a, hσ, .inl ⟨a, vs, (j : Int), v, rfl, rfl, .inl (.inl ha), atI_nat hv, ?_⟩⟩
    refine ixs_run hσ ha js _ (fun j' h' => hj j' (List.mem_cons_of_mem _ h')) fun xs hl hk => q (v :: xs) (by rw [List.length_cons, List.length_cons, hl]) fun k j' e => ?_
    cases k with
    | zero => simp at e; subst e; simpa using hv.symm
    | succ k => simp at e; simpa using hk k j' e
/-- for x in (h[j], ..): x.append(s) -/
abbrev tAppLoop (K : PySem.W.Frag) (h i : Nat) (x : Str) (js : List Nat) (rest : TS) : TS := tSeq (tFor (iSeqU K (tTup (tIxs K h js))) (gName i) (tDrop (tBM K "list" rAppend (tVar i) (tCons (tC (.str x)) tNil)))) rest
def mSet (i : Nat) (ρ : Rho) : Option Rho := if i < ρ.length then some (ρ.set i .no) else none
theorem ht_loop {h i : Nat} {x : Str} {js : List Nat} : HTail K h js (mSet i) (tAppLoop K h i x js rest) rest := fun b0 B Bf Z0 Z H σ ρ ρ' E a vs hσ em hr sb ok ha hl hj => by
  unfold mSet at em
  split at em
  case isFalse => cases em
  rename_i hi
  cases em
  have hH : H a = some (.lst vs) := ok.bh _ _ ha
  refine .inr (ixs_run hσ hH js _ (fun j h' => ?_) fun xs hxl hxs => ⟨by rw [hxl]; exact hl, fun p hp => ⟨p, rfl, ⟨xs, .inl (.inl upd_same)⟩, ?_⟩⟩)
  · obtain ⟨q, ws, e, _⟩ := hj j h'
    exact ⟨_, e⟩
  obtain ⟨okf, zf, bf, af⟩ := ok.fresh (o := .tup xs) hp
  have sn : Same Bf (upd Bf p (.tup xs)) := fun c y ec => by rw [upd_ne (ne_of_none ec bf)]; exact ec
  have ok2 := (okf.frame zf af upd_same).forget (i := i)
  have W : Walk (Itt K p) js.length (fun H => H p = some (.tup xs)) (YAt xs) := by
    refine ⟨fun k H hk e => ⟨xs, xs[k]'(by rw [hxl]; exact hk), .inl (.inl e), List.getElem?_eq_getElem _⟩, fun H e => ⟨xs, .inl (.inl e), by rw [hxl]; exact Nat.le_refl _⟩, fun k H v H' hk e y => ?_⟩
    obtain ⟨rfl, y⟩ := y
    exact ⟨rfl, y xs (.inl (.inl e))⟩
  refine for_it W (fun k σ' H' => ∃ Bf', Same B Bf' ∧ Bf' p = some (.tup xs) ∧ Ok K b0 Bf' Z0 Z H' σ' (ρ.set i .no) ∧ ∀ m j, k ≤ m → js[m]? = some j → ∃ q ws, xs[m]? = some (.ref q) ∧ q ≠ p ∧ Bf' q = some (.lst ws) ∧ B q = none ∧ Z0 q = none ∧ ws.length + (js.length - k) ≤ sizeLine)
    ⟨_, sb.trans sn, upd_same, ok2, fun m j _ ej => ?_⟩ (fun k σ' H' _ ⟨Bf', _, e, o, _⟩ => o.bh _ _ e) (fun k v σ' H' H'' hk ⟨Bf', sb', ep, o, hq⟩ y => ?_) (fun σ' H' ⟨Bf', sb', ep, o, _⟩ => hr Bf' H' σ' sb' o)
  · obtain ⟨q, ws, e1, e2, e3, e4, e5, e6⟩ := hj j (List.mem_of_getElem? ej)
    have nq : q ≠ p := ne_of_none e3 bf
    exact ⟨q, ws, by rw [hxs m j ej]; exact e1, nq, by rw [upd_ne nq]; exact e3, e4, e5, by omega⟩
  · obtain ⟨rfl, y⟩ := y
    obtain ⟨q, ws, f1, f2, f3, f4, f5, f6⟩ := hq k (js[k]'hk) (Nat.le_refl _) (List.getElem?_eq_getElem hk)
    rw [y] at f1
    cases f1
    have hq2 : H'' q = some (.lst ws) := o.bh _ _ f3
    have hs : (σ'.set i (some (.ref q)))[i]? = some (some (.ref q)) := List.getElem?_set_self (by rw [o.len, List.length_set]; exact hi)
    refine ⟨.ref q, hs, .inl ⟨rfl, ws, .inl (.inl hq2)⟩, q, ws, .str x, rfl, rfl, hq2, by omega, ?_⟩
    have sn' : Same B (upd Bf' q (.lst (ws ++ [.str x]))) := fun c y ec => by rw [upd_ne (ne_of_none ec f4)]; exact sb' c y ec
    have o3 := (o.reB (o' := .lst (ws ++ [.str x])) f3 f5).putAny (i := i) (x := some (.ref q))
    rw [List.set_set] at o3
    refine ⟨_, sn', by rw [upd_ne (Ne.symm f2)]; exact ep, o3, fun m j hm ej => ?_⟩
    obtain ⟨q', ws', g1, g2, g3, g4, g5, g6⟩ := hq m j (by omega) ej
    by_cases hqq : q' = q
    · subst hqq
      refine ⟨q', ws ++ [.str x], g1, g2, upd_same, f4, f5, ?_⟩
      rw [List.length_append, List.length_singleton]
      omega
    · exact ⟨q', ws', g1, g2, by rw [upd_ne hqq]; exact g3, g4, g5, by omega⟩
/-- h = [..]; if not same(h, due): return False; the tail -/
def sHeardT (h : Nat) (gn : Rho → R (List Nw)) (Fs : List D → Option D) (gd : GE) (js : List Nat) (m : Rho → Option Rho) (rest : GS) (ρ : Rho) : O := (gn ρ).to fun ns ρ1 => if ns.length ≤ sizeLine ∧ h < ρ1.length ∧ js.length ≤ sizeLine then (gd (ρ1.set h .no)).to fun due ρ2 => match Fs [.list (ns.map Nw.dat), due] with
    | some (.bool true) => if js.all (fun j => isF js.length ns[j]?) then (match m (ρ2.set h .no) with | some ρ3 => rest ρ3 | none => .bad) else .bad
    | some (.bool false) => .rt (.bool false) (ρ2.set h .no)
    | _ => .bad
  else .bad
theorem ds_heardT {h : Nat} {gn : Rho → R (List Nw)} {Fs : List D → Option D} {gd : GE} {js : List Nat} {m : Rho → Option Rho} {k : GS} {E0 : XK} (hn : DNL K tas gn) (hd : DE K td gd) (ht : HTail K h js m tail rest) (hr : DS K Wx rest k) :
    DS K Wx (tSeq (tAsg (tLst tas) (gName h)) (tSeq (tIfS (tNot (tB (tCall (spP K 2 Fs) [] E0 (tCons (tVar h) (tCons td tNil))))) (tRet (tC (.bl false))) tNext) tail)) (sHeardT h gn Fs gd js m k) := fun b0 B Z0 Z H σ ρ E ok s => by
  unfold sHeardT at s
  obtain ⟨ns, ρ1, e1, s⟩ := Sat.to s
  refine hn b0 B B Z0 Z H σ ρ ns ρ1 _ (Same.refl B) ok e1 fun vs H1 Z1 Bf1 sb1 ok1 s1 nw => ?_
  split at s
  · rename_i hsz
    obtain ⟨hsz, hh, hlj⟩ := hsz
    refine ⟨by rw [nw.len]; exact hsz, fun a hp => ?_⟩
    obtain ⟨okf, zf, bf, af⟩ := ok1.fresh (o := .lst vs) hp
    have sn : Same Bf1 (upd Bf1 a (.lst vs)) := fun c y ec => by rw [upd_ne (ne_of_none ec bf)]; exact ec
    have ok2 := (okf.frame zf af upd_same).putAny (i := h) (x := some (.ref a))
    have hσ : (σ.set h (some (.ref a)))[h]? = some (some (.ref a)) := List.getElem?_set_self (by rw [ok1.len]; exact hh)
    obtain ⟨due, ρ2, e2, s⟩ := Sat.to s
    refine ⟨.ref a, hσ, ?_⟩
    refine hd b0 _ Z0 Z1 _ _ _ due ρ2 _ ok2 e2 fun vd H3 Z3 ok3 s3 r3 => ?_
    have nw3 := nw.mono s3 sn
    have ha3 : H3 a = some (.lst vs) := ok3.bh _ _ upd_same
    have rpA : RpA K H3 [.ref a, vd] [.list (ns.map Nw.dat), due] := .cons (.lst ha3 (nw3.rp ok3.zh ok3.bh)) (.cons (r3.mono ok3.zh) .nil)
    have fin : ∀ (b : Bool), Fs [.list (ns.map Nw.dat), due] = some (.bool b) → (∀ H4, Same H3 H4 → (tIfS (fun _ H Q => Q (!b) H) (tRet (tC (.bl false))) tNext) { E with nx := tail E } (σ.set h (some (.ref a))) H4) →
        spP K 2 Fs [.ref a, vd] H3 (fun y H1 => ∃ c, y = V.bl c ∧ (if (!c) = true then tRet (tC (.bl false)) { E with nx := tail E } (σ.set h (some (.ref a))) H1 else tNext { E with nx := tail E } (σ.set h (some (.ref a))) H1)) E0 := by
      intro b eb hc
      refine ⟨rfl, H3, _, _, Same.refl H3, rpA, eb, fun v H' Z' hs g r => ?_⟩
      cases r
      exact ⟨b, rfl, hc H' hs⟩
    split at s
    · rename_i eF
      split at s
      · rename_i hjs
        split at s
        · rename_i ρ3 em
          refine fin true eF fun H4 hs => ?_
          have ok5 := (ok3.later hs).forget (i := h)
          refine ht b0 B _ Z0 Z3 H4 _ _ ρ3 E a vs hσ em (fun Bf' H' σ' sb' ok' => hr b0 B Z0 Z3 H' _ _ E (ok'.shrink sb') s) (sb1.trans sn) ok5 upd_same hlj fun j hj => ?_
          have hf := List.all_eq_true.mp hjs j hj
          unfold isF at hf
          split at hf
          · rename_i ds ej
            obtain ⟨q, ws, f1, f2, f3, f4, f5⟩ := nw.get ej
            have nq : q ≠ a := ne_of_none f2 bf
            exact ⟨q, ws, f1, nq, by rw [upd_ne nq]; exact f2, f3, f4, by rw [f5]; exact of_decide_eq_true hf⟩
          · cases hf
        · exact s.elim
      · exact s.elim
    · rename_i eF
      refine fin false eF fun H4 hs => ?_
      exact s (.bl false) _ H4 Z3 ((ok3.later hs).forget.shrink (sb1.trans sn)) (.bl false)
    · exact s.elim
  · exact s.elim
end
end DL

namespace DL
open PySem L2
section
variable {K : PySem.W.Frag} {Wx : WX} {ta tb tc te td : TE} {tas : TA}
def idL {α : Type} (x : List α) : List α := x
theorem kw_idL {A C : Type} {rel : A → C → Prop} {zs : List A} {ws : List C} (h : Paired rel zs ws) : Paired rel (idL zs) (idL ws) := h
def sPar3 (i j l : Nat) (a b c : Rho → R Nw) (ρ : Rho) : O := (a ρ).to fun x ρ1 => (b ρ1).to fun y ρ2 => (c ρ2).to fun z ρ3 => .nx (((ρ3.set i x.sl).set j y.sl).set l z.sl)
theorem ds_par3s {i j l : Nat} {a b c : GE} (ha : DE K ta a) (hb : DE K tb b) (hc : DE K tc c) : DS K Wx (tPar3 i j l (tCons ta (tCons tb (tCons tc tNil)))) (sPar3 i j l (nS a) (nS b) (nS c)) := fun b0 B Z0 Z H σ ρ E ok s => by
  obtain ⟨x, ρ1, e1, s⟩ := Sat.to s
  obtain ⟨y, ρ2, e2, s⟩ := Sat.to s
  obtain ⟨z, ρ3, e3, s⟩ := Sat.to s
  obtain ⟨dx, f1, rfl⟩ := R.map_ok e1
  obtain ⟨dy, f2, rfl⟩ := R.map_ok e2
  obtain ⟨dz, f3, rfl⟩ := R.map_ok e3
  refine ha b0 B Z0 Z H σ ρ dx ρ1 _ ok f1 fun v H1 Z1 ok1 s1 r1 => ?_
  refine hb b0 B Z0 Z1 H1 σ ρ1 dy ρ2 _ ok1 f2 fun w H2 Z2 ok2 s2 r2 => ?_
  refine hc b0 B Z0 Z2 H2 σ ρ2 dz ρ3 _ ok2 f3 fun u H3 Z3 ok3 s3 r3 => ?_
  exact ⟨v, w, u, rfl, s _ H3 Z3 (((ok3.put (r1.mono (s2.trans s3))).put (r2.mono s3)).put r3)⟩
end
theorem join_le : ∀ (ts : List Str) (L : Nat), (∀ t ∈ ts, t.length ≤ L) → (Str.join ", " ts).length ≤ ts.length * (L + 2)
  | [], L, _ => by show (Str.ofString "").length ≤ _; exact Nat.le_trans (by decide : _ ≤ 0) (Nat.zero_le _)
  | [x], L, h => by
    have := h x List.mem_cons_self
    show x.length ≤ 1 * (L + 2)
    omega
  | x :: y :: r, L, h => by
    have ih := join_le (y :: r) L fun t ht => h t (List.mem_cons_of_mem _ ht)
    have := h x List.mem_cons_self
    show (x ++ ", " ++ Str.join ", " (y :: r)).length ≤ _
    have e2 : ((", " : String) : Str).length = 2 := rfl
    rw [Str.length_append, Str.length_append, e2, List.length_cons, Nat.succ_mul]
    omega
theorem shw_tuple {xs : List D} {h L : Nat} (hx : ∀ x ∈ xs, Shw h L x) : Shw (h + 1) (3 + xs.length * (L + 2)) (.tuple xs) := by
  obtain ⟨a, b, c, d, e⟩ := shownAll_le hx
  refine ⟨by simpa [PyData.showable] using c, by simpa [PyData.hasDict] using d, by simp only [PyData.depth]; omega, ?_⟩
  simp only [PyData.shown, tupleText]
  have := join_le (PyData.shownAll xs) L a
  rw [Str.length_append, Str.length_append]
  rw [b] at this
  have h1 : (Str.ofString "(").length = 1 := by decide
  have h2 : (Str.ofString (if (PyData.shownAll xs).length == 1 then ",)" else ")")).length ≤ 2 := by split <;> decide
  omega
end DL

namespace DL
open PySem L2
section
variable {K : PySem.W.Frag} {Wx : WX} {te : TE}
theorem RpA.snoc {Z : Hp} {v : V} {d : D} (r : Rp K Z v d) : ∀ {vs : List V} {ds : List D}, RpA K Z vs ds → RpA K Z (vs ++ [v]) (ds ++ [d])
  | _, _, .nil => .cons r .nil
  | _, _, .cons h t => .cons h (RpA.snoc r t)
theorem RpA.rev {Z : Hp} : ∀ {vs : List V} {ds : List D}, RpA K Z vs ds → RpA K Z vs.reverse ds.reverse
  | _, _, .nil => .nil
  | _, _, .cons h t => by rw [List.reverse_cons, List.reverse_cons]; exact RpA.snoc h (RpA.rev t)
/-- xs[::-1] of a list (or of the script) -/
def revL : D → Option (List D)
  | .list xs => some xs.reverse
  | .dict [(.list xs, .none)] => some xs.reverse
  | _ => none
def eRevL (g : GE) (ρ : Rho) : R (List D) := (g ρ).bind fun d ρ1 => R.lift (revL d) ρ1
theorem df_revL {g : GE} (h : DE K te g) : DF K (tRevL K te) (eRevL g) := fun b0 B Z0 Z H σ ρ ds ρ' Q ok e q => by
  obtain ⟨d, ρ1, e1, e⟩ := R.bind_ok e
  obtain ⟨e2, rfl⟩ := R.lift_ok e
  refine h b0 B Z0 Z H σ ρ d _ _ ok e1 fun v H1 Z1 ok1 s1 r1 => ?_
  unfold revL at e2
  split at e2
  · cases e2
    cases r1 with
    | lst hs ra =>
      refine ⟨_, _, rfl, .inl (.inl (ok1.zh _ _ hs)), fun p hp => ?_⟩
      obtain ⟨okf, zf, bf, af⟩ := ok1.fresh (o := .lst _) hp
      exact q p _ _ Z1 okf s1 zf bf af upd_same ra.rev
  · cases e2
    cases r1 with
    | scr hs ra =>
      refine ⟨_, _, rfl, same_l ok1.zh hs, fun p hp => ?_⟩
      obtain ⟨okf, zf, bf, af⟩ := ok1.fresh (o := .lst _) hp
      exact q p _ _ Z1 okf s1 zf bf af upd_same ra.rev
  · cases e2
end
end DL

/-! DLt: own exception classes straight over a built-in one, whose __init__ calls the base's and stores one field. -/
namespace DLX
open PySem PySem.W PySem.Calls PyProof.Rows PySem.HandSPX
open Builtin Builtin.ObjectAttr
/-- the built-in class B: what is asked of it -/
structure Bs (B nw ini : String) (tl : List Value) : Prop where
  f : ExcBaseFacts B nw ini tl
  s : StoreFacts B tl "object.__setattr__" "object"
  ty : typeOf (.type B) = pure (.type "type")
  ob : tl.contains (.type "object") = true
  st : Manifest.isStub B = false
  hi : PySem.W.handedIn (.builtin ini) = true
theorem bs_V : Bs "ValueError" "ValueError.__new__" "ValueError.__init__" [.type "ValueError", .type "Exception", .type "BaseException", .type "object"] := ⟨F.excBase_ValueError, F.store_ValueError, by kernel_rfl, by decide +kernel, by decide +kernel, by decide +kernel⟩
theorem bs_L : Bs "LookupError" "LookupError.__new__" "LookupError.__init__" [.type "LookupError", .type "Exception", .type "BaseException", .type "object"] := ⟨F.excBase_LookupError, F.store_LookupError, by kernel_rfl, by decide +kernel, by decide +kernel, by decide +kernel⟩
theorem bs_R : Bs "RuntimeError" "RuntimeError.__new__" "RuntimeError.__init__" [.type "RuntimeError", .type "Exception", .type "BaseException", .type "object"] := ⟨F.excBase_RuntimeError, F.store_RuntimeError, by kernel_rfl, by decide +kernel, by decide +kernel, by decide +kernel⟩
theorem bs_O : Bs "OverflowError" "OverflowError.__new__" "OverflowError.__init__" [.type "OverflowError", .type "ArithmeticError", .type "Exception", .type "BaseException", .type "object"] := ⟨F.excBase_OverflowError, F.store_OverflowError, by kernel_rfl, by decide +kernel, by decide +kernel, by decide +kernel⟩
section
variable {prog : Program} {w : World} {A : Around} {R : Result → Shared → Prop} {hp : Heap} {g : Array GenState} {d : Drawn} {t : Nat} {os : OsState} {B nw ini : String} {tl : List Value}
/-- the first field of an exception of an own class -/
theorem osa1 {K : W.Frag} {f : Str} {tk : Tok} {v : Value} {x C : Addr} {fv : Array Value} {cd : ClassData} (bs : Bs B nw ini tl) (KX : K.In hp) (hx : hp.get? x = some { cls := .ref C, data := .fields fv }) (hcd : W.clsIn K C = some cd) (hm : cd.mro = .ref C :: tl) (hh : cd.hasDict = true) (ha : W.findIn K (.ref C) f = some none)
    (hq : ∀ h' tk' dx, (∀ b o, b ≠ x → hp.get? b = some o → h'.get? b = some o) → hp.objs.size ≤ dx → dx ≠ x → h'.get? x = some { cls := .ref C, dict := some dx, data := .fields fv } → h'.Ns1 dx (fun y => if y = f then some v else none) → R (.ok (.ret .none)) ⟨h', g, d, tk', os⟩) :
    codeAny (model prog w) A (.call (.builtin "object.__setattr__") ⟨[.ref x, .str f tk, v], []⟩) R ⟨hp, g, d, t, os⟩ := by
  have J : W.InstAt hp x { cls := .ref C, data := .fields fv } C none := ⟨hx, rfl, rfl, trivial⟩
  have ne : cd.mro.isEmpty = false := by rw [hm]; rfl
  have hob : cd.mro.contains (.type "object") = true := by rw [hm, List.contains_cons, bs.ob, Bool.or_true]
  have hps : refuseLoop (.ref x) "__setattr__" cd.mro = pure () := by rw [hm, refuseLoop_ref]; exact bs.s.passes _
  have xlt : x ≠ hp.objs.size := Nat.ne_of_lt (Heap.lt_size hx)
  have sub : W.Looks (model prog w) hp (isInstance (.ref x) (.type "object")) true := J.type.andThen (W.looks_mroIn KX (by unfold W.mroIn; rw [hcd, Option.bind_some, if_neg (by rw [ne]; decide), hob]))
  have S0 := F.store_object
  refine codeAny_call_builtin S0.slot.plain S0.entry (@W.check_slot (model prog w) _ _ ⟨hp, g, d, t, os⟩ "object.__setattr__" "object" "__setattr__" (.ref x) [.str f tk, v] [] _ S0.kind S0.split sub (S0.args (.ref x) (.str f tk) v) ?_)
  have mr : W.Looks (model prog w) hp (mroOf (.ref C)) cd.mro := (W.looks_clsIn KX hcd).andThen .now
  have nt : W.Looks (model prog w) hp (storeTaker? none) none := .now
  have cl : W.Looks (model prog w) hp (classData C) cd := W.looks_clsIn KX hcd
  rw [W.osa_eq, refuse_eq]
  refine wpAny_bind (wpAny_bind (J.type.at (wpAny_bind (mr.at ?_))))
  rw [hps]
  refine wpAny_pure (wpAny_bind (J.type.at (wpAny_bind ((W.looks_findIn KX ha).at (wpAny_bind (nt.at ?_))))))
  show wpAny _ _ (storeInOwnDict (.ref x) (.ref C) (.str f tk) f v false) _ _ _
  obtain ⟨nm, bs', mro, ns, qn, hd, sn, sb, ab, col, del⟩ := cd
  dsimp only at hh
  subst hh
  unfold storeInOwnDict ownDictForStores
  repeat (first | with_reducible refine store_in_new ?_ ?_ | with_reducible refine wpAny_loadPart_at hx ?_ | with_reducible refine cl.at ?_ | wp_step)
  · exact ⟨_, #[], _, (Heap.get?_update_ne _ _ _ _ xlt.symm).trans (Heap.get?_push_at rfl rfl), rfl, fun e he => absurd he (by simp), fun _ => rfl⟩
  · intro h' tk' hn' hs
    have hx1 : (hp.push { cls := .type "dict", data := .dict #[] }).get? x = some { cls := .ref C, data := .fields fv } := Heap.get?_push_of_some _ hx
    exact hq h' tk' hp.objs.size (fun b o hb ho => (hs.2 b (Nat.ne_of_lt (Heap.lt_size ho))).trans ((Heap.get?_update_ne _ _ _ _ hb).trans (Heap.get?_push_of_some _ ho))) (Nat.le_refl _) xlt.symm ((hs.2 x xlt).trans (Heap.get?_update_self _ hx1 rfl)) hn'
end
end DLX
namespace DL
open PySem PySem.Spec PyProof.Rows L2 DLX
/-- what the written part says of an own class C straight over a built-in one -/
structure OxC (K : PySem.W.Frag) (nw : String) (tl : List Value) (C : Addr) : Prop where
  cls : ∃ nm q N bs sn sub ab col dd k0 k1 k2 k3 k5, K.lookup C = some (excClassObj nm q C N bs tl true sn sub ab col dd k0 k1 k2 k3 k5 nw)
  sa : PySem.W.findIn K (.ref C) "__setattr__" = some (some (.builtin "object.__setattr__"))
  ex : PySem.W.subIn K (.ref C) (.type "BaseException") = some true
  ty : PySem.W.typeIn K (.ref C) = some (.type "type")
  kp : PySem.W.keepIn K (.ref C) = true
section
variable {X : Cx} {pins : List (Addr × Obj)} {σ : L2.St} {H : Hp} {s : Shared} {a C dx : Addr} {f : Str} {y : V} {u : Value} {E : Value → Shared → Prop} {A : Around} {B nw ini : String} {tl : List Value}
theorem ox_store {Q : Unit → Shared → Prop} (bs : Bs B nw ini tl) (T : OxC X.K nw tl C) (I : Inv X pins σ H s) (e : H a = some (exo a C none)) (hno : PySem.W.findIn X.K (.ref C) f = some none) (ry : RelV y u)
    (h : ∀ dx s', H dx = none → dx ≠ a → Inv X pins σ (upd (upd H dx (exd dx [(f, y)])) a (exo a C (some dx))) s' → Q () s') : wpAny (model X.prog X.w) A (setAttr (.ref a) f u) Q E s := by
  obtain ⟨nm, q, N, bss, sn, sub, ab, col, dd, k0, k1, k2, k3, k5, hC⟩ := T.cls
  have hcl : PySem.W.clsIn X.K C = some { name := nm, bases := bss, mro := .ref C :: tl, ns := N, qualname := q, hasDict := true, slotNames := sn, subclasses := sub, abstract := ab, collection := col, hasDel := false } := by
    unfold PySem.W.clsIn
    rw [hC] <;> rfl
  obtain ⟨t1, ho⟩ := exo_at I.hok e
  obtain ⟨hp, g, d, t, os⟩ := s
  refine PySem.W.set_plain I.kIn (ox := { cls := .ref C, dict := none, data := .fields #[.ref t1, .none, .none, .none, .bool false, .none] }) (od := none) ⟨ho, rfl, rfl, trivial⟩ T.sa (osa1 bs I.kIn ho hcl rfl rfl hno fun h' tk' dx k dn dne hx hn => ?_)
  have fd : H dx = none := I.hok.fresh dn
  have nd : ∀ {b : Addr} {o : Obj}, hp.get? b = some o → b ≠ dx := fun q => Nat.ne_of_lt (Nat.lt_of_lt_of_le (Heap.lt_size q) dn)
  have na : ∀ {b : Addr}, H b = none → b ≠ a := fun n z => by rw [z, e] at n; cases n
  have U : Un X.fs [] H (upd (upd H dx (exd dx [(f, y)])) a (exo a C (some dx))) hp h' := by
    constructor
    · exact fun b o q n _ _ => k b o (na n) q
    · exact fun b o q n _ _ => ⟨o.slots, k b o (na n) q⟩
    · intro b o q n _
      rw [upd_ne (na n), upd_ne (nd q)]; exact n
    · intro b o q _
      by_cases hb : b = a
      · exact ⟨_, hb ▸ hx⟩
      · exact ⟨o, k b o hb q⟩
    · intro b xs q
      rw [upd_ne (at_ne e q exo_tup), upd_ne (ne_of_none q fd)]; exact q
    · intro b o v q
      rw [upd_ne (at_ne e q exo_frz), upd_ne (ne_of_none q fd)]; exact q
    · intro b ps q
      exact ⟨#[], by rw [upd_ne (at_ne e q exo_tbl), upd_ne (ne_of_none q fd), q]; simp⟩
  refine h dx _ fd dne (I.un (t' := tk') U fun b o q => ?_)
  by_cases hb : b = a
  · subst hb
    rw [upd_same] at q; cases q; exact exo_ok hx
  · rw [upd_ne hb] at q
    by_cases hd : b = dx
    · subst hd
      rw [upd_same] at q; cases q
      exact exd_ok hn (relO_put (fs := []) ry fun g => True.intro)
    · rw [upd_ne hd] at q
      refine (I.hok b o q).stay (fun c v hc z => k c v (hc.elim (fun hc => hc ▸ hb) fun hc => at_ne e hc exo_own) z) (fun c hc => ?_) fun c xs hc => ?_
      · rw [upd_ne (at_ne e hc exo_own), upd_ne (ne_of_none hc fd)]; exact hc
      · rw [upd_ne (at_ne e hc exo_tup), upd_ne (ne_of_none hc fd)]; exact hc
theorem ox_init {us : List Value} {Q : Value → Shared → Prop} (bs : Bs B nw ini tl) (T : OxC X.K nw tl C) (I : Inv X pins σ H s) (e : H a = some (exo a C none)) (hl : us.length ≤ sizeLine) (h : ∀ s', Inv X pins σ H s' → Q .none s') :
    wpAny (model X.prog X.w) A (call (.builtin ini) (.ref a :: us)) Q E s := by
  obtain ⟨nm, q, N, bss, sn, sub, ab, col, dd, k0, k1, k2, k3, k5, hC⟩ := T.cls
  obtain ⟨t1, ho⟩ := exo_at I.hok e
  obtain ⟨hp, g, d, t, os⟩ := s
  refine wpAny_call (PySem.HandSPX.init_base bs.f (fun Y => rfl) (I.kIn _ _ hC) ho hl fun h' t2 k hx => ?_)
  have J := I.write (t' := t) (x := a) (e := a) (o := exo a C none) (by rw [e]; exact True.intro) (.inl rfl) k ⟨_, hx⟩ (exo_ok hx)
  have eu : upd H a (exo a C none) = H := funext fun b => by
    by_cases hb : b = a
    · rw [hb, upd_same, e]
    · rw [upd_ne hb]
  exact h _ (eu ▸ J)
end
/-! ### readings -/
/-- B.__init__(self, x) -/
def tBIni (K : PySem.W.Frag) (nw : String) (tl : List Value) (ta : TA) : TE := fun σ H Q => ta σ H fun vs H1 => ∃ (a C : Addr) (ws : List V), vs = .ref a :: ws ∧ ws.length ≤ 1000 ∧ OxC K nw tl C ∧ H1 a = some (exo a C none) ∧ Q .non H1
/-- self.f = x -/
def tFld (K : PySem.W.Frag) (nw : String) (tl : List Value) (f : Str) (to te : TE) : TS := fun D σ H => te σ H fun y H1 => to σ H1 fun x H2 => ∃ a C : Addr, x = .ref a ∧ OxC K nw tl C ∧ PySem.W.findIn K (.ref C) f = some none ∧
  H2 a = some (exo a C none) ∧ ∀ dx, H2 dx = none → dx ≠ a → D.nx σ (upd (upd H2 dx (exd dx [(f, y)])) a (exo a C (some dx)))
section
variable {X : Cx} {o e : Expr} {es : List Expr} {to te : TE} {ta : TA} {f : Str} {p p' p1 p2 pos : Pos} {B nw ini : String} {tl : List Value}
theorem pe_bini {pl : Sem Bool} {BS : Str} (bs : Bs B nw ini tl) (hg : Gl X BS) (hm : X.mg BS = none) (hbt : bootBuiltins BS = some (.type B)) (hnn : BS ≠ "__name__") (hdb : (BS == ("__debug__" : Str)) = false) (vV : PySem.W.findCls X.K (.type B) (.type "type") "__init__" = some (.val (.builtin ini)))
    (ha : PA X (e :: es) ta)
    (hc : eval (.Call (.Attribute (.Name BS p1) "__init__" p2) (e :: es) [] pos) X.env = (do
      let ov ← eval (.Name BS p1) X.env
      standAt p2.atName
      let (fv, first) ← holding [ov] (getMethod ov "__init__" pl)
      callWith pos fv first (backTo pos (starEach (e :: es) X.env)) (backToKw pos (keywordEach [] X.env))) := by rfl)
    (he : starEach (e :: es) X.env = (false, eval e X.env) :: starEach es X.env := by rfl) (hpl : (backTo pos (starEach es X.env)).any (·.1) = false := by rfl) :
    PE X (.Call (.Attribute (.Name BS p1) "__init__" p2) (e :: es) [] pos) (tBIni X.K nw tl ta) := by
  refine ⟨fun pins s σ H Q I h => ?_⟩
  refine PySem.W.methodCall_KW (ld_blt I hg hm hbt ?_ hnn hdb) hc
  obtain ⟨m, fr⟩ := I.fr
  refine PySem.W.method_type fr I.ok.mod.kin bs.ty bs.st vV bs.hi ?_
  show wpAny _ _ (callWith pos (Value.builtin ini) [] (backTo pos (starEach (e :: es) X.env)) []) _ _ _
  refine PyProof.Rows.callWith_method1 (thn (ha.run pos pins _ σ H _ (I.tok _) h) fun us s1 hh => ?_) he hpl
  obtain ⟨vs, H1, I1, r1, a, C, ws, rfl, hl, T, ea, q⟩ := hh
  cases r1 with
  | @cons _ u0 _ ur ra rw' =>
    obtain rfl : u0 = Value.ref a := ra
    exact ox_init bs T I1 ea (by rw [← Paired.length rw', sizeLine_eq]; omega) fun s' J => ⟨.non, H1, J, rfl, q⟩
theorem ps_fld (bs : Bs B nw ini tl) (ho : PE X o to) (he : PE X e te) (hs : swapsWith e (some (.Attribute o f p')) pos.line X.env = pure false := by rfl) : PS X (.Assign [.Attribute o f p'] e pos) (tFld X.K nw tl f to te) := by
  refine ⟨fun pins s σ H D I h => plainObj_wpAny_Assign_Attribute (thn (he.run pins s σ H _ I h) fun v s1 hh => ?_) hs⟩
  obtain ⟨y, H1, I1, r1, q1⟩ := hh
  refine thn (ho.run pins s1 σ H1 _ I1 q1) fun u s2 hh => ?_
  obtain ⟨x, H2, I2, r2, a, C, rfl, T, hno, ea, q⟩ := hh
  obtain rfl : u = Value.ref a := r2
  exact ox_store bs T I2 ea hno r1 fun dx s' n ne J => ⟨σ, _, J, q dx n ne⟩
end
/-- the promise of such an __init__ -/
def spIni (K : PySem.W.Frag) (nw : String) (tl : List Value) (f : Str) : Sp := fun vs H Q _ => ∃ (a C : Addr) (v : V), vs = [.ref a, v] ∧ OxC K nw tl C ∧ PySem.W.findIn K (.ref C) f = some none ∧ H a = some (exo a C none) ∧ ∀ dx, H dx = none → dx ≠ a → Q .non (upd (upd H dx (exd dx [(f, v)])) a (exo a C (some dx)))
theorem ini_run {K : PySem.W.Frag} {nw : String} {tl : List Value} {f : Str} {N : List Str} {vs : List V} {H : Hp} {Q : VK} {E : XK} (h : spIni K nw tl f vs H Q E) (hN : N.length = 2) :
    tSeq (tDrop (tBIni K nw tl (tCons (tVar 0) (tCons (tVar 1) tNil)))) (tFld K nw tl f (tVar 0) (tVar 1)) { nx := fun _ H' => Q .non H', rt := Q } (L2.start N vs) H := by
  obtain ⟨a, C, v, rfl, T, hno, ea, q⟩ := h
  have e0 : (L2.start N [.ref a, v])[0]? = some (some (.ref a)) := rfl
  have e1 : (L2.start N [.ref a, v])[1]? = some (some v) := rfl
  exact ⟨_, e0, _, e1, a, C, [v], rfl, (by decide : 1 ≤ 1000), T, ea, _, e1, _, e0, a, C, rfl, T, hno, ea, q⟩
end DL

/-! DLu: C(e) of such a class, raised or kept as a value. -/
namespace DL
open PySem PySem.Spec PyProof.Rows L2 DLX
theorem exk_ok {P : Program} {w : World} {H : Hp} {h : Heap} {a C d : Addr} {oe : Obj} {vs : Array Value} (e : h.get? a = some oe) (z : Zc (.ref C) (some d) oe) (hd : oe.data = .fields vs) : ObjOk P w H h a (exk a C d) :=
  ⟨⟨oe, vs, e, z, hd⟩, ⟨_, e⟩, fun h1 h2 ⟨o, vs, e1, z1, d1⟩ k => ⟨o, vs, k _ e1, z1, d1⟩⟩
theorem exk_at {P : Program} {w : World} {H : Hp} {h : Heap} {a C d : Addr} (hok : HOk P w H h) (he : H a = some (exk a C d)) : ∃ (oe : Obj) (vs : Array Value), h.get? a = some oe ∧ Zc (.ref C) (some d) oe ∧ oe.data = .fields vs := by
  have x : ObjOk P w H h a (.ext fun h => ∃ (oe : Obj) (vs : Array Value), h.get? a = some oe ∧ Zc (.ref C) (some d) oe ∧ oe.data = .fields vs) := hok a _ he
  exact x.1
/-- raise C(e): what is wished -/
def tMk1 (C : Addr) (f : Str) (ta : TA) : L2.St → Hp → XK → Prop := fun σ H Q => ta σ H fun vs H1 => ∃ v, vs = [v] ∧ ∀ d, H1 d = none → Q (.ref C) (some d) (upd H1 d (.xd [(f, v)]))
/-- C(e) as a value -/
def tMkV (C : Addr) (f : Str) (ta : TA) : TE := fun σ H Q => ta σ H fun vs H1 => ∃ v, vs = [v] ∧ ∀ a d, H1 a = none → H1 d = none → d ≠ a → Q (.ref a) (upd (upd H1 d (.xd [(f, v)])) a (exk a C d))
/-- all that is asked of a class with its __init__ -/
structure OxI (P : Program) (w : World) (K : PySem.W.Frag) (mg : Str → Option Value) (base : Heap) (nw : String) (tl : List Value) (C : Addr) (f : Str) : Prop where
  c : OxC K nw tl C
  no : PySem.W.findIn K (.ref C) f = some none
  i : ∃ (fI : Addr) (fd : FuncData), PySem.W.findIn K (.ref C) "__init__" = some (some (.ref fI)) ∧ PySem.W.typeIn K (.ref fI) = some (.type "function") ∧ FnOk P w K mg base CX0 1 fI fd ["self", f] (spIni K nw tl f) ∧ Binds K fd ["self", f] []
section
variable {X : Cx} {e : Expr} {ta : TA} {f x : Str} {p pos : Pos} {C : Addr} {B nw ini : String} {tl : List Value}
/-- the making of C(u): the walk that both rules share -/
theorem ox_call {pins : List (Addr × Obj)} {σ : L2.St} {H1 : Hp} {s1 : Shared} {v : V} {u : Value} {Q : Value → Shared → Prop} {EE : Value → Shared → Prop} (bs : Bs B nw ini tl) (T : OxI X.prog X.w X.K X.mg X.base nw tl C f) (hr : Room 2 X.A) (I1 : Inv X pins σ H1 s1) (r : RelV v u)
    (h : ∀ (a d : Addr) (k2 : Heap) (H2 : Hp) (s2 : Shared), s1.heap.objs.size ≤ a → (∀ b o, s1.heap.get? b = some o → k2.get? b = some o) → H1 a = none → H1 d = none → d ≠ a → H2 = upd (upd (upd H1 a (exo a C none)) d (exd d [(f, v)])) a (exo a C (some d)) →
      Un (frs X.stack) [] (upd H1 a (exo a C none)) H2 k2 s2.heap → HOk X.prog X.w H2 s2.heap → s2.os = s1.os → AllBare s2.gens → Inv X pins σ H2 s2 → Q (.ref a) s2) :
    wpAny (model X.prog X.w) X.A (call (.ref C) [u]) Q EE s1 := by
  obtain ⟨nm, q, N, bss, sn, sub, ab, col, dd, k0, k1, k2, k3, k5, hC⟩ := T.c.cls
  obtain ⟨fI, fd, iC, tI, F1, hb⟩ := T.i
  obtain ⟨hp, g, dr, tk, os⟩ := s1
  have up1 : hp.objs.size ≤ hp.objs.size + 1 := Nat.le_succ _
  have fr1 : H1 (hp.objs.size + 1) = none := I1.hok.fresh up1
  have kk : ∀ b o, hp.get? b = some o → ((hp.push (PySem.W.kdv_tup [u])).push (PySem.HandSPX.excO C hp.objs.size)).get? b = some o := fun b o e => Heap.get?_push_of_some _ (Heap.get?_push_of_some _ e)
  have hget : ((hp.push (PySem.W.kdv_tup [u])).push (PySem.HandSPX.excO C hp.objs.size)).get? (hp.objs.size + 1) = some (PySem.HandSPX.excO C hp.objs.size) := by heap_get
  have I2 : Inv X pins σ (upd H1 (hp.objs.size + 1) (exo (hp.objs.size + 1) C none)) ⟨(hp.push (PySem.W.kdv_tup [u])).push (PySem.HandSPX.excO C hp.objs.size), g, dr, tk, os⟩ := I1.laid (t' := tk) kk up1 (exo_ok hget)
  have r2 : Vals [V.ref (hp.objs.size + 1), v] [Value.ref (hp.objs.size + 1), u] := .cons rfl (.cons r .nil)
  refine wpAny_call (PySem.HandSPX.call_own bs.f (fun Y => rfl) (I1.kIn _ _ hC) (PySem.W.looks_findIn I1.kIn iC) (fun self => PySem.W.bind_fn I1.kIn self tI) (by rw [sizeLine_eq]; show 1 ≤ 16777216; decide)
    (codeAny_mono (F1.run _ X.stack _ (upd H1 (hp.objs.size + 1) (exo (hp.objs.size + 1) C none)) ⟨[.ref (hp.objs.size + 1), u], []⟩ [.ref (hp.objs.size + 1), u] [.ref (hp.objs.size + 1), v]
      (fun v' H2 => v' = .non ∧ ∃ d, H1 d = none ∧ d ≠ hp.objs.size + 1 ∧ H2 = upd (upd (upd H1 (hp.objs.size + 1) (exo (hp.objs.size + 1) C none)) d (exd d [(f, v)])) (hp.objs.size + 1) (exo (hp.objs.size + 1) C (some d))) (fun _ _ _ => False)
      (hr.make C [u] []) (I2.env0.make C [u] []) (by have := hb _ [.ref (hp.objs.size + 1), u] I2.kIn rfl; rw [List.append_nil] at this; exact this) r2 ?_) fun r s' hq' => ?_))
  · refine ⟨_, C, v, rfl, T.c, T.no, upd_same, fun dx hdx hne => ⟨rfl, dx, ?_, hne, rfl⟩⟩
    rw [upd_ne hne] at hdx; exact hdx
  · cases r with
    | error er => exact hq'.elim
    | ok fl =>
      cases fl with
      | ret u' =>
        have J := I2.after hq'
        obtain ⟨v', H2, J2, _, _⟩ := J
        obtain ⟨v2, H3, os2, bare2, un2, hok2, rv, ev, d, hd, dne, eH⟩ := hq'
        subst ev
        refine ⟨rv, h _ d _ H3 s' up1 kk fr1 hd dne eH un2 hok2 os2 bare2 ?_⟩
        have K2 := I2.after (Q := fun v' H2 => v' = .non ∧ H2 = H3) ⟨.non, H3, os2, bare2, un2, hok2, rv, rfl, rfl⟩
        obtain ⟨_, _, J3, _, _, e3⟩ := K2
        rw [← e3]; exact J3
      | next => exact hq'.elim
      | brk => exact hq'.elim
      | cont => exact hq'.elim
theorem pmk_ox (bs : Bs B nw ini tl) (T : OxI X.prog X.w X.K X.mg X.base nw tl C f) (hr : Room 2 X.A) (hg : Gl X x) (hm : X.mg x = some (.ref C)) (ha : PA X [e] ta) (hdb : (x == ("__debug__" : Str)) = false := by decide)
    (he : starEach [e] X.env = (false, eval e X.env) :: starEach [] X.env := by rfl) (hpl : (backTo pos (starEach [] X.env)).any (·.1) = false := by rfl) : PMk X (.Call (.Name x p) [e] [] pos) (tMk1 C f ta) := by
  intro pins s σ H Q I h
  refine wpAny_Call_Name_kw (ld_glob I hg hm ?_ hdb)
  refine PySem.W.callWith_K (h₀ := X.base) I.ok.mod.kin T.c.kp (thn (ha.run pos pins s σ H _ I h) fun us s1 hh => ?_) he hpl
  obtain ⟨vs, H1, I1, r1, v, rfl, q1⟩ := hh
  refine ⟨I1.kIn, ?_⟩
  cases r1 with
  | cons rv rn =>
    cases rn
    refine ox_call bs T hr I1 rv fun a d k2 H2 s2 ha1 kk na nd ne eH un2 hok2 os2 bare2 _ => ?_
    have ea : H2 a = some (exo a C (some d)) := by rw [eH]; exact upd_same
    have ed : H2 d = some (exd d [(f, v)]) := by rw [eH, upd_ne ne]; exact upd_same
    have eq : upd (del H2 a) d (.xd [(f, v)]) = upd H1 d (.xd [(f, v)]) := funext fun b => by
      by_cases hb : b = d
      · rw [hb, upd_same, upd_same]
      · rw [upd_ne hb, upd_ne hb]
        by_cases hba : b = a
        · rw [hba, del_same, na]
        · rw [del_ne hba, eH, upd_ne hba, upd_ne hb, upd_ne hba]
    obtain ⟨hp, g1, d1, t1, os1⟩ := s1
    obtain ⟨h2, g2, d2, t2, os2'⟩ := s2
    exact mk_end (raises_own T.c.ex T.c.ty) I1 ha1 kk un2 hok2 os2 bare2 ea ed nd (by rw [eq]; exact q1 d nd)
theorem pe_ox (bs : Bs B nw ini tl) (T : OxI X.prog X.w X.K X.mg X.base nw tl C f) (hr : Room 2 X.A) (hg : Gl X x) (hm : X.mg x = some (.ref C)) (ha : PA X [e] ta) (hdb : (x == ("__debug__" : Str)) = false := by decide)
    (he : starEach [e] X.env = (false, eval e X.env) :: starEach [] X.env := by rfl) (hpl : (backTo pos (starEach [] X.env)).any (·.1) = false := by rfl) : PE X (.Call (.Name x p) [e] [] pos) (tMkV C f ta) := by
  refine ⟨fun pins s σ H Q I h => ?_⟩
  refine wpAny_Call_Name_kw (ld_glob I hg hm ?_ hdb)
  refine PySem.W.callWith_K (h₀ := X.base) I.ok.mod.kin T.c.kp (thn (ha.run pos pins s σ H _ I h) fun us s1 hh => ?_) he hpl
  obtain ⟨vs, H1, I1, r1, v, rfl, q1⟩ := hh
  refine ⟨I1.kIn, ?_⟩
  cases r1 with
  | cons rv rn =>
    cases rn
    refine ox_call bs T hr I1 rv fun a d k2 H2 s2 ha1 kk na nd ne eH un2 hok2 os2 bare2 J => ?_
    have ea : H2 a = some (exo a C (some d)) := by rw [eH]; exact upd_same
    have ed : H2 d = some (exd d [(f, v)]) := by rw [eH, upd_ne ne]; exact upd_same
    obtain ⟨t1, ho⟩ := exo_at hok2 ea
    obtain ⟨mA, hn, rel⟩ := exd_at hok2 ed
    obtain ⟨h2, g2, d2, t2, os2'⟩ := s2
    have J1 := J.write (t' := t2) (h' := h2) (x := a) (e := a) (o := exk a C d) (by rw [ea]; exact True.intro) (.inl rfl) (fun b u _ q => q) ⟨_, ho⟩ (exk_ok ho ⟨rfl, rfl⟩ rfl)
    have ed1 : upd H2 a (exk a C d) d = some (exd d [(f, v)]) := by rw [upd_ne ne]; exact ed
    obtain ⟨od, _, _, hod, _⟩ := id hn
    have J2 := J1.write (t' := t2) (h' := h2) (x := d) (e := d) (o := .xd [(f, v)]) (by rw [ed1]; exact True.intro) (.inl rfl) (fun b u _ q => q) ⟨_, hod⟩ ⟨mA, hn, rel⟩
    have eq : upd (upd H2 a (exk a C d)) d (.xd [(f, v)]) = upd (upd H1 d (.xd [(f, v)])) a (exk a C d) := funext fun b => by
      by_cases hba : b = a
      · rw [hba, upd_ne (Ne.symm ne), upd_same, upd_same]
      · rw [upd_ne hba]
        by_cases hb : b = d
        · rw [hb, upd_same, upd_same]
        · rw [upd_ne hb, upd_ne hb, upd_ne hba, eH, upd_ne hba, upd_ne hb, upd_ne hba]
    rw [eq] at J2
    exact ⟨.ref a, _, J2, rfl, q1 a d na nd ne⟩
end
end DL

/-! DLv: try: body, except (A, B, ..) as e: x = e. The exception is tracked behind it. -/
namespace DLX
open PySem PySem.W PySem.Spec PySem.Calls PyProof.Rows
section
variable {M : Model} {K : Frag}
theorem any_all {cls : Value} : ∀ (cs : List Value) (b : Bool), exmAny K cls cs = some b → (∀ c ∈ cs, exmOne K cls c = some ((exmOne K cls c).getD false)) ∧ b = cs.any fun c => (exmOne K cls c).getD false
  | [], b, e => by cases e; exact ⟨fun c h => (nomatch h), rfl⟩
  | c :: r, b, e => by
    obtain ⟨b1, d1, x1, y1, z1⟩ := exmAny_cons e
    obtain ⟨ih, e2⟩ := any_all r d1 y1
    refine ⟨fun x hx => ?_, by rw [List.any_cons, x1, z1, e2]; rfl⟩
    rcases List.mem_cons.mp hx with rfl | hx
    · rw [x1]; rfl
    · exact ih x hx
theorem for_all {A : Around} {E : Value → Shared → Prop} {s : Shared} {f : Value → PUnit → Sem (ForInStep PUnit)} {Q : PUnit → Shared → Prop} (q : Q ⟨⟩ s) : ∀ (cs : List Value), (∀ c ∈ cs, ∀ Q' : ForInStep PUnit → Shared → Prop, Q' (.yield ⟨⟩) s → wpAny M A (f c ⟨⟩) Q' E s) → wpAny M A (forIn cs ⟨⟩ f) Q E s
  | [], _ => by simp only [List.forIn_nil]; exact wpAny_pure q
  | c :: r, h => by
    simp only [List.forIn_cons]
    exact wpAny_bind (h c List.mem_cons_self _ (for_all q r fun x hx => h x (List.mem_cons_of_mem _ hx)))
theorem for_find {A : Around} {E : Value → Shared → Prop} {s : Shared} {f : Value → Option Bool × Unit → Sem (ForInStep (Option Bool × Unit))} {Q : Option Bool × Unit → Shared → Prop} (tab : Value → Bool) : ∀ (cs : List Value),
    (∀ c ∈ cs, ∀ Q' : ForInStep (Option Bool × Unit) → Shared → Prop, Q' (if tab c then .done (some true, ()) else .yield (none, ())) s → wpAny M A (f c (none, ())) Q' E s) → Q (if cs.any tab then some true else none, ()) s → wpAny M A (forIn cs (none, ()) f) Q E s
  | [], _, q => by simp only [List.forIn_nil]; exact wpAny_pure q
  | c :: r, h, q => by
    simp only [List.forIn_cons]
    refine wpAny_bind (h c List.mem_cons_self _ ?_)
    cases ht : tab c with
    | true => simp only [List.any_cons, ht, Bool.true_or, if_true] at q ⊢; exact wpAny_pure q
    | false =>
      simp only [List.any_cons, ht, Bool.false_or, Bool.false_eq_true, if_false] at q ⊢
      exact for_find tab r (fun x hx => h x (List.mem_cons_of_mem _ hx)) q
/-- except (c1, c2, ..): of any number of classes -/
theorem exm_tupN {cs : List Value} {cls : Value} {tp e : Addr} {b : Bool} {h : Heap} (KX : K.In h) (LT : Looks M h (typeOf (.ref e)) cls) (hp : h.get? tp = some { cls := .type "tuple", data := .seq cs.toArray }) (hx : exmAny K cls cs = some b) :
    Looks M h (excMatches (.ref e) (.ref tp)) b := by
  intro A Q E s k0 q
  obtain ⟨hh, g, d, tk, os⟩ := s
  have k : ∀ b o, h.get? b = some o → hh.get? b = some o := k0
  have T0 : Looks M h (isInstance (.ref tp) (.type "tuple")) true := ((Looks.ld hp).andThen .now).andThen (Looks.of_pure isSubtype_tuple_tuple)
  obtain ⟨al, eb⟩ := any_all cs b hx
  have hp' := k _ _ hp
  unfold excMatches
  refine wpAny_bind ((T0.keeps k).at ?_)
  dsimp only
  rw [if_pos rfl]
  first
    | refine wpAny_bind (wpAny_seqItems hp' rfl ?_)
    | refine wpAny_bind (wpAny_bind (wpAny_seqItems hp' rfl (wpAny_pure ?_)))
  dsimp only [Option.getD_some, Option.getD]
  refine wpAny_bind (wpAny_pure (wpAny_bind (for_all ?_ _ fun c hc Q' q' => ?_)))
  · refine wpAny_bind ((LT.keeps k).here ?_)
    refine wpAny_bind (for_find (fun c => (exmOne K cls c).getD false) _ (fun c hc Q' q' => ?_) ?_)
    · obtain ⟨_, e1⟩ := exm_cls (M := M) KX (al c hc)
      refine wpAny_bind ((e1.keeps k).here ?_)
      cases hq : (exmOne K cls c).getD false with
      | true => rw [hq] at q'; simp only [if_true] at q' ⊢; exact wpAny_pure q'
      | false => rw [hq] at q'; simp only [Bool.false_eq_true, if_false] at q' ⊢; exact wpAny_pure q'
    · dsimp only
      rw [← eb]
      cases b with
      | true => simp only [if_true]; exact wpAny_pure q
      | false => simp only [Bool.false_eq_true, if_false]; exact wpAny_pure q
  · obtain ⟨e1, _⟩ := exm_cls (M := M) KX (al c hc)
    refine wpAny_bind ((e1.keeps k).here ?_)
    simp only [Bool.not_true, Bool.false_eq_true, if_false]
    exact wpAny_pure q'
end
end DLX

/-! DLw: the rule of the try. -/
namespace DL
open PySem PySem.Spec PyProof.Rows L2 DLX
/-- names of classes, and what they hold -/
inductive NmL (X : Cx) : List Expr → List Value → Prop
  | nil : NmL X [] []
  | cons {x : Str} {c : Value} {p : Pos} {es : List Expr} {cs : List Value} (h : Names X x c) (r : NmL X es cs) : NmL X (.Name x p :: es) (c :: cs)
section
variable {X : Cx} {pins : List (Addr × Obj)} {σ : L2.St} {H : Hp} {s : Shared} {a : Addr} {o : HO}
theorem NmL.len {es : List Expr} {cs : List Value} (h : NmL X es cs) : es.length = cs.length := by
  induction h with
  | nil => rfl
  | cons _ _ ih => rw [List.length_cons, List.length_cons, ih]
/-- the names of the clause, read while an exception is handled -/
theorem NmL.run {b : Addr} {pn : List (Addr × Obj)} {E : Value → Shared → Prop} {M : Model} {pos : Pos} (I : Inv (X.suite b pn) pins σ H s) : ∀ {es : List Expr} {cs : List Value}, NmL X es cs → ∀ {Q : List Value → Shared → Prop}, Q cs s → wpAny (model X.prog X.w) (X.A.mark (some (.ref b))) (spliced (backTo pos (starEach es X.env))) Q E s
  | _, _, .nil, Q, q => wpAny_items_nil q
  | _, _, .cons (x := x) (c := c) h r, Q, q => by
    refine wpAny_items_cons ?_
    obtain ⟨hg, hdbg, hm | ⟨hm, hv, hnn⟩⟩ := h
    · exact ld_glob (X := X.suite b pn) I hg hm (NmL.run (M := M) I r q) hdbg
    · exact ld_blt (X := X.suite b pn) I hg hm hv (NmL.run (M := M) I r q) hnn hdbg
/-- an object that stood untracked, of this body's own time, is tracked -/
theorem Inv.track (I : Inv X pins σ H s) (n0 : X.s_0.heap.get? a = none) (hn : H a = none) (nP : ∀ p ∈ X.pn ++ pins, p.1 ≠ a) (nL : a ≠ X.env.locals) (nC : ∀ x c, X.env.cells.lookup x = some c → c ≠ a) (new : ObjOk X.prog X.w (upd H a o) s.heap a o) : Inv X pins σ (upd H a o) s := by
  have bn := I.base
  refine ⟨I.ok, I.os, I.bare, ⟨bn.keep, bn.slot, fun b u q n hx => ?_, bn.there, fun b xs q => ?_, fun b u v q => ?_, fun b ps q => ?_⟩, I.loc, I.cell, ?_, fun x c e => ?_, fun p hp => ?_, I.hok.laidN (fun _ _ q => q) hn new, I.len⟩
  · rw [upd_ne (fun z => by rw [z, n0] at q; cases q)]; exact bn.free b u q n hx
  · have := bn.tups b xs q
    rw [upd_ne (ne_of_none this hn)]; exact this
  · have := bn.frzs b u v q
    rw [upd_ne (ne_of_none this hn)]; exact this
  · obtain ⟨m, e⟩ := bn.tbls b ps q
    exact ⟨m, by rw [upd_ne (ne_of_none e hn)]; exact e⟩
  · rw [upd_ne nL.symm]; exact I.free
  · rw [upd_ne (nC x c e)]; exact I.freeC x c e
  · obtain ⟨h1, h2, h3⟩ := I.pin p hp
    exact ⟨h1, by rw [upd_ne (nP p hp)]; exact h2, h3⟩
end
/-- what the clause wishes: slot i is the clause's name, slot j keeps the exception -/
def wKeep (K : PySem.W.Frag) (cs : List Value) (i j : Nat) (Wout : WX) (D : Ends) : WX := fun cls d σ H =>
  ∃ b, PySem.W.exmAny K cls cs = some b ∧ (b = true → ∃ C dx, cls = .ref C ∧ d = some dx ∧ ∀ a, H a = none → D.nx (((σ.set i (some (.ref a))).set j (some (.ref a))).set i none) (upd H a (exk a C dx))) ∧ (b = false → Wout cls d σ H)
theorem flyZ_keeps {B h h' : Heap} {l : List Env} {e : Addr} {Z : Obj → Prop} (R : PySem.HandSPX.FlyingZ B l e Z h) (k : ∀ b o, h.get? b = some o → h'.get? b = some o) : PySem.HandSPX.FlyingZ B l e Z h' := by
  obtain ⟨f1, f2, f3, oe, ws, T, oT, ts, he, hz, hd, h1, hn, hne, hT, hdT, h3⟩ := R
  exact ⟨fun b o q => k b o (f1 b o q), f2, f3.of_keeps fun b o q _ => ⟨o, k b o q, rfl⟩, oe, ws, T, oT, ts, k _ _ he, hz, hd, h1, hn, hne, k _ _ hT, hdT, h3⟩
section
variable {X : Cx} {n x : Str} {i j : Nat} {body : List Stmt} {es : List Expr} {cs : List Value} {kk : Nat} {p1 p2 p3 tpos pos pos' : Pos} {tb : WX → TS} {Wout : WX}
theorem ps_keep (hs : X.stack = X.env :: X.outer) (hf : X.env.frame = some X.env.locals) (hex : X.ex = []) (hN : X.N.Nodup) (hi : X.N[i]? = some n) (hln : X.env.kindOf n = some .local) (hj : X.N[j]? = some x) (hlx : X.env.kindOf x = some .local) (hvis : Vis X.env.scope n) (hnd : (n == ("__debug__" : Str)) = false) (hncd : (n == ("__classdict__" : Str)) = false) (hc : NmL X es cs) (hcl : cs.length ≤ 1000) (tk : Takes X Wout)
    (hb : ∀ (W : WX) (pn : List (Addr × Obj)) (xe : Value → Shared → Prop), Takes (X.tr pn xe) W → PassesOwn (model X.prog X.w) X.A X.env xe → PSs (X.tr pn xe) body (tb W)) :
    PS X (.Try body [.ExceptHandler (some (.Tuple es kk tpos)) (some n) [.Assign [.Name x p1] (.Name n p2) p3] pos'] [] [] pos) (fun D σ H => tb (wKeep X.K cs i j Wout D) D σ H) := by
  refine ⟨fun pins s σ H D I h => ?_⟩
  have ok := I.ok
  have hfr : X.A.frames = some (X.env :: X.outer) := by rw [ok.frames, hs]
  refine wpAny_Try_except ?_
  refine wpAny_mono ((hb (wKeep X.K cs i j Wout D) (X.pn ++ pins) (fun e s₁ => wpAny (model X.prog X.w) X.A (noteFrame e X.env) (fun _ s₂ => wpAny (model X.prog X.w) X.A (setFlight e none) (fun _ s₃ =>
    wpAny (model X.prog X.w) X.A (handleBy e X.env [.ExceptHandler (some (.Tuple es kk tpos)) (some n) [.Assign [.Name x p1] (.Name n p2) p3] pos']) (SP X pins D) X.xe s₃) X.xe s₂) X.xe s₁) (fun u s' xx => ?_) PassesOwn.looking).run [] s σ H D (I.toTry _) h) (fun f s1 hsp => ?_) (fun e s1 he => he)
  · obtain ⟨a, B, sI, pins', σ', H', cls, d, rfl, J', nb, up, sky, na, os, ag, b, hb1, hyes, hno⟩ := xx
    have J : Inv X pins σ' H' sI := J'.ofTry ok
    rw [hs] at sky
    show wpAny (model X.prog X.w) X.A (noteFrame (.ref a) X.env) _ _ _
    refine Sky.land Zc.steady hfr hf sky fun h3 fl3 up3 => ?_
    have J3 : Inv X pins σ' H' { s' with heap := h3 } := J.landed nb fl3.1 (up.trans up3) os ag
    obtain ⟨oe3, vs3, he3, hz3, hd3⟩ := fl3.there
    have nfr : a ∉ frs (X.env :: X.outer) := fun hm => by
      obtain ⟨_, o', e', hnf⟩ := fl3.2.2.1.mem hm
      rw [he3] at e'; cases e'
      exact hnf _ hd3
    have nL : a ≠ X.env.locals := fun z => nfr (List.mem_filterMap.mpr ⟨X.env, List.mem_cons_self, by rw [hf, z]⟩)
    have nF : a ∉ X.fs := fun hm => by
      obtain ⟨e, he, q⟩ := List.mem_filterMap.mp hm
      exact nfr (List.mem_filterMap.mpr ⟨e, List.mem_cons_of_mem _ he, q⟩)
    have nI : sI.heap.get? a = none := by
      cases q : sI.heap.get? a with
      | none => rfl
      | some ob =>
        have z := nb a ob q (by rw [hs]; exact nfr)
        rw [fl3.2.1] at z; cases z
    have n0 : X.s_0.heap.get? a = none := by
      cases q : X.s_0.heap.get? a with
      | none => rfl
      | some ob =>
        obtain ⟨o', e'⟩ := J.base.there a ob q (by rw [hex]; exact fun z => nomatch z)
        rw [nI] at e'; cases e'
    have nC : ∀ y c, X.env.cells.lookup y = some c → c ≠ a := fun y c e z => by
      obtain ⟨v, o', ho, _⟩ := J.cell y c e
      rw [z, nI] at ho; cases ho
    have nP : ∀ p ∈ X.pn ++ pins, p.1 ≠ a := fun p hp z => by
      have := (J.pin p hp).1
      rw [z, nI] at this; cases this
    have S3 := J3.suite he3 hd3 na nL nF
    refine wpAny_handleBy_cons (codeAny_handlers_test ?_) (by intro q; cases q)
    refine wpAny_Tuple (NmL.run (M := model X.prog X.w) S3 hc ⟨Nat.le_trans hcl (by decide), ?_⟩)
    have kp : ∀ q ob, h3.get? q = some ob → (h3.push { cls := .type "tuple", data := .seq cs.toArray }).get? q = some ob := fun _ _ z => Heap.get?_push_of_some _ z
    have LT : PySem.W.Looks (model X.prog X.w) h3 (typeOf (.ref a)) cls := fun A Q E s k q => wpAny_typeOf_ref (k _ _ he3) (by rw [hz3.1]; exact q)
    refine (exm_tupN (J3.kIn.keeps kp) (LT.keeps kp) (Heap.get?_push_size h3 rfl) hb1).here ?_
    have fl3' := flyZ_keeps fl3 kp
    have up3' : s'.heap.UpToSlots (h3.push { cls := .type "tuple", data := .seq cs.toArray }) := up3.trans (Heap.UpToSlots.of_keeps kp)
    cases b with
    | true =>
      obtain ⟨C, dx, rfl, rfl, q6⟩ := hyes rfl
      refine codeAny_handlers_suite_as ?_
      refine HandSPX.lands_againZ fl3' fun h4 fl4 up4 => ?_
      have J4 : Inv X pins σ' H' { s' with heap := h4 } := J.landed nb fl4.1 ((up.trans up3').trans up4) os ag
      obtain ⟨oe4, vs4, he4, hz4, hd4⟩ := fl4.there
      have S4 := J4.suite he4 hd4 na nL nF
      refine store_ok (X := X.suite a ((a, oe4) :: (X.pn ++ pins))) (v := .ref a) S4 hN hi (.inl hln) rfl (fun s5 S5 => ?_) (.inr hln)
      have hlt : i < σ'.length := by
        rw [J4.len]
        exact (List.getElem?_eq_some_iff.mp hi).1
      have su : PSs (X.suite a ((a, oe4) :: (X.pn ++ pins))) [.Assign [.Name x p1] (.Name n p2) p3] (tAsg (tVar i) (gName j)) := pss_one (ps_set (i := j) (hf := Or.inr hlx) hN hj (Or.inl hlx) (pe_var hi hvis hnd hncd))
      refine wpAny_mono (su.run [] s5 _ H' { nx := fun σ6 H6 => σ6 = (σ'.set i (some (.ref a))).set j (some (.ref a)) ∧ H6 = H', rt := fun _ _ => False, bk := fun _ _ => False, ct := fun _ _ => False } S5 ⟨.ref a, List.getElem?_set_self hlt, rfl, rfl⟩) (fun f s6 hsp => ?_) (fun _ _ z => False.elim z)
      cases f with
      | next =>
        obtain ⟨σ6, H6, S6, rfl, rfl⟩ := hsp
        have p6 := (S6.pin (a, oe4) (List.mem_append_left _ List.mem_cons_self)).1
        have J6 := S6.unsuite ok
        have T6 := Inv.track (o := exk a C dx) J6 n0 na nP nL nC (exk_ok p6 hz4 hd4)
        exact gone_ok T6 hN hi hln fun s7 J7 => ⟨_, _, J7, q6 a na⟩
      | brk => obtain ⟨_, _, _, z⟩ := hsp; exact z.elim
      | cont => obtain ⟨_, _, _, z⟩ := hsp; exact z.elim
      | ret u => obtain ⟨_, _, _, _, _, z⟩ := hsp; exact z.elim
    | false =>
      show wpAny _ X.A (handleBy (.ref a) X.env []) _ _ _
      refine wpAny_handleBy_nil ?_
      obtain ⟨k1, k2, k3, oe, vs, T, oT, ts', he, hz, hd, h1, hr⟩ := id fl3'
      unfold PySem.passOn
      refine wpAny_bind (wpAny_field he hd h1 ?_)
      rw [if_neg (show ¬ ((Value.ref T == Value.none) = true) from by simp)]
      have fin : wpAny (model X.prog X.w) X.A (setFlight (.ref a) X.env.frame) (fun _ s4 => wpAny (model X.prog X.w) X.A (throw (.ref a) : Sem Flow) (SP X pins D) X.xe s4) X.xe { s' with heap := h3.push { cls := .type "tuple", data := .seq cs.toArray } } := by
        rw [hf]
        refine HandSPX.setFlight_upZ fl3' fun h4 hh4 up4 => wpAny_throw (tk _ _ ?_)
        exact ⟨a, B, sI, pins, σ', H', cls, d, rfl, J, nb, (up.trans up3').trans up4, .inr (.inr (by rw [hs]; exact hh4)), na, os, ag, hno rfl⟩
      first
        | exact wpAny_bind (wpAny_pure (wpAny_bind fin))
        | exact wpAny_bind fin
  · cases f with
    | next =>
      obtain ⟨σ', H', J', q⟩ := hsp
      exact wpAny_execs_nil ⟨σ', H', J'.ofTry ok, q⟩
    | brk => obtain ⟨σ', H', J', q⟩ := hsp; exact ⟨σ', H', J'.ofTry ok, q⟩
    | cont => obtain ⟨σ', H', J', q⟩ := hsp; exact ⟨σ', H', J'.ofTry ok, q⟩
    | ret u => obtain ⟨v, σ', H', J', r, q⟩ := hsp; exact ⟨v, σ', H', J'.ofTry ok, r, q⟩
end
end DL

/-! DLx: defs that may raise, over data. -/
namespace DL
open PySem L2
/-- what a def that may raise computes -/
inductive RX (α : Type) where
  | ok (a : α)
  | ex (c : Str) (d : D)
  | bad
section
variable {X : Cx} {K : PySem.W.Frag} {Wx : WX} {ta tb te : TE} {tt : TT} {tas tks : TA} {t u : TS} {b0 : Option Addr} {B Z0 Z H : Hp} {σ : L2.St} {ρ : Rho}
/-! ### promises -/
def ExO (K : PySem.W.Frag) (H Z : Hp) (E : XK) (c : Str) (d : D) : Prop := ∀ C dx v H' Z', Same H H' → Grow H Z Z' H' → Cls K c C → Z' dx = some (.xd [(fld c, v)]) → Rp K Z' v d → E (.ref C) (some dx) H'
def spX (K : PySem.W.Frag) (np : Nat) (F : List D → RX D) : Sp := fun vs H Q E => vs.length = np ∧ ∃ Z ds, Same Z H ∧ RpA K Z vs ds ∧ match F ds with
  | .ok d => ∀ v H' Z', Same H H' → Grow H Z Z' H' → Rp K Z' v d → Q v H'
  | .ex c d => ExO K H Z E c d
  | .bad => False
def spXF (K : PySem.W.Frag) (np : Nat) (F : List D → RX (List D)) : Sp := fun vs H Q E => vs.length = np ∧ ∃ Z ds, Same Z H ∧ RpA K Z vs ds ∧ match F ds with
  | .ok es => ∀ p ws H' Z', Same H H' → Grow H Z Z' H' → H p = none → Z' p = none → H' p = some (.lst ws) → RpA K Z' ws es → Q (.ref p) H'
  | .ex c d => ExO K H Z E c d
  | .bad => False
def callX (np n : Nat) (g : GS) : List D → RX D := fun args => if args.length ≠ np then .bad else match g (env0 n args) with
  | .rt d _ => .ok d
  | .nx _ => .ok .none
  | .rf ds _ => .ok (.list ds)
  | .ex c d _ => .ex c d
  | _ => .bad
def callXF (np n : Nat) (g : GS) : List D → RX (List D) := fun args => if args.length ≠ np then .bad else match g (env0 n args) with
  | .rf ds _ => .ok ds
  | .ex c d _ => .ex c d
  | _ => .bad
theorem callX_len {np n : Nat} {g : GS} : ∀ ds, callX np n g ds ≠ .bad → ds.length = np := fun ds h => by
  unfold callX at h
  split at h
  · exact absurd rfl h
  · omega
theorem callXF_len {np n : Nat} {g : GS} : ∀ ds, callXF np n g ds ≠ .bad → ds.length = np := fun ds h => by
  unfold callXF at h
  split at h
  · exact absurd rfl h
  · omega
theorem run_X {N : List Str} {np : Nat} {g : GS} {vs : List V} {Q : VK} {E : XK} (h : DS K (fun cls d _ H => E cls d H) t g) (hk : np ≤ N.length) (hs : spX K np (callX np N.length g) vs H Q E) : t { nx := fun _ H' => Q .non H', rt := Q } (L2.start N vs) H := by
  obtain ⟨hl, Z, ds, sZ, ra, q⟩ := hs
  have ok := ok_start (N := N) sZ ra (by omega)
  refine h _ _ _ _ _ _ _ _ ok ?_
  unfold callX at q
  rw [if_neg (by rw [← ra.length]; omega)] at q
  cases e' : g (env0 N.length ds) with
  | rt d ρ' => rw [e'] at q; exact fun v σ' H' Z' ok' r => q v H' Z' ok'.bh ⟨ok'.zz, ok'.zh, ok'.nb⟩ r
  | nx ρ' => rw [e'] at q; exact fun σ' H' Z' ok' => q .non H' Z' ok'.bh ⟨ok'.zz, ok'.zh, ok'.nb⟩ .non
  | rf ds' ρ' =>
    rw [e'] at q
    intro p ws σ' H' Z' ok' zp bp ap hp r
    obtain ⟨ok2, s2⟩ := ok'.freeze zp bp ap hp
    exact q (.ref p) H' _ ok2.bh ⟨ok2.zz, ok2.zh, ok2.nb⟩ (.lst upd_same (r.mono s2))
  | ex c d ρ' => rw [e'] at q; exact fun σ' H' Z' C dx v ok' hc hx r => q C dx v H' Z' ok'.bh ⟨ok'.zz, ok'.zh, ok'.nb⟩ hc hx r
  | bk ρ' => rw [e'] at q; exact q.elim
  | ct ρ' => rw [e'] at q; exact q.elim
  | bad => rw [e'] at q; exact q.elim
theorem run_XF {N : List Str} {np : Nat} {g : GS} {vs : List V} {Q : VK} {E : XK} (h : DS K (fun cls d _ H => E cls d H) t g) (hk : np ≤ N.length) (hs : spXF K np (callXF np N.length g) vs H Q E) : t { nx := fun _ H' => Q .non H', rt := Q } (L2.start N vs) H := by
  obtain ⟨hl, Z, ds, sZ, ra, q⟩ := hs
  have ok := ok_start (N := N) sZ ra (by omega)
  refine h _ _ _ _ _ _ _ _ ok ?_
  unfold callXF at q
  rw [if_neg (by rw [← ra.length]; omega)] at q
  cases e' : g (env0 N.length ds) with
  | rf ds' ρ' =>
    rw [e'] at q
    intro p ws σ' H' Z' ok' zp bp ap hp r
    exact q p ws H' Z' ok'.bh ⟨ok'.zz, ok'.zh, ok'.nb⟩ bp zp hp r
  | ex c d ρ' => rw [e'] at q; exact fun σ' H' Z' C dx v ok' hc hx r => q C dx v H' Z' ok'.bh ⟨ok'.zz, ok'.zh, ok'.nb⟩ hc hx r
  | rt d ρ' => rw [e'] at q; exact q.elim
  | nx ρ' => rw [e'] at q; exact q.elim
  | bk ρ' => rw [e'] at q; exact q.elim
  | ct ρ' => rw [e'] at q; exact q.elim
  | bad => rw [e'] at q; exact q.elim
/-! ### calls of such a def -/
def RX.at {α : Type} (r : RX α) (ρ : Rho) : R α := match r with
  | .ok a => .ok a ρ
  | .ex c d => .ex c d ρ
  | .bad => .bad
def eCallX {α : Type} (F : List D → RX α) (ga : GA) (ρ : Rho) : R α := match ga ρ with
  | .ok os ρ1 => (match valA os with
    | some ds => (F ds).at ρ1
    | none => .bad)
  | _ => .bad
def eCallWX {α : Type} (F : List D → RX α) (m : Nat) (g : {α : Type} → List α → List α) (ga : GA) (ρ : Rho) : R α := match ga ρ with
  | .ok os ρ1 => (match valA os with
    | some ds => if ds.length = m then (F (g ds)).at ρ1 else .bad
    | none => .bad)
  | _ => .bad
theorem RX.at_ok {α : Type} {r : RX α} {ρ ρ' : Rho} {a : α} (h : r.at ρ = .ok a ρ') : r = .ok a ∧ ρ = ρ' := by
  cases r with
  | ok b => cases h; exact ⟨rfl, rfl⟩
  | ex c d => cases h
  | bad => cases h
theorem callX_ok {α : Type} {F : List D → RX α} {ga : GA} {ρ ρ' : Rho} {z : α} (e : eCallX F ga ρ = .ok z ρ') : ∃ os ds, ga ρ = .ok os ρ' ∧ valA os = some ds ∧ F ds = .ok z := by
  unfold eCallX at e
  split at e
  · rename_i os ρ1 h1
    split at e
    · rename_i ds hv
      obtain ⟨e3, rfl⟩ := RX.at_ok e
      exact ⟨os, ds, h1, hv, e3⟩
    · cases e
  · cases e
theorem callWX_ok {α : Type} {F : List D → RX α} {m : Nat} {g : {α : Type} → List α → List α} {ga : GA} {ρ ρ' : Rho} {z : α} (e : eCallWX F m g ga ρ = .ok z ρ') : ∃ os ds, ga ρ = .ok os ρ' ∧ valA os = some ds ∧ ds.length = m ∧ F (g ds) = .ok z := by
  unfold eCallWX at e
  split at e
  · rename_i os ρ1 h1
    split at e
    · rename_i ds hv
      split at e
      · rename_i hm
        obtain ⟨e3, rfl⟩ := RX.at_ok e
        exact ⟨os, ds, h1, hv, hm, e3⟩
      · cases e
    · cases e
  · cases e
theorem apart_new {p : Addr} (ok : Ok K b0 B Z0 Z H σ ρ) (hp : H p = none) : Apart σ ρ p := fun i es hi hq => by
  obtain ⟨q', vs', f1, _, _, f4, _⟩ := ok.ow i es hi
  rw [f1] at hq; cases hq
  rw [hp] at f4; cases f4
theorem de_callX {np : Nat} {F : List D → RX D} {ga : GA} {E : XK} (hF : ∀ ds, F ds ≠ .bad → ds.length = np) (ha : DA K tas ga) : DE K (tCall (spX K np F) [] E tas) (eCallX F ga) := fun b0 B Z0 Z H σ ρ d ρ' Q ok e q => by
  obtain ⟨os, ds, e1, hv, e3⟩ := callX_ok e
  refine ha b0 B Z0 Z H σ ρ os ρ' _ ok e1 fun vs H1 Z1 ok1 s1 r1 => ?_
  have rA := valA_ok r1 hv
  refine ⟨by rw [List.append_nil, rA.length]; exact hF _ (by rw [e3]; exact fun z => nomatch z), Z1, ds, ok1.zh, by rw [List.append_nil]; exact rA, ?_⟩
  rw [e3]
  exact fun v H' Z' hh g r => q v H' Z' (ok1.grow hh g) (s1.trans g.1) r
theorem df_callXF {np : Nat} {F : List D → RX (List D)} {ga : GA} {E : XK} (hF : ∀ ds, F ds ≠ .bad → ds.length = np) (ha : DA K tas ga) : DF K (tCall (spXF K np F) [] E tas) (eCallX F ga) := fun b0 B Z0 Z H σ ρ d ρ' Q ok e q => by
  obtain ⟨os, ds, e1, hv, e3⟩ := callX_ok e
  refine ha b0 B Z0 Z H σ ρ os ρ' _ ok e1 fun vs H1 Z1 ok1 s1 r1 => ?_
  have rA := valA_ok r1 hv
  refine ⟨by rw [List.append_nil, rA.length]; exact hF _ (by rw [e3]; exact fun z => nomatch z), Z1, ds, ok1.zh, by rw [List.append_nil]; exact rA, ?_⟩
  rw [e3]
  exact fun p ws H' Z' hh g hp zp hp' r => q p ws H' Z' (ok1.grow hh g) (s1.trans g.1) zp (ok1.bh.free hp) (apart_new ok1 hp) hp' r
theorem de_callWX {m np : Nat} {F : List D → RX D} {g : {α : Type} → List α → List α} {ga : GA} {E : XK} (hg : ∀ {A C : Type} {rel : A → C → Prop} {zs : List A} {ws : List C}, Paired rel zs ws → Paired rel (g zs) (g ws)) (hF : ∀ ds, F ds ≠ .bad → ds.length = np) (ha : DA K tks ga) : DE K (tCallW (spX K np F) m g E tks) (eCallWX F m g ga) := fun b0 B Z0 Z H σ ρ d ρ' Q ok e q => by
  obtain ⟨os, ds, e1, hv, hm, e3⟩ := callWX_ok e
  refine ha b0 B Z0 Z H σ ρ os ρ' _ ok e1 fun vs H1 Z1 ok1 s1 r1 => ?_
  have rA := valA_ok r1 hv
  have rG : RpA K Z1 (g vs) (g ds) := RpA.of_paired (hg rA.paired)
  refine ⟨by rw [rA.length]; exact hm, by rw [rG.length]; exact hF _ (by rw [e3]; exact fun z => nomatch z), Z1, g ds, ok1.zh, rG, ?_⟩
  rw [e3]
  exact fun v H' Z' hh g r => q v H' Z' (ok1.grow hh g) (s1.trans g.1) r
theorem df_callWXF {m np : Nat} {F : List D → RX (List D)} {g : {α : Type} → List α → List α} {ga : GA} {E : XK} (hg : ∀ {A C : Type} {rel : A → C → Prop} {zs : List A} {ws : List C}, Paired rel zs ws → Paired rel (g zs) (g ws)) (hF : ∀ ds, F ds ≠ .bad → ds.length = np) (ha : DA K tks ga) : DF K (tCallW (spXF K np F) m g E tks) (eCallWX F m g ga) := fun b0 B Z0 Z H σ ρ d ρ' Q ok e q => by
  obtain ⟨os, ds, e1, hv, hm, e3⟩ := callWX_ok e
  refine ha b0 B Z0 Z H σ ρ os ρ' _ ok e1 fun vs H1 Z1 ok1 s1 r1 => ?_
  have rA := valA_ok r1 hv
  have rG : RpA K Z1 (g vs) (g ds) := RpA.of_paired (hg rA.paired)
  refine ⟨by rw [rA.length]; exact hm, by rw [rG.length]; exact hF _ (by rw [e3]; exact fun z => nomatch z), Z1, g ds, ok1.zh, rG, ?_⟩
  rw [e3]
  exact fun p ws H' Z' hh g hp zp hp' r => q p ws H' Z' (ok1.grow hh g) (s1.trans g.1) zp (ok1.bh.free hp) (apart_new ok1 hp) hp' r
/-! ### expressions that may raise -/
def SatE (K : PySem.W.Frag) (Wx : WX) (b0 : Option Addr) (B Z0 Z : Hp) (σ : L2.St) (Q : VK) : R D → Prop
  | .ok d ρ => ∀ v H' Z', Ok K b0 B Z0 Z' H' σ ρ → Same Z Z' → Rp K Z' v d → Q v H'
  | .ex c d ρ => ∀ H' Z' C dx v, Ok K b0 B Z0 Z' H' σ ρ → Same Z Z' → Cls K c C → Z' dx = some (.xd [(fld c, v)]) → Rp K Z' v d → Wx (.ref C) (some dx) σ H'
  | .bad => False
def XD (K : PySem.W.Frag) (Wx : WX) (t : TE) (g : GE) : Prop := ∀ b0 B Z0 Z H σ ρ (Q : VK), Ok K b0 B Z0 Z H σ ρ → SatE K Wx b0 B Z0 Z σ Q (g ρ) → t σ H Q
/-- an expression that raises nothing -/
def xE (g : GE) (ρ : Rho) : R D := match g ρ with
  | .ok d ρ' => .ok d ρ'
  | _ => .bad
theorem xd_e {g : GE} (h : DE K te g) : XD K Wx te (xE g) := fun b0 B Z0 Z H σ ρ Q ok s => by
  unfold xE at s
  cases e : g ρ with
  | ok d ρ' => rw [e] at s; exact h b0 B Z0 Z H σ ρ d ρ' Q ok e s
  | ex c d ρ' => rw [e] at s; exact s.elim
  | bad => rw [e] at s; exact s.elim
theorem callX_run {np : Nat} {F : List D → RX D} {b0 : Option Addr} {B Z0 Z Z1 H H1 : Hp} {σ : L2.St} {ρ1 : Rho} {Q : VK} {vs : List V} {ds : List D} (hF : ∀ ds, F ds ≠ .bad → ds.length = np) (ok1 : Ok K b0 B Z0 Z1 H1 σ ρ1) (s1 : Same Z Z1) (rA : RpA K Z1 vs ds) (s : SatE K Wx b0 B Z0 Z σ Q ((F ds).at ρ1)) : spX K np F vs H1 Q (WE Wx σ) := by
  cases e : F ds with
  | ok d =>
    rw [e] at s
    refine ⟨by rw [rA.length]; exact hF _ (by rw [e]; exact fun z => nomatch z), Z1, ds, ok1.zh, rA, ?_⟩
    rw [e]
    exact fun v H' Z' hh g r => s v H' Z' (ok1.grow hh g) (s1.trans g.1) r
  | ex c d =>
    rw [e] at s
    refine ⟨by rw [rA.length]; exact hF _ (by rw [e]; exact fun z => nomatch z), Z1, ds, ok1.zh, rA, ?_⟩
    rw [e]
    exact fun C dx v H' Z' hh g hc hx r => s H' Z' C dx v (ok1.grow hh g) (s1.trans g.1) hc hx r
  | bad => rw [e] at s; exact s.elim
theorem callXF_run {np : Nat} {F : List D → RX (List D)} {b0 : Option Addr} {B Z0 Z Z1 H H1 : Hp} {σ : L2.St} {ρ1 : Rho} {Q : VK} {vs : List V} {ds : List D} (hF : ∀ ds, F ds ≠ .bad → ds.length = np) (ok1 : Ok K b0 B Z0 Z1 H1 σ ρ1) (s1 : Same Z Z1) (rA : RpA K Z1 vs ds) (s : SatE K Wx b0 B Z0 Z σ Q (((F ds).at ρ1).map .list)) : spXF K np F vs H1 Q (WE Wx σ) := by
  cases e : F ds with
  | ok d =>
    rw [e] at s
    refine ⟨by rw [rA.length]; exact hF _ (by rw [e]; exact fun z => nomatch z), Z1, ds, ok1.zh, rA, ?_⟩
    rw [e]
    intro p ws H' Z' hh g hp zp hp' r
    have ok2 := ok1.grow hh g
    obtain ⟨ok3, s3⟩ := ok2.freeze zp (ok1.bh.free hp) (apart_new ok1 hp) hp'
    exact s (.ref p) H' _ ok3 ((s1.trans g.1).trans s3) (.lst upd_same (r.mono s3))
  | ex c d =>
    rw [e] at s
    refine ⟨by rw [rA.length]; exact hF _ (by rw [e]; exact fun z => nomatch z), Z1, ds, ok1.zh, rA, ?_⟩
    rw [e]
    exact fun C dx v H' Z' hh g hc hx r => s H' Z' C dx v (ok1.grow hh g) (s1.trans g.1) hc hx r
  | bad => rw [e] at s; exact s.elim
def xL (g : GF) (ρ : Rho) : R D := (g ρ).map .list
theorem satE_call {α : Type} {F : List D → RX α} {ga : GA} {m : α → D} {b0 : Option Addr} {B Z0 Z : Hp} {Q : VK} (s : SatE K Wx b0 B Z0 Z σ Q ((eCallX F ga ρ).map m)) : ∃ os ds ρ1, ga ρ = .ok os ρ1 ∧ valA os = some ds ∧ SatE K Wx b0 B Z0 Z σ Q (((F ds).at ρ1).map m) := by
  unfold eCallX at s
  split at s
  · rename_i os ρ1 h1
    split at s
    · rename_i ds hv
      exact ⟨os, ds, ρ1, h1, hv, s⟩
    · exact s.elim
  · exact s.elim
theorem satE_callW {α : Type} {F : List D → RX α} {n : Nat} {g : {α : Type} → List α → List α} {ga : GA} {m : α → D} {b0 : Option Addr} {B Z0 Z : Hp} {Q : VK} (s : SatE K Wx b0 B Z0 Z σ Q ((eCallWX F n g ga ρ).map m)) : ∃ os ds ρ1, ga ρ = .ok os ρ1 ∧ valA os = some ds ∧ ds.length = n ∧ SatE K Wx b0 B Z0 Z σ Q (((F (g ds)).at ρ1).map m) := by
  unfold eCallWX at s
  split at s
  · rename_i os ρ1 h1
    split at s
    · rename_i ds hv
      split at s
      · rename_i hm; exact ⟨os, ds, ρ1, h1, hv, hm, s⟩
      · exact s.elim
    · exact s.elim
  · exact s.elim
theorem R.map_id {α : Type} (r : R α) : r.map (fun x => x) = r := by cases r <;> rfl
theorem xd_callX {np : Nat} {F : List D → RX D} {ga : GA} (hF : ∀ ds, F ds ≠ .bad → ds.length = np) (ha : DA K tas ga) : XD K Wx (tCallS (spX K np F) (WE Wx) tas) (eCallX F ga) := fun b0 B Z0 Z H σ ρ Q ok s => by
  rw [← R.map_id (eCallX F ga ρ)] at s
  obtain ⟨os, ds, ρ1, e1, hv, s⟩ := satE_call s
  rw [R.map_id] at s
  exact ha b0 B Z0 Z H σ ρ os ρ1 _ ok e1 fun vs H1 Z1 ok1 s1 r1 => callX_run (H := H) hF ok1 s1 (valA_ok r1 hv) s
theorem xd_callXF {np : Nat} {F : List D → RX (List D)} {ga : GA} (hF : ∀ ds, F ds ≠ .bad → ds.length = np) (ha : DA K tas ga) : XD K Wx (tCallS (spXF K np F) (WE Wx) tas) (xL (eCallX F ga)) := fun b0 B Z0 Z H σ ρ Q ok s => by
  obtain ⟨os, ds, ρ1, e1, hv, s⟩ := satE_call s
  exact ha b0 B Z0 Z H σ ρ os ρ1 _ ok e1 fun vs H1 Z1 ok1 s1 r1 => callXF_run (H := H) hF ok1 s1 (valA_ok r1 hv) s
/-! keywords -/
def tCallWS (sp : Sp) (m : Nat) (g : {α : Type} → List α → List α) (E : L2.St → XK) (tk : TA) : TE := fun σ H Q => tk σ H fun zs H2 => zs.length = m ∧ sp (g zs) H2 Q (E σ)
theorem pe_callWS {CX : CXT} {k : Nat} {f : Addr} {fd : FuncData} {ps ks : List Str} {sp : Sp} {E : L2.St → XK} {x : Str} {p pos : Pos} {kws : List Keyword} {g : {α : Type} → List α → List α} (F : FnOk X.prog X.w X.K X.mg X.base CX k f fd ps sp) (hr : Room k X.A) (hg : Gl X x) (hm : X.mg x = some (.ref f)) (hk : PySem.W.keepIn X.K (.ref f) = true) (hb : KwB X.K fd ps ks g) (hx : ∀ σ, PassesAt CX X σ (E σ)) (hkw : PK X kws tks)
    (c1 : (backToKw pos (keywordEach kws X.env)).all (·.1.isSome) = true := by rfl) (c2 : (backToKw pos (keywordEach kws X.env)).filterMap (·.1) = ks := by rfl) (c3 : (x == ("__debug__" : Str)) = false := by decide)
    (c4 : ((backTo pos (starEach [] X.env)).any (·.1) || (backToKw pos (keywordEach kws X.env)).any (·.1.isNone)) = false := by rfl) : PE X (.Call (.Name x p) [] kws pos) (tCallWS sp ks.length g E tks) := by
  refine ⟨fun pins s σ H Q I h => wpAny_Call_Name_kw (ld_glob I hg hm (PySem.W.callWith_KW0 (h₀ := X.base) I.ok.mod.kin hk c1 ?_ c4) c3)⟩
  refine thn (hkw.run pos pins s σ H _ I h) fun ws s2 ⟨zs, H2, I2, rz, l2, q2⟩ => ⟨I2.kIn, ?_⟩
  rw [c2]
  refine wpAny_call (codeAny_mono (F.run X.A X.stack s2 H2 ⟨[], ks.zip ws⟩ (g ws) (g zs) Q (E σ) hr I2.env0 (hb.to s2 ws I2.kIn (rz.length.symm.trans l2)) (hb.rel rz) q2) fun r s' hq => ?_)
  cases r with
  | error e => exact hx σ pins H2 s2 e s' I2 hq
  | ok fl => cases fl <;> first | exact I2.after hq | exact hq.elim
theorem xd_callWX {m np : Nat} {F : List D → RX D} {g : {α : Type} → List α → List α} {ga : GA} (hg : ∀ {A C : Type} {rel : A → C → Prop} {zs : List A} {ws : List C}, Paired rel zs ws → Paired rel (g zs) (g ws)) (hF : ∀ ds, F ds ≠ .bad → ds.length = np) (ha : DA K tks ga) : XD K Wx (tCallWS (spX K np F) m g (WE Wx) tks) (eCallWX F m g ga) := fun b0 B Z0 Z H σ ρ Q ok s => by
  rw [← R.map_id (eCallWX F m g ga ρ)] at s
  obtain ⟨os, ds, ρ1, e1, hv, hm, s⟩ := satE_callW s
  rw [R.map_id] at s
  refine ha b0 B Z0 Z H σ ρ os ρ1 _ ok e1 fun vs H1 Z1 ok1 s1 r1 => ?_
  have rA := valA_ok r1 hv
  exact ⟨by rw [rA.length]; exact hm, callX_run (H := H) hF ok1 s1 (RpA.of_paired (hg rA.paired)) s⟩
theorem xd_callWXF {m np : Nat} {F : List D → RX (List D)} {g : {α : Type} → List α → List α} {ga : GA} (hg : ∀ {A C : Type} {rel : A → C → Prop} {zs : List A} {ws : List C}, Paired rel zs ws → Paired rel (g zs) (g ws)) (hF : ∀ ds, F ds ≠ .bad → ds.length = np) (ha : DA K tks ga) : XD K Wx (tCallWS (spXF K np F) m g (WE Wx) tks) (xL (eCallWX F m g ga)) := fun b0 B Z0 Z H σ ρ Q ok s => by
  obtain ⟨os, ds, ρ1, e1, hv, hm, s⟩ := satE_callW s
  refine ha b0 B Z0 Z H σ ρ os ρ1 _ ok e1 fun vs H1 Z1 ok1 s1 r1 => ?_
  have rA := valA_ok r1 hv
  exact ⟨by rw [rA.length]; exact hm, callXF_run (H := H) hF ok1 s1 (RpA.of_paired (hg rA.paired)) s⟩
/-! x if t else y -/
def xIf (c : GT) (a b : GE) (ρ : Rho) : R D := match c ρ with
  | .ok k ρ1 => if k then a ρ1 else b ρ1
  | _ => .bad
theorem SatE.mono {Z1 : Hp} {Q : VK} {r : R D} (s1 : Same Z Z1) (s : SatE K Wx b0 B Z0 Z σ Q r) : SatE K Wx b0 B Z0 Z1 σ Q r := by
  cases r with
  | ok d ρ => exact fun v H' Z' ok' s' r => s v H' Z' ok' (s1.trans s') r
  | ex c d ρ => exact fun H' Z' C dx v ok' s' => s H' Z' C dx v ok' (s1.trans s')
  | bad => exact s
theorem xd_if {c : GT} {g k : GE} (hc : DT K tt c) (h : XD K Wx ta g) (h2 : XD K Wx tb k) : XD K Wx (tIf tt ta tb) (xIf c g k) := fun b0 B Z0 Z H σ ρ Q ok s => by
  unfold xIf at s
  split at s
  · rename_i b ρ1 e1
    refine hc b0 B Z0 Z H σ ρ b ρ1 _ ok e1 fun H1 Z1 ok1 s1 => ?_
    cases b with
    | true => exact h b0 B Z0 Z1 H1 σ ρ1 Q ok1 (s.mono s1)
    | false => exact h2 b0 B Z0 Z1 H1 σ ρ1 Q ok1 (s.mono s1)
  · exact s.elim
/-- f(x), x raising, f a built-in of data -/
def xCb1 (f : List D → Option D) (g : GE) (ρ : Rho) : R D := (g ρ).bind fun d ρ1 => R.lift (f [d]) ρ1
theorem xd_cb1 {r : List V → Hp → VK → Prop} {f : List D → Option D} {g : GE} (sn : SnA K r f) (h : XD K Wx te g) : XD K Wx (tCB r (tCons te tNil)) (xCb1 f g) := fun b0 B Z0 Z H σ ρ Q ok s => by
  refine h b0 B Z0 Z H σ ρ _ ok ?_
  unfold xCb1 at s
  cases e : g ρ with
  | ok d ρ1 =>
    rw [e] at s
    intro v H1 Z1 ok1 s1 r1
    cases e2 : f [d] with
    | none => rw [R.ok_bind, e2] at s; exact s.elim
    | some c =>
      rw [R.ok_bind, e2] at s
      exact sn b0 B Z0 Z1 H1 σ ρ1 [v] [d] c Q ok1 (.cons (r1.bd ok1.zh) .nil) e2 fun w H2 Z2 ok2 s2 r2 => s w H2 Z2 ok2 (s1.trans s2) r2
  | ex c d ρ1 => rw [e] at s; exact s
  | bad => rw [e] at s; exact s
/-! ### statements -/
def R.toX {α : Type} (r : R α) (f : α → Rho → O) : O := match r with
  | .ok a ρ => f a ρ
  | .ex c d ρ => .ex c d ρ
  | .bad => .bad
theorem Sat.toX {r : R D} {f : D → Rho → O} {E : Ends} {Q : VK} (s : Sat K Wx b0 B Z0 E (r.toX f)) (ok : Ok K b0 B Z0 Z H σ ρ) (h : ∀ d ρ', r = .ok d ρ' → Sat K Wx b0 B Z0 E (f d ρ') → ∀ v H' Z', Ok K b0 B Z0 Z' H' σ ρ' → Rp K Z' v d → Q v H') : SatE K Wx b0 B Z0 Z σ Q r := by
  cases r with
  | ok d ρ' => exact fun v H' Z' ok' _ r => h d ρ' rfl s v H' Z' ok' r
  | ex c d ρ' => exact fun H' Z' C dx v ok' _ hc hx r => s σ H' Z' C dx v ok' hc hx r
  | bad => exact s
def sSetX (i : Nat) (g : GE) (ρ : Rho) : O := (g ρ).toX fun d ρ1 => .nx (ρ1.set i (.sh d))
def sRetX (g : GE) (ρ : Rho) : O := (g ρ).toX .rt
def sDropX (g : GE) (ρ : Rho) : O := (g ρ).toX fun _ ρ => .nx ρ
theorem ds_setX {i : Nat} {g : GE} (h : XD K Wx te g) : DS K Wx (tAsg te (gName i)) (sSetX i g) := fun b0 B Z0 Z H σ ρ E ok s =>
  h b0 B Z0 Z H σ ρ _ ok (Sat.toX s ok fun d ρ' _ s v H' Z' ok' r => s _ H' Z' (ok'.put r))
theorem ds_retX {g : GE} (h : XD K Wx te g) : DS K Wx (tRet te) (sRetX g) := fun b0 B Z0 Z H σ ρ E ok s =>
  h b0 B Z0 Z H σ ρ _ ok (Sat.toX s ok fun d ρ' _ s v H' Z' ok' r => s v σ H' Z' ok' r)
theorem ds_dropX {g : GE} (h : XD K Wx te g) : DS K Wx (tDrop te) (sDropX g) := fun b0 B Z0 Z H σ ρ E ok s =>
  h b0 B Z0 Z H σ ρ _ ok (Sat.toX s ok fun d ρ' _ s v H' Z' ok' r => s σ H' Z' ok')
def sRaise (c : Str) (g : GE) (ρ : Rho) : O := (g ρ).to fun d ρ1 => .ex c d ρ1
theorem ds_raise {c f : Str} {C : Addr} {g : GE} (hc : Cls K c C) (hf : f = fld c) (h : DE K te g) : DS K Wx (fun _ σ H => tMk1 C f (tCons te tNil) σ H fun cls d H' => Wx cls d σ H') (sRaise c g) := fun b0 B Z0 Z H σ ρ E ok s => by
  obtain ⟨d, ρ', e, s⟩ := Sat.to s
  subst hf
  refine h b0 B Z0 Z H σ ρ d ρ' _ ok e fun v H1 Z1 ok1 s1 r1 => ⟨v, rfl, fun dx hdx => ?_⟩
  obtain ⟨ok2, s2⟩ := ok1.new (o := .xd [(fld c, v)]) hdx
  exact s σ _ _ C dx v ok2 hc upd_same (r1.mono s2)
end
end DL

/-! DLy: the try over data; isinstance, fields and making of exceptions. -/
namespace DL
open PySem PySem.Spec PyProof.Rows L2
/-! ### the table of classes -/
def baseT : List (Str × List Str) := [("NoPerson", ["LookupError"]), ("NoPlace", ["LookupError"]), ("NoNumber", ["LookupError"]), ("NoDeed", ["LookupError"]), ("OtherPeople", ["ValueError"]), ("NotWay", ["ValueError"]), ("BadDeed", ["ValueError"]), ("BadText", ["ValueError"]), ("BadLine", ["ValueError"]), ("Barred", ["RuntimeError"]), ("TooMany", ["OverflowError", "ArithmeticError"]), ("Full", ["OverflowError", "ArithmeticError"])]
def subC (c t : Str) : Bool := t == c || ((baseT.lookup c).getD []).contains t || t == "Exception" || t == "BaseException"
def valOf (K : PySem.W.Frag) (T : Str) : Option Value := match PySem.W.nsIn K mainGlobals T with
  | some (some u) => some u
  | some none => bootBuiltins T
  | none => none
def exB (K : PySem.W.Frag) (c : Str) : Bool := match PySem.W.nsIn K mainGlobals c with
  | some (some (.ref C)) => (PySem.W.clsIn K C).isSome && (decide (PySem.W.findIn K (.ref C) "__getattribute__" = some (some (.builtin "BaseException.__getattribute__"))) && (decide (PySem.W.findIn K (.ref C) "__getattr__" = some none) && (decide (PySem.W.subIn K (.ref C) (.type "BaseException") = some true) &&
    (decide (PySem.W.findIn K (.ref C) "__class__" = some (some (.builtin "object.__class__"))) && (decide (PySem.W.specialIn K (.builtin "object.__class__") "__get__" = some (some (.builtin "getset_descriptor.__get__"))) && (decide (PySem.W.takesIn K (.builtin "object.__class__") = some true) &&
    (decide (PySem.W.mroIn K C (.type "object") = some true) && (PySem.W.hasDictIn K C && decide (PySem.W.findIn K (.ref C) (fld c) = some none)))))))))
  | _ => false
structure ExF (K : PySem.W.Frag) (c : Str) (C : Addr) : Prop where
  cl : (PySem.W.clsIn K C).isSome = true
  ga : PySem.W.findIn K (.ref C) "__getattribute__" = some (some (.builtin "BaseException.__getattribute__"))
  gg : PySem.W.findIn K (.ref C) "__getattr__" = some none
  sb : PySem.W.subIn K (.ref C) (.type "BaseException") = some true
  fc : PySem.W.findIn K (.ref C) "__class__" = some (some (.builtin "object.__class__"))
  sp : PySem.W.specialIn K (.builtin "object.__class__") "__get__" = some (some (.builtin "getset_descriptor.__get__"))
  tk : PySem.W.takesIn K (.builtin "object.__class__") = some true
  mr : PySem.W.mroIn K C (.type "object") = some true
  hd : PySem.W.hasDictIn K C = true
  no : PySem.W.findIn K (.ref C) (fld c) = some none
theorem exB_ok {K : PySem.W.Frag} {c : Str} {C : Addr} (h : exB K c = true) (hc : Cls K c C) : ExF K c C := by
  unfold exB at h
  rw [show PySem.W.nsIn K mainGlobals c = some (some (.ref C)) from hc] at h
  simp only [Bool.and_eq_true, decide_eq_true_eq] at h
  obtain ⟨a, b, c, d, e, f, g, i, j, k⟩ := h
  exact ⟨a, b, c, d, e, f, g, i, j, k⟩
def etB (K : PySem.W.Frag) (Cs Ts : List Str) : Bool := Cs.all (exB K) && Ts.all fun T => match valOf K T with
  | some u => decide (PySem.W.kitOne K (.type "NoneType") u = some false) && Cs.all fun c => match PySem.W.nsIn K mainGlobals c with
    | some (some (.ref C)) => decide (PySem.W.kitOne K (.ref C) u = some (subC c T)) && decide (PySem.W.exmOne K (.ref C) u = some (subC c T))
    | _ => false
  | none => false
section
variable {K : PySem.W.Frag} {Cs Ts : List Str}
theorem et_cls {c : Str} {C : Addr} (h : etB K Cs Ts = true) (hc : c ∈ Cs) (hC : Cls K c C) : ExF K c C := by
  unfold etB at h
  rw [Bool.and_eq_true] at h
  exact exB_ok (List.all_eq_true.mp h.1 c hc) hC
theorem et_non {T : Str} {u : Value} (h : etB K Cs Ts = true) (hT : T ∈ Ts) (hu : valOf K T = some u) : PySem.W.kitOne K (.type "NoneType") u = some false := by
  unfold etB at h
  rw [Bool.and_eq_true] at h
  have := List.all_eq_true.mp h.2 T hT
  rw [hu] at this
  simp only [Bool.and_eq_true, decide_eq_true_eq] at this
  exact this.1
theorem et_sub {T c : Str} {u : Value} {C : Addr} (h : etB K Cs Ts = true) (hT : T ∈ Ts) (hu : valOf K T = some u) (hc : c ∈ Cs) (hC : Cls K c C) : PySem.W.kitOne K (.ref C) u = some (subC c T) ∧ PySem.W.exmOne K (.ref C) u = some (subC c T) := by
  unfold etB at h
  rw [Bool.and_eq_true] at h
  have := List.all_eq_true.mp h.2 T hT
  rw [hu] at this
  simp only [Bool.and_eq_true] at this
  have := List.all_eq_true.mp this.2 c hc
  rw [show PySem.W.nsIn K mainGlobals c = some (some (.ref C)) from hC] at this
  simp only [Bool.and_eq_true, decide_eq_true_eq] at this
  exact this
end
/-- the values of classes by their names -/
inductive VTs (K : PySem.W.Frag) : List Str → List V → List Value → Prop
  | nil : VTs K [] [] []
  | cons {T : Str} {cv : V} {u : Value} {Ts : List Str} {cvs : List V} {us : List Value} (h : ClsV cv u) (e : valOf K T = some u) (r : VTs K Ts cvs us) : VTs K (T :: Ts) (cv :: cvs) (u :: us)
theorem vt_own {K : PySem.W.Frag} {c : Str} {C : Addr} {Ts : List Str} {cvs : List V} {us : List Value} (h : Cls K c C) (r : VTs K Ts cvs us) : VTs K (c :: Ts) (.ref C :: cvs) (.ref C :: us) :=
  .cons (.own C) (by unfold valOf; rw [show PySem.W.nsIn K mainGlobals c = some (some (.ref C)) from h]) r
theorem vt_ty {K : PySem.W.Frag} {T : Str} {n : String} {Ts : List Str} {cvs : List V} {us : List Value} (h : PySem.W.nsIn K mainGlobals T = some none) (hb : bootBuiltins T = some (.type n)) (r : VTs K Ts cvs us) : VTs K (T :: Ts) (.ty n :: cvs) (.type n :: us) :=
  .cons (.ty n) (by unfold valOf; rw [h]; exact hb) r
section
variable {X : Cx} {K : PySem.W.Frag} {Wx : WX} {ta tb te : TE} {tt : TT} {tas tks : TA} {t u : TS} {b0 : Option Addr} {B Z0 Z H : Hp} {σ : L2.St} {ρ : Rho} {Cs Ts Us : List Str}
theorem VTs.paired : ∀ {Ts : List Str} {cvs : List V} {us : List Value}, VTs K Ts cvs us → Paired ClsV cvs us
  | _, _, _, .nil => .nil
  | _, _, _, .cons h _ r => .cons h (VTs.paired r)
theorem VTs.len : ∀ {Ts : List Str} {cvs : List V} {us : List Value}, VTs K Ts cvs us → cvs.length = Ts.length
  | _, _, _, .nil => rfl
  | _, _, _, .cons h _ r => by rw [List.length_cons, List.length_cons, VTs.len r]
theorem VTs.non (et : etB K Cs Us = true) : ∀ {Ts : List Str} {cvs : List V} {us : List Value}, VTs K Ts cvs us → (∀ T ∈ Ts, T ∈ Us) → PySem.W.kitAny K (.type "NoneType") us = some false
  | _, _, _, .nil, _ => rfl
  | _, _, _, .cons h e r, s => kitAny_cons (et_non et (s _ List.mem_cons_self) e) (fun _ => VTs.non et r fun T hT => s T (List.mem_cons_of_mem _ hT)) fun z => nomatch z
theorem VTs.any (et : etB K Cs Us = true) {c : Str} {C : Addr} (hc : c ∈ Cs) (hC : Cls K c C) : ∀ {Ts : List Str} {cvs : List V} {us : List Value}, VTs K Ts cvs us → (∀ T ∈ Ts, T ∈ Us) → PySem.W.kitAny K (.ref C) us = some (Ts.any (subC c)) ∧ PySem.W.exmAny K (.ref C) us = some (Ts.any (subC c))
  | _, _, _, .nil, _ => ⟨rfl, rfl⟩
  | _, _, _, .cons (T := T) (Ts := Ts) h e r, s => by
    obtain ⟨e1, e2⟩ := et_sub et (s _ List.mem_cons_self) e hc hC
    obtain ⟨i1, i2⟩ := VTs.any et hc hC r fun T hT => s T (List.mem_cons_of_mem _ hT)
    rw [List.any_cons]
    refine ⟨?_, ?_⟩
    · cases q : subC c T with
      | true => rw [q] at e1; exact kitAny_cons e1 (fun z => nomatch z) fun _ => rfl
      | false => rw [q] at e1; exact kitAny_cons e1 (fun _ => by rw [Bool.false_or]; exact i1) fun z => nomatch z
    · unfold PySem.W.exmAny
      rw [e2, i2]
/-! ### isinstance -/
inductive TyE (K : PySem.W.Frag) (H : Hp) : V → Value → Prop
  | non : TyE K H .non (.type "NoneType")
  | exc {a C d : Addr} {c : Str} {fs : List (Str × V)} (e : H a = some (exk a C d)) (ed : H d = some (.xd fs)) (f : ExF K c C) : TyE K H (.ref a) (.ref C)
def rIsX (K : PySem.W.Frag) : List V → Hp → VK → Prop := fun xs H Q => ∃ (x c : V) (t u : Value) (b : Bool), xs = [x, c] ∧ ClsV c u ∧ TyE K H x t ∧ PySem.W.kitOne K t u = some b ∧ Q (.bl b) H
def rIsXT (K : PySem.W.Frag) : List V → Hp → VK → Prop := fun xs H Q => ∃ (x : V) (tp : Addr) (cs : List V) (t : Value) (us : List Value) (b : Bool), xs = [x, .ref tp] ∧ H tp = some (.tup cs) ∧ Paired ClsV cs us ∧ TyE K H x t ∧ PySem.W.kitAny K t us = some b ∧ Q (.bl b) H
theorem kitE_of {pins : List (Addr × Obj)} {s : Shared} {x : V} {u t : Value} (I : Inv X pins σ H s) (rx : RelV x u) (ty : TyE X.K H x t) : ∃ P : Heap → Prop, PySem.W.KitX X.K u t P ∧ P s.heap ∧ u ≠ .builtin "__main__.__loader__#opaque" := by
  cases ty with
  | non => cases (show u = Value.none from rx); exact ⟨_, PySem.W.kitx_none, True.intro, fun z => nomatch z⟩
  | @exc a C d c fs ea ed f =>
    cases (show u = Value.ref a from rx)
    obtain ⟨oe, vs, h1, h2, h3⟩ := exk_at I.hok ea
    obtain ⟨mA, ⟨o, es, ep, ho, _⟩, _⟩ := (show ObjOk X.prog X.w H s.heap d (.xd fs) from I.hok d _ ed)
    have J : PySem.W.InstAt s.heap a oe C (some o) := ⟨h1, h2.1, by unfold PySem.W.notCls; rw [h3] <;> rfl, by rw [h2.2]; exact ho⟩
    exact ⟨_, PySem.W.kitx_exc f.cl f.ga f.gg f.sb f.fc f.sp f.tk f.mr, J, fun z => nomatch z⟩
theorem call_isX : CallR X (.builtin "isinstance") (rIsX X.K) := by
  intro pins s σ H xs us Q I r h
  obtain ⟨x, c, t, u, b, rfl, k, ty, e, q⟩ := h
  obtain ⟨u1, u2, rfl, r1, r2⟩ := vals2 r
  have e2 := k.eq r2
  subst e2
  obtain ⟨P, Zk, p, hx⟩ := kitE_of I r1 ty
  exact PySem.W.kia_one Zk I.kIn p e hx fun tk => ⟨.bl b, H, I.tok tk, rfl, q⟩
theorem call_isXT : CallR X (.builtin "isinstance") (rIsXT X.K) := by
  intro pins s σ H xs us Q I r h
  obtain ⟨x, tp, cs, t, ws, b, rfl, hT, k, ty, e, q⟩ := h
  obtain ⟨u1, u2, rfl, r1, r2⟩ := vals2 r
  cases (show u2 = Value.ref tp from r2)
  obtain ⟨P, Zk, p, hx⟩ := kitE_of I r1 ty
  obtain ⟨_, its, rv, o, h1, h2, n, h3⟩ := (show ObjOk X.prog X.w H s.heap tp (.tup cs) from I.hok tp _ hT)
  have e3 := ClsV.all k rv
  subst e3
  obtain ⟨oc, od, dt, sl⟩ := o
  simp only at h2 h3
  subst h2 h3
  exact PySem.W.kia_tup Zk I.kIn p h1 e hx fun tk => ⟨.bl b, H, I.tok tk, rfl, q⟩
/-- isinstance(x, one of Ts), x None or an exception of a class in Cs -/
def isX (Cs Ts : List Str) : D → Option D
  | .none => some (.bool false)
  | .dict [(.none, .str c), (.none, _)] => if Cs.contains c then some (.bool (Ts.any (subC c))) else none
  | _ => none
theorem isX_ty {us : List Value} {cvs : List V} {v : V} {d c : D} {b : Option D} (et : etB K Cs Us = true) (vt : VTs K Ts cvs us) (sub : ∀ T ∈ Ts, T ∈ Us) (s : Same Z H) (h : Bd K Z H v d) (e : isX Cs Ts d = some c) : ∃ t b, c = .bool b ∧ TyE K H v t ∧ PySem.W.kitAny K t us = some b := by
  unfold isX at e
  split at e
  · cases e; cases h
    exact ⟨_, false, rfl, .non, vt.non et sub⟩
  · rename_i c' p
    split at e
    · rename_i hc
      cases e
      cases h with
      | exc h1 h2 h3 r =>
        have hm : c' ∈ Cs := List.elem_iff.mp hc
        exact ⟨_, _, rfl, .exc (s _ _ h1) (s _ _ h2) (et_cls et hm h3), (vt.any et hm h3 sub).1⟩
    · cases e
  · cases e
theorem de_isX {T : Str} {cv : V} {us : List Value} {g : GO} (et : etB K Cs Us = true) (vt : VTs K [T] [cv] us) (sub : ∀ T' ∈ [T], T' ∈ Us) (h : DO K te g) : DE K (tCB (rIsX K) (tCons te (tCons (tC cv) tNil))) (eOp1 (isX Cs [T]) g) := fun b0 B Z0 Z H σ ρ d ρ' Q ok e q => by
  obtain ⟨x, a, e1, e3, e5⟩ := op1_ok e
  refine h b0 B Z0 Z H σ ρ x ρ' _ ok e1 fun v H1 Z1 ok1 s1 r1 => ?_
  obtain ⟨t, b, rfl, ty, ka⟩ := isX_ty (b := none) et vt sub ok1.zh (ok1.bd r1 e3) e5
  cases vt with
  | @cons _ _ u0 _ _ _ hc _ r =>
    cases r
    have k1 : PySem.W.kitOne K t u0 = some b := by
      unfold PySem.W.kitAny at ka
      split at ka
      · rename_i hk; cases ka; exact hk
      · rename_i hk; cases ka; exact hk
      · cases ka
    exact ⟨v, cv, t, u0, b, rfl, hc, ty, k1, q _ H1 Z1 ok1 s1 (.bl b)⟩
def tVs : List V → TA
  | [] => tNil
  | v :: r => tCons (tC v) (tVs r)
theorem tVs_run {Q : List V → Hp → Prop} : ∀ (cvs : List V), Q cvs H → tVs cvs σ H Q
  | [], h => h
  | v :: r, h => tVs_run (Q := fun xs H2 => Q (v :: xs) H2) r h
theorem de_isXT {cvs : List V} {us : List Value} {g : GO} (et : etB K Cs Us = true) (vt : VTs K Ts cvs us) (sub : ∀ T ∈ Ts, T ∈ Us) (hl : Ts.length ≤ sizeLine) (h : DO K te g) : DE K (tCB (rIsXT K) (tCons te (tCons (tTup (tVs cvs)) tNil))) (eOp1 (isX Cs Ts) g) := fun b0 B Z0 Z H σ ρ d ρ' Q ok e q => by
  obtain ⟨x, a, e1, e3, e5⟩ := op1_ok e
  refine h b0 B Z0 Z H σ ρ x ρ' _ ok e1 fun v H1 Z1 ok1 s1 r1 => ?_
  refine tVs_run (Q := fun xs H2 => xs.length ≤ sizeLine ∧ ∀ p, H2 p = none → _) cvs ⟨by rw [vt.len]; exact hl, fun p hp => ?_⟩
  obtain ⟨ok2, zp, bp, ap⟩ := ok1.fresh (o := .tup cvs) hp
  obtain ⟨t, b, rfl, ty, ka⟩ := isX_ty (b := none) et vt sub ok2.zh (ok2.bd r1 e3) e5
  exact ⟨v, p, cvs, t, us, b, rfl, upd_same, vt.paired, ty, ka, q _ _ Z1 ok2 s1 (.bl b)⟩
/-! ### e.f -/
def tXF (K : PySem.W.Frag) (f : Str) (te : TE) : TE := fun σ H Q => te σ H fun x H1 => ∃ (a C d : Addr) (c : Str) (v : V), x = .ref a ∧ ExF K c C ∧ fld c = f ∧ H1 a = some (exk a C d) ∧ H1 d = some (.xd [(f, v)]) ∧ Q v H1
theorem pe_xF {e : Expr} {n : Str} {pos : Pos} (he : PE X e te) (hb : attributeBase e n X.env (eval e X.env) = eval e X.env := by rfl) : PE X (.Attribute e n pos) (tXF X.K n te) := by
  refine ⟨fun pins s σ H Q I h => attr_of hb (thn (he.run pins s σ H _ I h) fun u s1 hh => ?_)⟩
  obtain ⟨x, H1, I1, rx, a, C, d, c, v, rfl, f, rfl, ea, ed, q⟩ := hh
  obtain rfl : u = Value.ref a := rx
  obtain ⟨oe, vs, h1, h2, h3⟩ := exk_at I1.hok ea
  obtain ⟨mA, hns, hr⟩ := (show ObjOk X.prog X.w H1 s1.heap d (.xd [(fld c, v)]) from I1.hok d _ ed)
  obtain ⟨od, ho, hl⟩ := lookIn_ns hns
  have l : List.lookup (fld c) [(fld c, v)] = some v := by simp [List.lookup]
  obtain ⟨u, hu, ru⟩ := RelO.some_of (v := v) (o := mA (fld c)) (by rw [← l]; exact hr (fld c))
  have J : PySem.W.InstAt s1.heap a oe C (some od) := ⟨h1, h2.1, by unfold PySem.W.notCls; rw [h3] <;> rfl, by rw [h2.2]; exact ho⟩
  exact HandSPX.exc_get I1.kIn J f.ga f.gg f.sb (PySem.W.findObj_own f.hd f.no rfl (by rw [hl, hu])) (handed_of ru) ⟨v, H1, I1.tok _, ru, q⟩
def fldD (Cs : List Str) (f : Str) : D → Option D
  | .dict [(.none, .str c), (.none, p)] => if Cs.contains c && fld c == f then some p else none
  | _ => none
theorem de_xF {f : Str} {g : GO} (et : etB K Cs Us = true) (h : DO K te g) : DE K (tXF K f te) (eOp1 (fldD Cs f) g) := fun b0 B Z0 Z H σ ρ d ρ' Q ok e q => by
  obtain ⟨x, a, e1, e3, e5⟩ := op1_ok e
  refine h b0 B Z0 Z H σ ρ x ρ' _ ok e1 fun v H1 Z1 ok1 s1 r1 => ?_
  have bd := ok1.bd r1 e3
  unfold fldD at e5
  split at e5
  · rename_i c p
    split at e5
    · rename_i hc
      cases e5
      rw [Bool.and_eq_true] at hc
      cases bd with
      | exc h1 h2 h3 r =>
        have ef : fld c = f := by simpa using hc.2
        subst ef
        exact ⟨_, _, _, c, _, rfl, et_cls et (List.elem_iff.mp hc.1) h3, rfl, ok1.zh _ _ h1, ok1.zh _ _ h2, q _ H1 Z1 ok1 s1 r⟩
    · cases e5
  · cases e5
/-! ### C(e) as a value -/
def eMk (c : Str) (g : GE) (ρ : Rho) : R D := (g ρ).map fun d => excD c d
theorem de_mk {c f : Str} {C : Addr} {g : GE} (hc : Cls K c C) (hf : f = fld c) (h : DE K te g) : DE K (tMkV C f (tCons te tNil)) (eMk c g) := fun b0 B Z0 Z H σ ρ d ρ' Q ok e q => by
  obtain ⟨p, e1, rfl⟩ := R.map_ok e
  subst hf
  refine h b0 B Z0 Z H σ ρ p ρ' _ ok e1 fun v H1 Z1 ok1 s1 r1 => ⟨v, rfl, fun a dx ha hd ne => ?_⟩
  obtain ⟨ok2, s2⟩ := ok1.new (o := .xd [(fld c, v)]) hd
  obtain ⟨ok3, s3⟩ := ok2.new (o := exk a C dx) (show upd H1 dx _ a = none by rw [upd_ne ne.symm]; exact ha)
  exact q _ _ _ ok3 ((s1.trans s2).trans s3) (.exc upd_same (s3 _ _ upd_same) hc ((r1.mono s2).mono s3))
/-! ### the try -/
def sKeep (Cs Ts : List Str) (i j : Nat) (g : GS) (ρ : Rho) : O := match g ρ with
  | .ex c d ρ1 => if Cs.contains c then (if Ts.any (subC c) then .nx ((ρ1.set j (.sh (excD c d))).set i .no) else .ex c d ρ1) else .bad
  | o => o
theorem ds_keep {cvs : List V} {us : List Value} {i j : Nat} {tb : WX → TS} {g : GS} (et : etB K Cs Us = true) (vt : VTs K Ts cvs us) (sub : ∀ T ∈ Ts, T ∈ Us) (hij : i ≠ j) (h : ∀ W, DS K W (tb W) g) : DS K Wx (fun D σ H => tb (wKeep K us i j Wx D) D σ H) (sKeep Cs Ts i j g) := fun b0 B Z0 Z H σ ρ E ok s => by
  refine h _ b0 B Z0 Z H σ ρ E ok ?_
  unfold sKeep at s
  cases e : g ρ with
  | ex c d ρ1 =>
    rw [e] at s
    dsimp only at s
    split at s
    · rename_i hc
      intro σ' H' Z' C dx v ok' hC hx r
      have hm : c ∈ Cs := List.elem_iff.mp hc
      refine ⟨_, (vt.any et hm hC sub).2, fun hb => ⟨C, dx, rfl, rfl, fun a ha => ?_⟩, fun hb => ?_⟩
      · rw [hb] at s
        simp only [if_true] at s
        obtain ⟨ok2, s2⟩ := ok'.new (o := exk a C dx) ha
        have ok3 := ok2.put (i := j) (v := .ref a) (d := excD c d) (.exc upd_same (s2 _ _ hx) hC (r.mono s2))
        have ok4 := Ok.putAny (i := i) (x := none) ok3
        have es : ((σ'.set i (some (.ref a))).set j (some (.ref a))).set i none = (σ'.set j (some (.ref a))).set i none := by
          rw [List.set_comm _ _ hij, List.set_set]
        rw [es]
        exact s _ _ _ ok4
      · rw [hb] at s
        simp only [Bool.false_eq_true, if_false] at s
        exact s σ' H' Z' C dx v ok' hC hx r
    · exact s.elim
  | nx ρ1 => rw [e] at s; exact s
  | rt d ρ1 => rw [e] at s; exact s
  | rf ds ρ1 => rw [e] at s; exact s
  | bk ρ1 => rw [e] at s; exact s
  | ct ρ1 => rw [e] at s; exact s
  | bad => rw [e] at s; exact s
end
end DL

/-! DLz: sorted of a list or tuple of ints. -/
namespace DLX
open PySem PyProof.Rows Srt SrtO
section
variable {prog : Program} {w : World} {A : Around} {E : Value → Shared → Prop} {s : Shared}
theorem collect_tup {l : Addr} {vs : List Value} {Q : List Value → Shared → Prop} (hl : s.heap.IsTuple l vs.toArray)
    (h : Q vs { s with heap := (s.heap.push (seqObj "list" #[] 0)).update s.heap.objs.size (Obj.mapSeq (· ++ vs.toArray)) }) (hsz : vs.length ≤ sizeLine) : wpAny (model prog w) A (collect (.ref l)) Q E s := by
  obtain ⟨o, ho, hc, n, hd⟩ := id hl
  unfold collect
  refine wpAny_bind (wpAny_runValue (codeAny_builtin entry_proto_collect' ?_))
  show wpAny _ _ (do again (.builtin "list.__iadd__" ⟨[← newList [], .ref l], []⟩)) _ _ s
  refine wpAny_bind (wpAny_newList (wpAny_pure ⟨Code.quiet_builtin _ (by decide +kernel), codeAny_builtin entry_list_iadd' ?_⟩))
  show wpAny _ _ (Builtin.List.listExtendWith (.ref s.heap.objs.size) (.ref l) (.ref s.heap.objs.size)) _ _ { s with heap := s.heap.push (seqObj "list" #[] 0) }
  unfold Builtin.List.listExtendWith
  have ho' : (s.heap.push (seqObj "list" #[] 0)).get? l = some o := Heap.get?_push_of_some _ ho
  refine wpAny_bind (wpAny_typeOf (T := "tuple") ⟨o, ho', hc⟩ ?_)
  rw [if_pos (by rw [show (Value.type "tuple" == Value.type "tuple") = true from rfl]; simp)]
  refine wpAny_bind (listItems_at ho' hd (wpAny_bind (listItems_at (xs := #[]) (n := 0) (Heap.get?_push_size _ rfl) rfl ?_)))
  rw [if_neg (by simp)]
  refine wpAny_bind (listUpdate_at (xs := #[]) (n := 0) (Heap.get?_push_size _ rfl) rfl (wpAny_pure ?_) (Nat.zero_le _) (by show (#[] ++ vs.toArray).size ≤ sizeLine + 1; simp only [Array.size_append, List.size_toArray, List.length_nil]; omega))
  show wpAny (model prog w) A (do
      let o ← load s.heap.objs.size
      match o.data with
      | .seq xs _ => pure xs.toList
      | _ => unsupported "internal:collect") Q E { s with heap := (s.heap.push (seqObj "list" #[] 0)).update s.heap.objs.size (Obj.mapSeq (· ++ vs.toArray)) }
  refine wpAny_bind (wpAny_load (get?_update_seq (Heap.get?_push_size _ rfl) _) ?_)
  show wpAny _ _ (pure ((#[] : Array Value) ++ vs.toArray).toList) Q E _
  rw [show ((#[] : Array Value) ++ vs.toArray).toList = vs by simp]
  exact wpAny_pure h
/-- sorted(t), t a tuple -/
theorem sorted_tup {l : Addr} {vs : List Value} {ltv : Value → Value → Bool} {Q : Value → Shared → Prop} (O : Swo ltv) (hl : s.heap.IsTuple l vs.toArray) (hz : vs.length ≤ sizeLine)
    (hS : 2 ≤ vs.length → ∀ (h₁ : Heap) (a : Addr), h₁.get? a = some (seqObj "list" vs.toArray 0) → (∀ b o, s.heap.get? b = some o → b ≠ a ∧ h₁.get? b = some o) → SortableO prog w A.in1.in1 { s with heap := h₁ } a vs ltv)
    (h : ∀ out : List Value, Srtd ltv out → Stb ltv out vs → Q (.ref (s.heap.objs.size + 1)) { s with heap := sortedAll s.heap vs out.toArray }) : wpAny (model prog w) A (call (.builtin "sorted") [.ref l]) Q E s := by
  refine Calls.call_function_entry kind_sorted plain_sorted entry_sorted (args_sorted1 _) ?_
  unfold Builtin.«sorted»
  refine wpAny_bind (m := checkCount "sorted" 1 1 _) (wpAny_pure (wpAny_bind (collect_tup hl (wpAny_bind (wpAny_newList ?_ hz)) hz)))
  have hsz : ((s.heap.push (seqObj "list" #[] 0)).update s.heap.objs.size (Obj.mapSeq (· ++ vs.toArray))).objs.size = s.heap.objs.size + 1 := by rw [Heap.size_update, size_push']
  have hoL : (((s.heap.push (seqObj "list" #[] 0)).update s.heap.objs.size (Obj.mapSeq (· ++ vs.toArray))).push (seqObj "list" vs.toArray 0)).get? (s.heap.objs.size + 1) = some (seqObj "list" vs.toArray 0) := by rw [← hsz]; exact Heap.get?_push_size _ rfl
  have keep : ∀ b o, s.heap.get? b = some o → b ≠ s.heap.objs.size + 1 ∧ (((s.heap.push (seqObj "list" #[] 0)).update s.heap.objs.size (Obj.mapSeq (· ++ vs.toArray))).push (seqObj "list" vs.toArray 0)).get? b = some o := fun b o q => by
    have hlt : b < s.heap.objs.size := Heap.lt_size q
    exact ⟨Nat.ne_of_lt (Nat.lt_succ_of_lt hlt), Heap.get?_push_of_some _ (by rw [Heap.get?_update_ne _ _ _ _ (Nat.ne_of_lt hlt)]; exact Heap.get?_push_of_some _ q)⟩
  show wpAny _ _ _ _ _ { s with heap := ((s.heap.push (seqObj "list" #[] 0)).update s.heap.objs.size (Obj.mapSeq (· ++ vs.toArray))).push (seqObj "list" vs.toArray 0) }
  rw [hsz]
  refine wpAny_bind (wpAny_holding (wpAny_call_entry slot_list_sort ⟨_, hoL, rfl⟩ entry_list_sort (list_sort_ord O hoL hz (fun h2 => hS h2 _ _ hoL keep) fun out hs hb => ⟨_, rfl, ?_⟩) (args_list_sort _)))
  exact wpAny_pure ⟨_, rfl, h out hs hb⟩
end
end DLX
namespace DL
open PySem PySem.Spec PyProof.Rows L2
def rSortQ (K : PySem.W.Frag) : List V → Hp → VK → Prop := fun vs H Q => ∃ (a : Addr) (ns : List Int), vs = [V.ref a] ∧ (SqL K H a (ns.map V.int) ∨ SqT K H a (ns.map V.int)) ∧
  ∀ (ns' : List Int) (p : Addr), ns'.Perm ns → ns'.Pairwise (· ≤ ·) → H p = none → Q (.ref p) (upd H p (.lst (ns'.map V.int)))
section
variable {X : Cx} {K : PySem.W.Frag}
theorem cr_sortedU : CallR X (.builtin "sorted") (rSortQ X.K) := by
  intro pins s σ H vs us Q I r h
  obtain ⟨a, ns, rfl, hs | hs, q⟩ := h
  · exact cr_sortedI pins s σ H [.ref a] us Q I r ⟨a, ns, rfl, hs, q⟩
  · obtain ⟨its, rv, hl, hz⟩ := I.tuple hs
    rw [Vals.ref1 r]
    have hi := rv.ints
    have hT : s.heap.IsTuple a its.toArray := hl
    refine DLX.sorted_tup SrtO.swo_int hT (by rw [← rv.length]; exact hz) (fun h2 h₁ a' _ _ => SrtO.ints_sortable hi h2) fun out h1 h2 => ?_
    obtain ⟨k1, k2, k3⟩ := SrtO.ints_out hi h1 h2
    obtain ⟨ep, he'⟩ := PyProof.Rows.sortedAll_at s.heap its out.toArray
    have hlen : ((out.map SrtO.iv).map V.int).length ≤ sizeLine := by
      rw [List.length_map, k2.length_eq]
      rw [List.length_map] at hz; exact hz
    exact ⟨.ref _, upd H (s.heap.objs.size + 1) (.lst ((out.map SrtO.iv).map V.int)), I.laid (t' := s.toks) (fun _ _ => PyProof.Rows.sortedAll_old) (Nat.le_succ _) ⟨hlen, out, ep, vals_of_ints k1, he'⟩, rfl, q _ _ k2 k3 (I.hok.fresh (Nat.le_succ _))⟩
/-! ints in order -/
def insI (x : Int) : List Int → List Int
  | [] => [x]
  | y :: r => if x ≤ y then x :: y :: r else y :: insI x r
def srtI : List Int → List Int
  | [] => []
  | x :: r => insI x (srtI r)
theorem insI_perm (x : Int) : ∀ l : List Int, (insI x l).Perm (x :: l)
  | [] => .refl _
  | y :: r => by
    unfold insI
    split
    · exact .refl _
    · exact ((insI_perm x r).cons y).trans (.swap x y r)
theorem srtI_perm : ∀ l : List Int, (srtI l).Perm l
  | [] => .refl _
  | x :: r => (insI_perm x _).trans ((srtI_perm r).cons x)
theorem insI_pw (x : Int) : ∀ {l : List Int}, l.Pairwise (· ≤ ·) → (insI x l).Pairwise (· ≤ ·)
  | [], _ => by simp [insI]
  | y :: r, h => by
    unfold insI
    have h' := List.pairwise_cons.mp h
    split
    · rename_i hx
      refine List.pairwise_cons.mpr ⟨fun z hz => ?_, h⟩
      rcases List.mem_cons.mp hz with rfl | hz
      · exact hx
      · exact Int.le_trans hx (h'.1 z hz)
    · rename_i hx
      refine List.pairwise_cons.mpr ⟨fun z hz => ?_, insI_pw x h'.2⟩
      rcases List.mem_cons.mp ((insI_perm x r).mem_iff.mp hz) with rfl | hz
      · omega
      · exact h'.1 z hz
theorem srtI_pw : ∀ l : List Int, (srtI l).Pairwise (· ≤ ·)
  | [] => .nil
  | x :: r => insI_pw x (srtI_pw r)
theorem pw_eq : ∀ {l m : List Int}, l.Perm m → l.Pairwise (· ≤ ·) → m.Pairwise (· ≤ ·) → l = m
  | [], m, p, _, _ => (List.nil_perm.mp p).symm
  | x :: l, [], p, _, _ => by simp at p
  | x :: l, y :: m, p, h1, h2 => by
    have a := List.pairwise_cons.mp h1
    have b := List.pairwise_cons.mp h2
    have e : x = y := by
      have hx : x ∈ y :: m := p.mem_iff.mp List.mem_cons_self
      have hy : y ∈ x :: l := p.mem_iff.mpr List.mem_cons_self
      rcases List.mem_cons.mp hx with e | hx
      · exact e
      · rcases List.mem_cons.mp hy with e | hy
        · exact e.symm
        · exact Int.le_antisymm (a.1 y hy) (b.1 x hx)
    subst e
    rw [pw_eq (List.Perm.cons_inv p) a.2 b.2]
theorem srt_unique {l m : List Int} (p : m.Perm l) (h : m.Pairwise (· ≤ ·)) : m = srtI l := pw_eq (p.trans (srtI_perm l).symm) h (srtI_pw l)
def sortedD : List D → Option (List D)
  | [.list ds] => (intsOf ds).map fun ns => (srtI ns).map .int
  | [.tuple ds] => (intsOf ds).map fun ns => (srtI ns).map .int
  | _ => none
theorem sn_sorted : SnAF K (rSortQ K) sortedD := fun b0 B Z0 Z H σ ρ xs as c Q ok ra e q => by
  have fin : ∀ {a : Addr} {vs : List V} {ds : List D}, (SqL K H a vs ∨ SqT K H a vs) → RpA K Z vs ds → (intsOf ds).map (fun ns => (srtI ns).map PyData.int) = some c → rSortQ K [.ref a] H Q := fun {a vs ds} hs r e => by
    obtain ⟨ns, e1, rfl⟩ := Option.map_eq_some_iff.mp e
    rw [intsOf_eq e1] at r
    rw [RpA.of_ints r] at hs
    refine ⟨a, ns, rfl, hs, fun ns' p hp hw hn => ?_⟩
    rw [srt_unique hp hw]
    obtain ⟨ok2, zp, bp, ap⟩ := ok.fresh (o := .lst ((srtI ns).map V.int)) hn
    exact q p _ _ ok2 zp bp ap upd_same (RpA.ints _)
  unfold sortedD at e
  split at e
  · cases ra with
    | cons h r =>
      cases r
      cases h with
      | lst h1 r1 => exact fin (.inl (.inl (.inl h1))) r1 e
  · cases ra with
    | cons h r =>
      cases r
      cases h with
      | tup h1 r1 => exact fin (.inr (same_t ok.zh h1)) r1 e
  · cases e
end
end DL

/-! DMa: equations for the evaluation of the mirrors. -/
namespace DL
open PySem L2
section
variable {α β : Type} {a : α} {ρ ρ1 : Rho} {c : Str} {d e : D} {x : Str} {i : Int} {b : Bool} {xs : List D} {T : String} {Ts : List String}
theorem to_ok (f : α → Rho → O) : (R.ok a ρ).to f = f a ρ := rfl
theorem toX_ok (f : α → Rho → O) : (R.ok a ρ).toX f = f a ρ := rfl
theorem toX_ex (f : α → Rho → O) : (R.ex c d ρ : R α).toX f = .ex c d ρ := rfl
theorem bind_nx (f : Rho → O) : (O.nx ρ).bind f = f ρ := rfl
theorem bind_rt (f : Rho → O) : (O.rt d ρ).bind f = .rt d ρ := rfl
theorem bind_rf (f : Rho → O) : (O.rf xs ρ).bind f = .rf xs ρ := rfl
theorem bind_ex (f : Rho → O) : (O.ex c d ρ).bind f = .ex c d ρ := rfl
theorem bind_bk (f : Rho → O) : (O.bk ρ).bind f = .bk ρ := rfl
theorem bind_ct (f : Rho → O) : (O.ct ρ).bind f = .ct ρ := rfl
theorem at_ok : (RX.ok a).at ρ = .ok a ρ := rfl
theorem at_ex : (RX.ex c d : RX α).at ρ = .ex c d ρ := rfl
theorem res_val : (Op.val d).res ρ = some d := rfl
theorem map_ex (f : α → β) : (R.ex c d ρ : R α).map f = .ex c d ρ := rfl
theorem rbind_ex (f : α → Rho → R β) : (R.ex c d ρ : R α).bind f = .ex c d ρ := rfl
theorem isiD_n : isiD T .none = (kitB "NoneType" T).map .bool := rfl
theorem isiD_b : isiD T (.bool b) = (kitB "bool" T).map .bool := rfl
theorem isiD_i : isiD T (.int i) = (kitB "int" T).map .bool := rfl
theorem isiD_s : isiD T (.str x) = (kitB "str" T).map .bool := rfl
theorem isiD_l : isiD T (.list xs) = (kitB "list" T).map .bool := rfl
theorem isiD_t : isiD T (.tuple xs) = (kitB "tuple" T).map .bool := rfl
theorem isiTD_n : isiTD Ts .none = (isiAny "NoneType" Ts).map .bool := rfl
theorem isiTD_b : isiTD Ts (.bool b) = (isiAny "bool" Ts).map .bool := rfl
theorem isiTD_i : isiTD Ts (.int i) = (isiAny "int" Ts).map .bool := rfl
theorem isiTD_s : isiTD Ts (.str x) = (isiAny "str" Ts).map .bool := rfl
theorem isiTD_l : isiTD Ts (.list xs) = (isiAny "list" Ts).map .bool := rfl
theorem isiTD_t : isiTD Ts (.tuple xs) = (isiAny "tuple" Ts).map .bool := rfl
theorem isNone_e : isNoneD (excD c d) = false := rfl
theorem isNone_s : isNoneD (.str x) = false := rfl
theorem isX_n {Cs Us : List Str} : isX Cs Us .none = some (.bool false) := rfl
theorem isX_e {Cs Us : List Str} (h : Cs.contains c = true) : isX Cs Us (excD c d) = some (.bool (Us.any (subC c))) := by
  show (if Cs.contains c then _ else _) = _
  rw [if_pos h]
theorem fldD_e {Cs : List Str} {f : Str} (h : (Cs.contains c && fld c == f) = true) : fldD Cs f (excD c d) = some d := by
  show (if Cs.contains c && fld c == f then some d else none) = _
  rw [if_pos h]
theorem sKeep_nx {Cs Us : List Str} {j k : Nat} {g : GS} (h : g ρ = .nx ρ1) : sKeep Cs Us j k g ρ = .nx ρ1 := by unfold sKeep; rw [h]
theorem sKeep_ex {Cs Us : List Str} {j k : Nat} {g : GS} (h : g ρ = .ex c d ρ1) (h1 : Cs.contains c = true) (h2 : Us.any (subC c) = true) : sKeep Cs Us j k g ρ = .nx ((ρ1.set k (.sh (excD c d))).set j .no) := by
  unfold sKeep
  rw [h]
  show (if Cs.contains c then (if Us.any (subC c) then _ else _) else _) = _
  rw [if_pos h1, if_pos h2]
theorem callP_rt {np n : Nat} {g : GS} {as : List D} (hl : as.length = np) (h : g (env0 n as) = .rt d ρ) : callP np n g as = some d := by unfold callP; rw [if_neg (fun z => z hl), h]
theorem callP_nx {np n : Nat} {g : GS} {as : List D} (hl : as.length = np) (h : g (env0 n as) = .nx ρ) : callP np n g as = some .none := by unfold callP; rw [if_neg (fun z => z hl), h]
theorem callF_rf {np n : Nat} {g : GS} {as : List D} (hl : as.length = np) (h : g (env0 n as) = .rf xs ρ) : callF np n g as = some xs := by unfold callF; rw [if_neg (fun z => z hl), h]
theorem callX_rt {np n : Nat} {g : GS} {as : List D} (hl : as.length = np) (h : g (env0 n as) = .rt d ρ) : callX np n g as = .ok d := by unfold callX; rw [if_neg (fun z => z hl), h]
theorem callX_nx {np n : Nat} {g : GS} {as : List D} (hl : as.length = np) (h : g (env0 n as) = .nx ρ) : callX np n g as = .ok .none := by unfold callX; rw [if_neg (fun z => z hl), h]
theorem callX_ex {np n : Nat} {g : GS} {as : List D} (hl : as.length = np) (h : g (env0 n as) = .ex c d ρ) : callX np n g as = .ex c d := by unfold callX; rw [if_neg (fun z => z hl), h]
theorem callXF_rf {np n : Nat} {g : GS} {as : List D} (hl : as.length = np) (h : g (env0 n as) = .rf xs ρ) : callXF np n g as = .ok xs := by unfold callXF; rw [if_neg (fun z => z hl), h]
theorem callXF_ex {np n : Nat} {g : GS} {as : List D} (hl : as.length = np) (h : g (env0 n as) = .ex c d ρ) : callXF np n g as = .ex c d := by unfold callXF; rw [if_neg (fun z => z hl), h]
end
/-! ### plain data: None, bools, ints, texts, lists and tuples of such, n deep -/
inductive Pl : Nat → D → Prop
  | none (n : Nat) : Pl n .none
  | bool (n : Nat) (b : Bool) : Pl n (.bool b)
  | int (n : Nat) (i : Int) : Pl n (.int i)
  | str (n : Nat) (x : Str) : Pl n (.str x)
  | list {n : Nat} {xs : List D} (hl : xs.length ≤ sizeLine) (h : ∀ x ∈ xs, Pl n x) : Pl (n + 1) (.list xs)
  | tuple {n : Nat} {xs : List D} (hl : xs.length ≤ sizeLine) (h : ∀ x ∈ xs, Pl n x) : Pl (n + 1) (.tuple xs)
theorem Pl.up {n : Nat} {d : D} (h : Pl n d) : Pl (n + 1) d := by
  induction h with
  | none n => exact .none _
  | bool n b => exact .bool _ b
  | int n i => exact .int _ i
  | str n x => exact .str _ x
  | list hl h ih => exact .list hl ih
  | tuple hl h ih => exact .tuple hl ih
end DL

/-! DMb: general lemmas for the plain parts. -/
namespace DL
open PySem L2
theorem eLc_ok {vs : List Nat} {gi : GF} {k : GG} {t : GT} {e : GE} {ρ ρ1 ρ2 : Rho} {ds ys : List D} (h1 : gi ρ = .ok ds ρ1) (h2 : ds.length ≤ sizeLine) (h3 : lcL vs k t e ds (wipeR ρ1 vs) = .ok ys ρ2) : eLc vs gi k t e ρ = .ok ys (wipeR ρ2 vs) := by
  unfold eLc
  rw [h1]
  show (if ds.length ≤ sizeLine then (lcL vs k t e ds (wipeR ρ1 vs)).bind fun ys ρ2 => R.ok ys (wipeR ρ2 vs) else .bad) = _
  rw [if_pos h2, h3]; rfl
theorem eL_ok {g : GF} {ρ ρ1 : Rho} {ds : List D} (h : g ρ = .ok ds ρ1) : eL g ρ = .ok (.list ds) ρ1 := by unfold eL; rw [h]; rfl
theorem sSet_ok {i : Nat} {g : GE} {ρ ρ1 : Rho} {d : D} (h : g ρ = .ok d ρ1) : sSet i g ρ = .nx (ρ1.set i (.sh d)) := by unfold sSet; rw [h]; rfl
theorem sRet_ok {g : GE} {ρ ρ1 : Rho} {d : D} (h : g ρ = .ok d ρ1) : sRet g ρ = .rt d ρ1 := by unfold sRet; rw [h]; rfl
theorem sRetF_ok {g : GF} {ρ ρ1 : Rho} {ds : List D} (h : g ρ = .ok ds ρ1) : sRetF g ρ = .rf ds ρ1 := by unfold sRetF; rw [h]; rfl
theorem seq_nx {a b : GS} {ρ ρ1 : Rho} {o : O} (h : a ρ = .nx ρ1) (h2 : b ρ1 = o) : sSeq a b ρ = o := by unfold sSeq; rw [h]; exact h2
theorem seq_rt {a b : GS} {ρ ρ1 : Rho} {d : D} (h : a ρ = .rt d ρ1) : sSeq a b ρ = .rt d ρ1 := by unfold sSeq; rw [h]; rfl
theorem seq_ex {a b : GS} {ρ ρ1 : Rho} {c : Str} {d : D} (h : a ρ = .ex c d ρ1) : sSeq a b ρ = .ex c d ρ1 := by unfold sSeq; rw [h]; rfl
theorem sFor_nx {gi : GF} {k : GG} {b : GS} {ρ ρ1 ρ2 : Rho} {ds : List D} (h : gi ρ = .ok ds ρ1) (h2 : forL k b ds ρ1 = .nx ρ2) : sFor gi k b ρ = .nx ρ2 := by unfold sFor; rw [h]; exact h2
theorem sIf_t {c : GT} {a b : GS} {ρ ρ1 : Rho} {o : O} (h : c ρ = .ok true ρ1) (h2 : a ρ1 = o) : sIf c a b ρ = o := by unfold sIf; rw [h]; exact h2
theorem sIf_f {c : GT} {a b : GS} {ρ ρ1 : Rho} {o : O} (h : c ρ = .ok false ρ1) (h2 : b ρ1 = o) : sIf c a b ρ = o := by unfold sIf; rw [h]; exact h2
/-- if not e: return False, and e is True -/
theorem skip_not {g : GE} {a : GS} {ρ ρ1 : Rho} (h : g ρ = .ok (.bool true) ρ1) : sIf (tNotG (tstE g)) a sNext ρ = .nx ρ1 := by
  refine sIf_f (ρ1 := ρ1) ?_ rfl
  unfold tNotG tstE; rw [h]; rfl
theorem lc_filter {vs : List Nat} {k : GG} {t : GT} {e : GE} {ρ : Rho} (p : Int → Bool) {is : List Int} (h : ∀ i ∈ is, ∃ ρ1, k (.int i) ρ = some ρ1 ∧ wipeR ρ1 vs = ρ ∧ t ρ1 = .ok (p i) ρ1 ∧ e ρ1 = .ok (.int i) ρ1) : lcL vs k t e (is.map .int) ρ = .ok ((is.filter p).map .int) ρ := by
  have := lc_fm (vs := vs) (k := k) (t := t) (e := e) (ρ := ρ) (fun d => match d with | .int i => if p i then some (.int i) else none | _ => none) (ds := is.map PyData.int) (fun d hd => by
    obtain ⟨i, hi, rfl⟩ := List.mem_map.mp hd
    obtain ⟨ρ1, a, b, c, d⟩ := h i hi
    refine ⟨ρ1, a, b, ?_⟩
    cases hp : p i with
    | true => exact .inl ⟨.int i, by simp [hp], by rw [c, hp], d⟩
    | false => exact .inr ⟨by simp [hp], by rw [c, hp]⟩)
  rw [this]
  congr 1
  rw [List.filterMap_map]
  clear this h
  induction is with
  | nil => rfl
  | cons i r ih =>
    simp only [List.filterMap_cons, List.filter_cons, Function.comp]
    cases p i with
    | true => simp only [if_true, List.map_cons]; rw [← ih]
    | false => simp only [Bool.false_eq_true, if_false]; rw [← ih]
/-- the number at a place -/
def nat (ns : List Int) (i : Int) : Int := ns[i.toNat]?.getD 0
theorem atI_of' {α : Type} {xs : List α} {i : Int} {x : α} (h0 : 0 ≤ i) (h : xs[i.toNat]? = some x) : atI xs i = some x := atI_of (n := i.toNat) (by omega) h
theorem atI_at {ns : List Int} {i : Int} (h0 : 0 ≤ i) (h1 : i < ns.length) : atI (ns.map PyData.int) i = some (.int (nat ns i)) := by
  have hk : i.toNat < ns.length := by omega
  refine atI_of (n := i.toNat) (by omega) ?_
  rw [List.getElem?_map]
  unfold nat
  rw [List.getElem?_eq_getElem hk]; rfl
def rngI (lo : Int) (n : Nat) : List Int := (List.range n).map fun i : Nat => lo + (i : Int)
theorem rngI_d (lo : Int) (n : Nat) : rangeD lo n = (rngI lo n).map .int := by unfold rangeD rngI; rw [List.map_map]; rfl
theorem mem_rngI {lo i : Int} {n : Nat} (h : i ∈ rngI lo n) : lo ≤ i ∧ i < lo + n := by
  obtain ⟨k, hk, rfl⟩ := List.mem_map.mp h
  have := List.mem_range.mp hk
  omega
theorem in_rngI {lo i : Int} {n : Nat} (h0 : lo ≤ i) (h1 : i < lo + n) : i ∈ rngI lo n := List.mem_map.mpr ⟨(i - lo).toNat, List.mem_range.mpr (by omega), by omega⟩
theorem rngI_len (lo : Int) (n : Nat) : (rngI lo n).length = n := by unfold rngI; rw [List.length_map, List.length_range]
theorem rngI_succ (lo : Int) (n : Nat) : rngI lo (n + 1) = rngI lo n ++ [lo + (n : Int)] := by unfold rngI; rw [List.range_succ, List.map_append]; rfl
theorem rng1_eq {m : Int} (h0 : 0 ≤ m) (h1 : m < 2 ^ 62) : rng1 [.int m] = some (rangeD 0 m.toNat) := if_pos ⟨by omega, h1⟩
theorem rangeD_at {m i : Nat} {d : D} (h : (rangeD 0 m)[i]? = some d) : d = .int (i : Int) ∧ i < m := by
  have hl : i < m := by
    have := (List.getElem?_eq_some_iff.mp h).1
    rw [rangeD_len] at this
    exact this
  rw [rangeD_get hl] at h
  exact ⟨by rw [← Option.some.inj h, Int.zero_add], hl⟩
theorem rangeD_at1 {m i : Nat} {d : D} (h : (rangeD 1 m)[i]? = some d) : d = .int (1 + (i : Int)) ∧ i < m := by
  have hl : i < m := by
    have := (List.getElem?_eq_some_iff.mp h).1
    rw [rangeD_len] at this
    exact this
  rw [rangeD_get hl] at h
  exact ⟨(Option.some.inj h).symm, hl⟩
def Sq (d : D) (xs : List D) : Prop := d = .list xs ∨ d = .tuple xs
theorem Sq.l (xs : List D) : Sq (.list xs) xs := .inl rfl
theorem Sq.t (xs : List D) : Sq (.tuple xs) xs := .inr rfl
theorem Sq.len {r : D} {xs : List D} (h : Sq r xs) : ∃ j : Int, lenD [r] = some (.int j) ∧ j = (xs.length : Int) := by rcases h with rfl | rfl <;> exact ⟨_, rfl, rfl⟩
theorem Sq.leni {r : D} {ns : List Int} (h : Sq r (ns.map .int)) : lenD [r] = some (.int (ns.length : Int)) := by
  obtain ⟨j, e, ej⟩ := h.len
  rw [e, ej, List.length_map]
theorem Sq.ix {r : D} {ns : List Int} {i : Int} (hr : Sq r (ns.map .int)) (h0 : 0 ≤ i) (h1 : i < ns.length) : ixD r (.int i) = some (.int (nat ns i)) := by
  rcases hr with rfl | rfl
  · rw [ixD_list]; exact atI_at h0 h1
  · rw [ixD_tuple]; exact atI_at h0 h1
theorem atI_last {α : Type} (l : List α) (x : α) : atI (l ++ [x]) (-1) = some x := by
  unfold atI ixN
  rw [if_neg (by omega), if_pos (by rw [List.length_append]; simp; omega)]
  show (l ++ [x])[_]? = _
  rw [List.length_append, show ((-1 : Int) + ((l.length + [x].length : Nat) : Int)).toNat = l.length by simp; omega]
  simp
theorem ixN_last {α : Type} (l : List α) (x : α) : ixN (l ++ [x]).length (-1) = some l.length := by
  unfold ixN
  rw [if_neg (by omega), if_pos (by rw [List.length_append]; simp; omega), List.length_append, show ((-1 : Int) + ((l.length + [x].length : Nat) : Int)).toNat = l.length by simp; omega]
theorem size_of {n : Nat} (h : n ≤ 100000) : n ≤ sizeLine := Nat.le_trans h (by decide)
theorem size_lt {n : Nat} (h : n < 100000) : n < sizeLine := Nat.lt_of_lt_of_le h (by decide)
/-! membership of ints -/
theorem flVs_ints : ∀ ns : List Int, flVs (ns.map PyData.int) = some (ns.map V.int)
  | [] => rfl
  | n :: r => by
    show (match flV (PyData.int n), flVs (r.map PyData.int) with | some v, some vs => some (v :: vs) | _, _ => none) = _
    rw [flVs_ints r]; rfl
theorem inV_ints (i : Int) (ns : List Int) : inV (.int i) (ns.map V.int) = decide (i ∈ ns) := by
  induction ns with
  | nil => rfl
  | cons n r ih =>
    unfold inV at ih ⊢
    rw [List.map_cons, List.any_cons, ih]
    show ((n == i) || _) = _
    by_cases h : n = i
    · rw [decide_eq_true (List.mem_cons.mpr (.inl h.symm)), beq_iff_eq.mpr h]; rfl
    · have e : (n == i) = false := by simpa using h
      rw [e, Bool.false_or]
      exact decide_eq_decide.mpr ⟨fun z => List.mem_cons_of_mem _ z, fun z => (List.mem_cons.mp z).resolve_left fun y => h y.symm⟩
theorem inD_t (i : Int) (ns : List Int) : inD (.int i) (.tuple (ns.map .int)) = some (.bool (decide (i ∈ ns))) := by
  unfold inD inDb
  show Option.map _ (match flV (PyData.int i), flVs (ns.map PyData.int) with | some v, some vs => some (inV v vs) | _, _ => none) = _
  rw [flVs_ints]
  show some (PyData.bool (inV (.int i) (ns.map V.int))) = _
  rw [inV_ints]
theorem inD_l (i : Int) (ns : List Int) : inD (.int i) (.list (ns.map .int)) = some (.bool (decide (i ∈ ns))) := inD_t i ns
theorem notInD_l (i : Int) (ns : List Int) : notInD (.int i) (.list (ns.map .int)) = some (.bool (!decide (i ∈ ns))) := by
  unfold notInD inDb
  show Option.map _ (match flV (PyData.int i), flVs (ns.map PyData.int) with | some v, some vs => some (inV v vs) | _, _ => none) = _
  rw [flVs_ints]
  show some (PyData.bool (!inV (.int i) (ns.map V.int))) = _
  rw [inV_ints]
theorem cut_map {α β : Type} (f : α → β) (xs : List α) (lo hi : Option Int) : cutD (xs.map f) lo hi = (cutD xs lo hi).map f := by
  unfold cutD
  rw [List.length_map, List.map_take, List.map_drop]
theorem cut_to {α : Type} (xs : List α) (m : Nat) : cutD xs none (some (m : Int)) = xs.take m := by
  unfold cutD
  rw [HT.sIx_nat]
  show (xs.drop 0).take (min m xs.length - 0) = _
  rw [List.drop_zero, Nat.sub_zero, List.take_eq_take_iff]
  omega
theorem cut_from {α : Type} (xs : List α) (m : Nat) : cutD xs (some (m : Int)) none = xs.drop m := by
  unfold cutD
  rw [HT.sIx_nat]
  show (xs.drop (min m xs.length)).take (xs.length - min m xs.length) = _
  rw [List.take_of_length_le (by rw [List.length_drop]; omega)]
  by_cases h : m ≤ xs.length
  · rw [Nat.min_eq_left h]
  · rw [Nat.min_eq_right (by omega), List.drop_length, List.drop_of_length_le (by omega)]
theorem cut_ft_len {α : Type} (xs : List α) (m u : Nat) : (cutD xs (some (m : Int)) (some (u : Int))).length ≤ xs.length - m := by
  unfold cutD
  rw [HT.sIx_nat, HT.sIx_nat, List.length_take, List.length_drop]
  omega
/-! enumerate -/
theorem map_nat (ns : List Int) : (List.range ns.length).map (fun k : Nat => nat ns (k : Int)) = ns := by
  apply List.ext_getElem?
  intro k
  by_cases h : k < ns.length
  · rw [List.getElem?_map, List.getElem?_range h, Option.map_some, nat, Int.toNat_natCast, List.getElem?_eq_getElem h]; rfl
  · rw [List.getElem?_eq_none (by simpa using h), List.getElem?_eq_none (by simpa using h)]
theorem enum_range (ns : List Int) : enumFrom 0 (ns.map .int) = (List.range ns.length).map fun k : Nat => .tuple [.int (k : Int), .int (nat ns (k : Int))] := by
  apply List.ext_getElem?
  intro k
  by_cases h : k < ns.length
  · rw [enumFrom_get _ 0 k (.int (nat ns k)), List.getElem?_map, List.getElem?_range h, Option.map_some, Nat.zero_add]
    rw [List.getElem?_map, nat, Int.toNat_natCast, List.getElem?_eq_getElem h]; rfl
  · rw [List.getElem?_eq_none (by rw [enumFrom_len, List.length_map]; omega), List.getElem?_eq_none (by simpa using h)]
theorem set_range (ns : List Int) (i : Nat) (m : Int) : ns.set i m = (List.range ns.length).map fun k : Nat => if k = i then m else nat ns (k : Int) := by
  apply List.ext_getElem?
  intro k
  by_cases h : k < ns.length
  · rw [List.getElem?_map, List.getElem?_range h, Option.map_some, List.getElem?_set]
    by_cases e : i = k
    · rw [if_pos e, if_pos (by omega : i < ns.length), if_pos e.symm]
    · rw [if_neg e, if_neg fun z => e z.symm, nat, Int.toNat_natCast, List.getElem?_eq_getElem h]; rfl
  · rw [List.getElem?_eq_none (by simpa using h), List.getElem?_eq_none (by simpa using h)]
theorem nat_set {ns : List Int} {i : Nat} {m k : Int} (h0 : 0 ≤ k) : nat (ns.set i m) k = if k = (i : Int) ∧ i < ns.length then m else nat ns k := by
  unfold nat
  rw [List.getElem?_set]
  by_cases e : i = k.toNat
  · rw [if_pos e]
    by_cases h : i < ns.length
    · rw [if_pos h, if_pos ⟨by omega, h⟩]; rfl
    · rw [if_neg h, if_neg fun z => h z.2, List.getElem?_eq_none (by omega)]
  · rw [if_neg e, if_neg fun z => e (by omega)]
theorem set_cut (ns : List Int) (i : Nat) (m : Int) (h : i < ns.length) : ns.take i ++ [m] ++ ns.drop (i + 1) = ns.set i m := by
  rw [List.set_eq_take_append_cons_drop, if_pos h, List.append_assoc]; rfl
theorem Sq.enum {r : D} {ns : List Int} (h : Sq r (ns.map .int)) : enum1D [r] = some ((List.range ns.length).map fun k : Nat => .tuple [.int (k : Int), .int (nat ns (k : Int))]) := by
  rw [← enum_range]
  rcases h with rfl | rfl <;> rfl
theorem cut3 (ns : List Int) (i : Int) (h1 : 1 ≤ i) (h2 : i + 1 < ns.length) : cutD ns (some (i - 1)) (some (i + 2)) = [nat ns (i - 1), nat ns i, nat ns (i + 1)] := by
  obtain ⟨k, rfl⟩ : ∃ k : Nat, i = (k : Int) + 1 := ⟨(i - 1).toNat, by omega⟩
  rw [show (k : Int) + 1 - 1 = ((k : Nat) : Int) by omega, show (k : Int) + 1 + 2 = ((k + 3 : Nat) : Int) by omega, show (k : Int) + 1 + 1 = ((k + 2 : Nat) : Int) by omega, show (k : Int) + 1 = ((k + 1 : Nat) : Int) by omega]
  unfold cutD
  rw [HT.sIx_nat, HT.sIx_nat, Nat.min_eq_left (by omega), Nat.min_eq_left (by omega), show k + 3 - k = 3 by omega]
  apply List.ext_getElem?
  intro j
  rw [List.getElem?_take]
  unfold nat
  rcases j with _ | _ | _ | j
  · rw [if_pos (by omega), List.getElem?_drop, Int.toNat_natCast, List.getElem?_eq_getElem (by omega : k + 0 < ns.length)]
    simp [List.getElem?_eq_getElem (by omega : k < ns.length)]
  · rw [if_pos (by omega), List.getElem?_drop, List.getElem?_eq_getElem (by omega : k + (0 + 1) < ns.length)]
    simp [List.getElem?_eq_getElem (by omega : k + 1 < ns.length)]
  · rw [if_pos (by omega), List.getElem?_drop, List.getElem?_eq_getElem (by omega : k + (0 + 1 + 1) < ns.length)]
    rw [show (((k + 2 : Nat) : Int)).toNat = k + 2 by omega]
    simp [List.getElem?_eq_getElem (by omega : k + 2 < ns.length)]
  · rw [if_neg (by omega)]; rfl
/-! the middle one of three -/
def mid3 (a b c : Int) : Int := (srtI [a, b, c])[1]?.getD 0
theorem srt3 (a b c : Int) : ∃ x z, srtI [a, b, c] = [x, mid3 a b c, z] := by
  have h := (srtI_perm [a, b, c]).length_eq
  unfold mid3
  match e : srtI [a, b, c], h with
  | [x, y, z], _ => exact ⟨x, z, rfl⟩
/-- the number after a call -/
def midN (ns : List Int) (i : Int) : Int := if i = 0 ∨ i = (ns.length : Int) - 1 then nat ns i else mid3 (nat ns (i - 1)) (nat ns i) (nat ns (i + 1))
def callN (ns : List Int) (i : Int) : List Int := ns.set i.toNat (midN ns i)
theorem callN_len (ns : List Int) (i : Int) : (callN ns i).length = ns.length := List.length_set
theorem mid3_mem (a b c : Int) : mid3 a b c = a ∨ mid3 a b c = b ∨ mid3 a b c = c := by
  obtain ⟨x, z, e⟩ := srt3 a b c
  have : mid3 a b c ∈ [a, b, c] := (srtI_perm _).mem_iff.mp (by rw [e]; simp)
  simpa using this
theorem addT {xs ys : List D} (h : xs.length + ys.length ≤ 100000) : addU (.tuple xs) (.tuple ys) = some (.tuple (xs ++ ys)) := by
  have e : addD (.tuple xs) (.tuple ys) = some (.tuple (xs ++ ys)) := if_pos (size_of h)
  unfold addU
  rw [e]; rfl
theorem addLL {xs ys : List D} (h : xs.length + ys.length ≤ 100000) : addU (.list xs) (.list ys) = some (.list (xs ++ ys)) := by
  have e : addL (.list xs) (.list ys) = some (xs ++ ys) := if_pos (size_of h)
  unfold addU
  rw [e]; rfl
theorem sliceU_t {xs : List D} {lo hi : Option Int} : sliceU (.tuple xs) lo hi = some (.tuple (cutD xs lo hi)) := rfl
theorem sliceU_l {xs : List D} {lo hi : Option Int} : sliceU (.list xs) lo hi = some (.list (cutD xs lo hi)) := rfl
theorem repLk {xs : List D} {k : Nat} (hk : k ≤ 1000) (h : xs.length * k ≤ 100000) : mulV (.list xs) (.int (k : Int)) = some (.list (List.replicate k xs).flatten) := by
  have e : repL (.list xs) (.int (k : Int)) = some (List.replicate k xs).flatten := by
    unfold repL
    dsimp only
    rw [Int.toNat_natCast, if_pos ⟨by omega, by omega, size_of h⟩]
  have e2 : mulD (.list xs) (.int (k : Int)) = none := rfl
  unfold mulV mulU
  rw [e2, e]; rfl
theorem rep_2 {x : D} : mulV (.list [x]) (.int 2) = some (.list [x, x]) := repLk (k := 2) (by decide) (by show 1 * 2 ≤ 100000; decide)
theorem rep_3 {x : D} : mulV (.list [x]) (.int 3) = some (.list [x, x, x]) := repLk (k := 3) (by decide) (by show 1 * 3 ≤ 100000; decide)
theorem rep_4 {x : D} : mulV (.list [x]) (.int 4) = some (.list [x, x, x, x]) := repLk (k := 4) (by decide) (by show 1 * 4 ≤ 100000; decide)
end DL

/-! DMc: more general lemmas for the plain parts. -/
namespace DL
open PySem L2
/-- if not e: return False, and e is True, and on -/
theorem seq_skip {g : GE} {a b : GS} {ρ : Rho} {o : O} (h : g ρ = .ok (.bool true) ρ) (h2 : b ρ = o) : sSeq (sIf (tNotG (tstE g)) a sNext) b ρ = o := seq_nx (skip_not h) h2
theorem skip1 {g : GE} {a : GS} {ρ : Rho} (h : g ρ = .ok (.bool true) ρ) : sIf (tNotG (tstE g)) a sNext ρ = .nx ρ := skip_not h
theorem lc_nil {vs : List Nat} {k : GG} {t : GT} {e : GE} {ρ : Rho} : lcL vs k t e [] ρ = .ok [] ρ := rfl
theorem lc_cons {vs : List Nat} {k : GG} {t : GT} {e : GE} {ρ ρ1 ρ2 ρ3 ρ4 : Rho} {d y : D} {ds ys : List D} (h1 : k d ρ = some ρ1) (h2 : t ρ1 = .ok true ρ2) (h3 : e ρ2 = .ok y ρ3) (h4 : lcL vs k t e ds (wipeR ρ3 vs) = .ok ys ρ4) : lcL vs k t e (d :: ds) ρ = .ok (y :: ys) ρ4 := by
  show (match k d ρ with | none => R.bad | some ρ1 => (t ρ1).bind fun b ρ2 => if b then (e ρ2).bind fun y ρ3 => (lcL vs k t e ds (wipeR ρ3 vs)).map (y :: ·) else lcL vs k t e ds (wipeR ρ2 vs)) = _
  rw [h1]
  show (t ρ1).bind _ = _
  rw [h2, R.ok_bind, if_pos rfl, h3, R.ok_bind, h4]; rfl
theorem for_nil {k : GG} {b : GS} {ρ : Rho} : forL k b [] ρ = .nx ρ := rfl
theorem for_cons {k : GG} {b : GS} {ρ ρ1 ρ2 : Rho} {d : D} {ds : List D} {o : O} (h1 : k d ρ = some ρ1) (h2 : b ρ1 = .nx ρ2) (h3 : forL k b ds ρ2 = o) : forL k b (d :: ds) ρ = o := by
  show (match k d ρ with | none => O.bad | some ρ1 => match b ρ1 with | .nx ρ2 => forL k b ds ρ2 | .ct ρ2 => forL k b ds ρ2 | .bk ρ2 => .nx ρ2 | o => o) = _
  rw [h1]
  show (match b ρ1 with | .nx ρ2 => forL k b ds ρ2 | .ct ρ2 => forL k b ds ρ2 | .bk ρ2 => .nx ρ2 | o => o) = _
  rw [h2]; exact h3
/-- a loop whose body leaves the environment but the loop's name -/
theorem for_all {k : GG} {b : GS} {ds : List D} (I : Rho → Prop) (h : ∀ d ∈ ds, ∀ ρ, I ρ → ∃ ρ1, k d ρ = some ρ1 ∧ ∃ ρ2, b ρ1 = .nx ρ2 ∧ I ρ2) {ρ : Rho} (h0 : I ρ) : ∃ ρ', forL k b ds ρ = .nx ρ' ∧ I ρ' := by
  induction ds generalizing ρ with
  | nil => exact ⟨ρ, rfl, h0⟩
  | cons d ds ih =>
    obtain ⟨ρ1, e1, ρ2, e2, i2⟩ := h d List.mem_cons_self ρ h0
    obtain ⟨ρ', e3, i3⟩ := ih (fun x hx => h x (List.mem_cons_of_mem _ hx)) i2
    exact ⟨ρ', for_cons e1 e2 e3, i3⟩
end DL

/-! DMd: a, b, c, d = .., with new lists among them. -/
namespace DL
open PySem L2
inductive NwP (K : PySem.W.Frag) (B Z H : Hp) (σ : L2.St) (ρ : Rho) : List V → List Nw → List Addr → Prop
  | nil : NwP K B Z H σ ρ [] [] []
  | s {v : V} {vs : List V} {d : D} {ns : List Nw} {qs : List Addr} : Rp K Z v d → NwP K B Z H σ ρ vs ns qs → NwP K B Z H σ ρ (v :: vs) (.s d :: ns) qs
  | f {q : Addr} {ws vs : List V} {ds : List D} {ns : List Nw} {qs : List Addr} : Z q = none → B q = none → Apart σ ρ q → H q = some (.lst ws) → RpA K Z ws ds → q ∉ qs → NwP K B Z H σ ρ vs ns qs → NwP K B Z H σ ρ (.ref q :: vs) (.f ds :: ns) (q :: qs)
section
variable {K : PySem.W.Frag} {Wx : WX} {te : TE} {tas : TA} {b0 : Option Addr} {B Z0 Z H : Hp} {σ : L2.St} {ρ : Rho}
theorem NwP.len {vs : List V} {ns : List Nw} {qs : List Addr} (h : NwP K B Z H σ ρ vs ns qs) : vs.length = ns.length := by
  induction h with
  | nil => rfl
  | s _ _ ih => rw [List.length_cons, List.length_cons, ih]
  | f _ _ _ _ _ _ _ ih => rw [List.length_cons, List.length_cons, ih]
theorem NwP.none {vs : List V} {ns : List Nw} {qs : List Addr} (h : NwP K B Z H σ ρ vs ns qs) : ∀ q ∈ qs, B q = Option.none := by
  induction h with
  | nil => exact fun q hq => nomatch hq
  | s _ _ ih => exact ih
  | f _ hb _ _ _ _ _ ih =>
    intro q hq
    rcases List.mem_cons.mp hq with rfl | hq
    · exact hb
    · exact ih q hq
def DNP (K : PySem.W.Frag) (t : TA) (g : Rho → R (List Nw)) : Prop := ∀ b0 B Z0 Z H σ ρ ns ρ' (Q : List V → Hp → Prop), Ok K b0 B Z0 Z H σ ρ → g ρ = .ok ns ρ' →
  (∀ vs H' Z' qs, Ok K b0 B Z0 Z' H' σ ρ' → Same Z Z' → NwP K B Z' H' σ ρ' vs ns qs → Q vs H') → t σ H Q
theorem dnp_nil : DNP K tNil nlNil := fun b0 B Z0 Z H σ ρ ns ρ' Q ok e q => by
  cases e
  exact q [] H Z [] ok (Same.refl Z) .nil
theorem dnp_s {g : GE} {r : Rho → R (List Nw)} (h : DE K te g) (hr : DNP K tas r) : DNP K (tCons te tas) (nlCons (nS g) r) := fun b0 B Z0 Z H σ ρ ns ρ' Q ok e q => by
  obtain ⟨n, ρ1, e1, e2⟩ := R.bind_ok e
  obtain ⟨d, e3, rfl⟩ := R.map_ok e1
  obtain ⟨ms, e4, rfl⟩ := R.map_ok e2
  refine h b0 B Z0 Z H σ ρ d ρ1 _ ok e3 fun v H1 Z1 ok1 s1 r1 => ?_
  exact hr b0 B Z0 Z1 H1 σ ρ1 ms ρ' _ ok1 e4 fun vs H2 Z2 qs ok2 s2 r2 => q (v :: vs) H2 Z2 qs ok2 (s1.trans s2) (.s (r1.mono s2) r2)
theorem NwP.back {p : Addr} {o : HO} (bp : B p = Option.none) {vs : List V} {ns : List Nw} {qs : List Addr} (h : NwP K (upd B p o) Z H σ ρ vs ns qs) : NwP K B Z H σ ρ vs ns qs ∧ p ∉ qs := by
  induction h with
  | nil => exact ⟨.nil, fun z => nomatch z⟩
  | s r _ ih => exact ⟨.s r ih.1, ih.2⟩
  | @f q ws vs ds ns qs hz hb ha hh hr hn _ ih =>
    have ne : q ≠ p := fun z => by rw [z, upd_same] at hb; cases hb
    rw [upd_ne ne] at hb
    exact ⟨.f hz hb ha hh hr hn ih.1, fun z => (List.mem_cons.mp z).elim (fun y => ne y.symm) ih.2⟩
theorem dnp_f {g : GF} {r : Rho → R (List Nw)} (h : DF K te g) (hr : DNP K tas r) : DNP K (tCons te tas) (nlCons (nF g) r) := fun b0 B Z0 Z H σ ρ ns ρ' Q ok e q => by
  obtain ⟨n, ρ1, e1, e2⟩ := R.bind_ok e
  obtain ⟨ds, e3, rfl⟩ := R.map_ok e1
  obtain ⟨ms, e4, rfl⟩ := R.map_ok e2
  refine h b0 B Z0 Z H σ ρ ds ρ1 _ ok e3 fun q1 ws H1 Z1 ok1 s1 zq bq aq hq r1 => ?_
  refine hr b0 (upd B q1 (.lst ws)) Z0 Z1 H1 σ ρ1 ms ρ' _ (ok1.frame zq aq hq) e4 fun vs H2 Z2 qs ok2 s2 r2 => ?_
  obtain ⟨ok3, z3, a3, h3⟩ := ok2.unframe (ok1.zz.free zq) bq
  obtain ⟨r3, n3⟩ := NwP.back bq r2
  exact q (.ref q1 :: vs) H2 Z2 (q1 :: qs) ok3 (s1.trans s2) (.f z3 bq a3 h3 (r1.mono s2) n3 r3)
def setV : List Nat → List V → L2.St → L2.St
  | i :: is, v :: vs, σ => setV is vs (σ.set i (some v))
  | _, _, σ => σ
def setN : List Nat → List Nw → Rho → Rho
  | i :: is, n :: ns, ρ => setN is ns (ρ.set i n.sl)
  | _, _, ρ => ρ
theorem apart_set {i : Nat} {v : V} {n : Nw} {q : Addr} (h : Apart σ ρ q) (hv : ∀ ds, n = .f ds → v ≠ .ref q) : Apart (σ.set i (some v)) (ρ.set i n.sl) q := fun j es hj hq => by
  rcases set_get hj with ⟨ek, e⟩ | ⟨nk, e⟩
  · subst ek
    cases n with
    | s d => cases e
    | f ds =>
      rcases set_get hq with ⟨_, e2⟩ | ⟨n2, _⟩
      · exact hv ds rfl (Option.some.inj e2)
      · exact n2 rfl
  · rw [List.getElem?_set_ne nk] at hq
    exact h j es e hq
theorem NwP.set {i : Nat} {v : V} {n : Nw} {vs : List V} {ns : List Nw} {qs : List Addr} (hv : ∀ q ∈ qs, ∀ ds, n = .f ds → v ≠ .ref q) (h : NwP K B Z H σ ρ vs ns qs) : NwP K B Z H (σ.set i (some v)) (ρ.set i n.sl) vs ns qs := by
  induction h with
  | nil => exact .nil
  | s r _ ih => exact .s r (ih hv)
  | f hz hb ha hh hr hn _ ih => exact .f hz hb (apart_set ha (hv _ List.mem_cons_self)) hh hr hn (ih fun q hq => hv q (List.mem_cons_of_mem _ hq))
theorem Ok.setN : ∀ {is : List Nat} {vs : List V} {ns : List Nw} {qs : List Addr} {σ : L2.St} {ρ : Rho}, Ok K b0 B Z0 Z H σ ρ → NwP K B Z H σ ρ vs ns qs → (∀ i ∈ is, i ≠ 0) → is.length = ns.length → Ok K b0 B Z0 Z H (setV is vs σ) (setN is ns ρ)
  | [], _, _, _, _, _, ok, .nil, _, _ => ok
  | [], _, _, _, _, _, ok, .s _ _, _, h => nomatch h
  | [], _, _, _, _, _, ok, .f _ _ _ _ _ _ _, _, h => nomatch h
  | i :: is, _, _, _, _, _, ok, .nil, _, h => nomatch h
  | i :: is, _, _, _, _, _, ok, .s (v := v) (d := d) r h, hi, hl => by
    have ok1 := ok.put (i := i) r
    exact Ok.setN (is := is) ok1 (NwP.set (n := .s d) (fun _ _ _ z => nomatch z) h) (fun j hj => hi j (List.mem_cons_of_mem _ hj)) (by simpa using hl)
  | i :: is, _, _, _, _, _, ok, .f (q := q) (ds := ds) hz hb ha hh hr hn h, hi, hl => by
    have ok1 := ok.putO (i := i) hz hb ha hh hr fun _ _ z => absurd z (hi i List.mem_cons_self)
    exact Ok.setN (is := is) ok1 (NwP.set (n := .f ds) (fun q' hq' _ _ z => hn (by injection z with z; rw [z]; exact hq')) h) (fun j hj => hi j (List.mem_cons_of_mem _ hj)) (by simpa using hl)
def tgN : List Nat → TGs
  | [] => gNil
  | i :: is => gCons (gName i) (tgN is)
theorem tgN_run {H : Hp} {Q : L2.St → Hp → Prop} : ∀ {is : List Nat} {vs : List V} {σ : L2.St}, is.length = vs.length → Q (setV is vs σ) H → tgN is vs σ H Q
  | [], [], _, _, q => ⟨rfl, q⟩
  | [], _ :: _, _, h, _ => nomatch h
  | _ :: _, [], _, h, _ => nomatch h
  | i :: is, v :: vs, σ, h, q => ⟨v, vs, rfl, tgN_run (is := is) (vs := vs) (by simpa using h) q⟩
def sTupN (is : List Nat) (gn : Rho → R (List Nw)) (ρ : Rho) : O := (gn ρ).to fun ns ρ1 => if ns.length = is.length then .nx (setN is ns ρ1) else .bad
theorem ds_tupN {n : Nat} {is : List Nat} {gn : Rho → R (List Nw)} (h : DNP K tas gn) (hn : is.length = n := by rfl) (h0 : ∀ i ∈ is, i ≠ 0 := by decide) (hz : is.length ≤ sizeLine := by decide) : DS K Wx (tAsg (tTup tas) (gTup K n (tgN is))) (sTupN is gn) := fun b0 B Z0 Z H σ ρ E ok s => by
  subst hn
  obtain ⟨ns, ρ1, e1, s⟩ := Sat.to s
  split at s
  · rename_i hl
    refine h b0 B Z0 Z H σ ρ ns ρ1 _ ok e1 fun vs H1 Z1 qs ok1 s1 r1 => ?_
    have lv : vs.length = is.length := r1.len.trans hl
    refine ⟨by rw [lv]; exact hz, fun p hp => ⟨p, vs, rfl, .inl (.inl upd_same), lv, tgN_run lv.symm (s _ _ Z1 ?_)⟩⟩
    have nep : ∀ {q : Addr} {o : HO}, H1 q = some o → q ≠ p := fun hq z => by rw [z, hp] at hq; cases hq
    have r2 : NwP K B Z1 (upd H1 p (.tup vs)) σ ρ1 vs ns qs := by
      clear lv hl s e1
      generalize HO.tup vs = o
      induction r1 with
      | nil => exact .nil
      | s r _ ih => exact .s r ih
      | f hz hb ha hh hr hn _ ih => exact .f hz hb ha (by rw [upd_ne (nep hh)]; exact hh) hr hn ih
    exact Ok.setN (ok1.fresh hp).1 r2 h0 hl.symm
  · exact s.elim
end
/-! ### more for the plain parts -/
theorem for_ex {k : GG} {b : GS} {ρ ρ1 ρ2 : Rho} {d x : D} {c : Str} {ds : List D} (h1 : k d ρ = some ρ1) (h2 : b ρ1 = .ex c x ρ2) : forL k b (d :: ds) ρ = .ex c x ρ2 := by
  show (match k d ρ with | none => O.bad | some ρ1 => match b ρ1 with | .nx ρ2 => forL k b ds ρ2 | .ct ρ2 => forL k b ds ρ2 | .bk ρ2 => .nx ρ2 | o => o) = _
  rw [h1]
  show (match b ρ1 with | .nx ρ2 => forL k b ds ρ2 | .ct ρ2 => forL k b ds ρ2 | .bk ρ2 => .nx ρ2 | o => o) = _
  rw [h2]
theorem for_rt {k : GG} {b : GS} {ρ ρ1 ρ2 : Rho} {d x : D} {ds : List D} (h1 : k d ρ = some ρ1) (h2 : b ρ1 = .rt x ρ2) : forL k b (d :: ds) ρ = .rt x ρ2 := by
  show (match k d ρ with | none => O.bad | some ρ1 => match b ρ1 with | .nx ρ2 => forL k b ds ρ2 | .ct ρ2 => forL k b ds ρ2 | .bk ρ2 => .nx ρ2 | o => o) = _
  rw [h1]
  show (match b ρ1 with | .nx ρ2 => forL k b ds ρ2 | .ct ρ2 => forL k b ds ρ2 | .bk ρ2 => .nx ρ2 | o => o) = _
  rw [h2]
theorem sFor_to {gi : GF} {k : GG} {b : GS} {ρ ρ1 : Rho} {ds : List D} {o : O} (h : gi ρ = .ok ds ρ1) (h2 : forL k b ds ρ1 = o) : sFor gi k b ρ = o := by unfold sFor; rw [h]; exact h2
theorem sFor_ex {gi : GF} {k : GG} {b : GS} {ρ ρ1 ρ2 : Rho} {ds : List D} {c : Str} {x : D} (h : gi ρ = .ok ds ρ1) (h2 : forL k b ds ρ1 = .ex c x ρ2) : sFor gi k b ρ = .ex c x ρ2 := sFor_to h h2
theorem Sq.tup {r : D} {xs : List D} (h : Sq r xs) : tupleD [r] = some (.tuple xs) := by rcases h with rfl | rfl <;> rfl
theorem Sq.lst {r : D} {xs : List D} (h : Sq r xs) : listD [r] = some xs := by rcases h with rfl | rfl <;> rfl
theorem Sq.items {r : D} {xs : List D} (h : Sq r xs) : itemsD r = some xs := by rcases h with rfl | rfl <;> rfl
/-- the row after calls -/
def runN (ns : List Int) (tape : List Int) : List Int := tape.foldl callN ns
theorem runN_len : ∀ (tape ns : List Int), (runN ns tape).length = ns.length
  | [], _ => rfl
  | i :: tape, ns => (runN_len tape (callN ns i)).trans (callN_len ns i)
/-- the places of the idle calls, from k on -/
def idleL (ns : List Int) (k : Nat) : List Int → List Int
  | [] => []
  | i :: tape => (if callN ns i = ns then [(k : Int)] else []) ++ idleL (callN ns i) (k + 1) tape
theorem idleL_len : ∀ (tape ns : List Int) (k : Nat), (idleL ns k tape).length ≤ tape.length
  | [], _, _ => Nat.le_refl 0
  | i :: tape, ns, k => by
    unfold idleL
    have := idleL_len tape (callN ns i) (k + 1)
    rw [List.length_append, List.length_cons]
    split <;> simp <;> omega
theorem callN_iff {ns : List Int} {i : Int} (h0 : 0 ≤ i) (h1 : i < ns.length) : callN ns i = ns ↔ midN ns i = nat ns i := by
  unfold callN
  have hk : i.toNat < ns.length := by omega
  constructor
  · intro h
    have : (ns.set i.toNat (midN ns i))[i.toNat]? = ns[i.toNat]? := by rw [h]
    rw [List.getElem?_set_self hk] at this
    unfold nat
    rw [← this]; rfl
  · intro h
    rw [h]
    unfold nat
    rw [List.getElem?_eq_getElem hk]
    exact List.set_getElem_self hk
theorem heardT_ok {h : Nat} {gn : Rho → R (List Nw)} {Fs : List D → Option D} {gd : GE} {js : List Nat} {m : Rho → Option Rho} {rest : GS} {ρ ρ1 ρ2 ρ3 : Rho} {ns : List Nw} {due : D} {o : O} (h1 : gn ρ = .ok ns ρ1) (h2 : ns.length ≤ sizeLine) (h3 : h < ρ1.length) (h4 : js.length ≤ sizeLine) (h5 : gd (ρ1.set h .no) = .ok due ρ2)
    (h6 : Fs [.list (ns.map Nw.dat), due] = some (.bool true)) (h7 : ∀ j ∈ js, ∃ T, ns[j]? = some (.f T) ∧ T.length + js.length ≤ sizeLine) (h8 : m (ρ2.set h .no) = some ρ3) (h9 : rest ρ3 = o) : sHeardT h gn Fs gd js m rest ρ = o := by
  have h7 : js.all (fun j => isF js.length ns[j]?) = true := List.all_eq_true.mpr fun j hj => by
    obtain ⟨T, e, z⟩ := h7 j hj
    rw [e]
    exact decide_eq_true z
  unfold sHeardT
  rw [h1]
  show (if ns.length ≤ sizeLine ∧ h < ρ1.length ∧ js.length ≤ sizeLine then (gd (ρ1.set h .no)).to _ else .bad) = _
  rw [if_pos ⟨h2, h3, h4⟩, h5]
  show (match Fs [.list (ns.map Nw.dat), due] with
    | some (.bool true) => if js.all (fun j => isF js.length ns[j]?) then (match m (ρ2.set h .no) with | some ρ3 => rest ρ3 | none => .bad) else .bad
    | some (.bool false) => .rt (.bool false) (ρ2.set h .no)
    | _ => .bad) = _
  rw [h6]
  show (if js.all (fun j => isF js.length ns[j]?) = true then (match m (ρ2.set h .no) with | some ρ3 => rest ρ3 | none => .bad) else .bad) = _
  rw [if_pos h7, h8]
  exact h9
end DL

/-! DMe: [f, g, ..][i](..); tests that may raise. -/
namespace DL
open PySem PySem.Spec PyProof.Rows L2
section
variable {X : Cx} {K : PySem.W.Frag} {Wx : WX} {ta tb te ti : TE} {tt : TT} {tas : TA} {t u : TS} {P : Program} {w : World} {mg : Str → Option Value} {base : Heap} {k : Nat} {f : Addr} {fd : FuncData} {ps : List Str}
/-! ### one promise for all kinds -/
def RX.mapL (F : List D → RX (List D)) (ds : List D) : RX D := match F ds with
  | .ok es => .ok (.list es)
  | .ex c d => .ex c d
  | .bad => .bad
def RX.ofO (F : List D → Option D) (ds : List D) : RX D := match F ds with
  | some d => .ok d
  | none => .bad
theorem spX_XF {np : Nat} {F : List D → RX (List D)} {vs : List V} {H : Hp} {Q : VK} {E : XK} (h : spX K np (RX.mapL F) vs H Q E) : spXF K np F vs H Q E := by
  obtain ⟨hl, Z, ds, s, r, q⟩ := h
  refine ⟨hl, Z, ds, s, r, ?_⟩
  unfold RX.mapL at q
  cases e : F ds with
  | ok es =>
    rw [e] at q
    intro p ws H' Z' hh g hp zp hp' ra
    have sz : Same Z' (upd Z' p (.lst ws)) := fun b x eb => by rw [upd_ne (ne_of_none eb zp)]; exact eb
    refine q (.ref p) H' (upd Z' p (.lst ws)) hh ⟨g.1.trans sz, fun b x eb => ?_, fun b x eb => ?_⟩ (.lst upd_same (ra.mono sz))
    · by_cases hb : b = p
      · subst hb; rw [upd_same] at eb; rw [← eb]; exact hp'
      · rw [upd_ne hb] at eb; exact g.2.1 b x eb
    · by_cases hb : b = p
      · subst hb; exact .inr hp
      · rw [upd_ne hb] at eb; exact g.2.2 b x eb
  | ex c d => rw [e] at q; exact q
  | bad => rw [e] at q; exact q
theorem spX_P {np : Nat} {F : List D → Option D} {vs : List V} {H : Hp} {Q : VK} {E : XK} (h : spX K np (RX.ofO F) vs H Q E) : spP K np F vs H Q E := by
  obtain ⟨hl, Z, ds, s, r, q⟩ := h
  unfold RX.ofO at q
  cases e : F ds with
  | some d => rw [e] at q; exact ⟨hl, Z, ds, d, s, r, e, q⟩
  | none => rw [e] at q; exact q.elim
theorem fn_XF {np : Nat} {F : List D → RX (List D)} (h : FnOk P w K mg base (L2.CX P w) k f fd ps (spXF K np F)) : FnOk P w K mg base (L2.CX P w) k f fd ps (spX K np (RX.mapL F)) := h.imp fun _ _ _ _ z => spX_XF z
theorem fn_P {np : Nat} {F : List D → Option D} (h : FnOk P w K mg base CX0 k f fd ps (spP K np F)) : FnOk P w K mg base (L2.CX P w) k f fd ps (spX K np (RX.ofO F)) :=
  ⟨fun vs H Q E q => h.len vs H Q E (spX_P q), fun A outer s H args us vs Q E hr he hb hv hs => codeAny_mono (h.run A outer s H args us vs Q E hr he hb hv (spX_P hs)) fun r s' hq => by
    cases r with
    | error e => exact hq.elim
    | ok fl => cases fl <;> exact hq⟩
structure HeldX (P : Program) (w : World) (K : PySem.W.Frag) (mg : Str → Option Value) (base : Heap) (k : Nat) (f : Addr) (sp : Sp) : Prop where
  ex : ∃ (fd : FuncData) (ps : List Str), FnOk P w K mg base (L2.CX P w) k f fd ps sp ∧ PySem.W.keepIn K (.ref f) = true ∧ Binds K fd ps []
/-! ### the call of a value -/
def tCallF (R : Addr → Sp → Prop) (E : L2.St → XK) (tf : TE) (t : TA) : TE := fun σ H Q => tf σ H fun v H1 => ∃ f sp, v = .ref f ∧ R f sp ∧ t σ H1 fun vs H2 => sp vs H2 Q (E σ)
theorem pe_callF {R : Addr → Sp → Prop} {E : L2.St → XK} {tf : TE} {fe e : Expr} {es : List Expr} {pos : Pos} (A : ∀ f sp, R f sp → HeldX X.prog X.w X.K X.mg X.base k f sp) (hr : Room k X.A) (hx : ∀ σ, PassesAt (L2.CX X.prog X.w) X σ (E σ)) (hf : PE X fe tf) (ha : PA X (e :: es) tas)
    (hc : eval (.Call fe (e :: es) [] pos) X.env = (do callWith pos (← eval fe X.env) [] (backTo pos (starEach (e :: es) X.env)) (backToKw pos (keywordEach [] X.env))) := by rfl)
    (he : starEach (e :: es) X.env = (false, eval e X.env) :: starEach es X.env := by rfl) (hpl : (backTo pos (starEach es X.env)).any (·.1) = false := by rfl) : PE X (.Call fe (e :: es) [] pos) (tCallF R E tf tas) := by
  refine ⟨fun pins s σ H Q I h => ?_⟩
  rw [hc]
  refine wpAny_bind (thn (hf.run pins s σ H _ I h) fun u s1 hh => ?_)
  obtain ⟨v, H1, I1, r1, f, sp, rfl, hR, ht⟩ := hh
  obtain rfl : u = Value.ref f := r1
  obtain ⟨fd, ps, F, hk, hb⟩ := (A f sp hR).ex
  refine PySem.W.callWith_K (h₀ := X.base) I1.ok.mod.kin hk (thn (ha.run pos pins s1 σ H1 _ I1 ht) fun us s2 hh => ?_) he hpl
  obtain ⟨vs, H2, I2, r, q⟩ := hh
  exact ⟨I2.kIn, run_fnS F hr hb (hx σ) I2 r q⟩
/-- the defs of a written list -/
inductive FnL (K : PySem.W.Frag) (np : Nat) : List V → List (List D → RX D) → (Addr → Sp → Prop) → Prop
  | mk {fs : List V} {Fs : List (List D → RX D)} {R : Addr → Sp → Prop} (h : ∀ (j : Nat) (F : List D → RX D), Fs[j]? = some F → ∃ a, fs[j]? = some (.ref a) ∧ R a (spX K np F)) (hl : fs.length = Fs.length) : FnL K np fs Fs R
def eCallIx (Fs : List (List D → RX D)) (gi : GE) (ga : GA) (ρ : Rho) : R D := match gi ρ with
  | .ok (.int i) ρ1 => (match ixN Fs.length i with
    | some j => (match Fs[j]? with
      | some F => eCallX F ga ρ1
      | none => .bad)
    | none => .bad)
  | _ => .bad
theorem xd_callIx {np : Nat} {fs : List V} {Fs : List (List D → RX D)} {R : Addr → Sp → Prop} {gi : GE} {ga : GA} (fl : FnL K np fs Fs R) (hz : Fs.length ≤ sizeLine) (hF : ∀ F ∈ Fs, ∀ ds, F ds ≠ .bad → ds.length = np) (hi : DE K ti gi) (ha : DA K tas ga) :
    XD K Wx (tCallF R (WE Wx) (tOp (rIx K) (tLst (tVs fs)) ti) tas) (eCallIx Fs gi ga) := fun b0 B Z0 Z H σ ρ Q ok s => by
  obtain ⟨h, hl⟩ := fl
  unfold eCallIx at s
  split at s
  case h_2 => exact s.elim
  rename_i i ρ1 e1
  split at s
  case h_2 => exact s.elim
  rename_i j hj
  split at s
  case h_2 => exact s.elim
  rename_i F hF1
  rw [← DL.R.map_id (eCallX F ga ρ1)] at s
  obtain ⟨os, ds, ρ2, e2, hv, s⟩ := satE_call s
  rw [DL.R.map_id] at s
  refine tVs_run (Q := fun xs H2 => xs.length ≤ sizeLine ∧ ∀ p, H2 p = none → _) fs ⟨by rw [hl]; exact hz, fun p hp => ?_⟩
  obtain ⟨okf, zp, bp, ap⟩ := ok.fresh (o := .lst fs) hp
  have okw := okf.frame zp ap upd_same
  have z0 : Z0 p = none := ok.zz.free zp
  refine hi b0 _ Z0 Z _ σ ρ (.int i) ρ1 _ okw e1 fun v H1 Z1 ok1 s1 r1 => ?_
  cases r1
  obtain ⟨a, ea, hR⟩ := h j F hF1
  have hp1 : H1 p = some (.lst fs) := ok1.bh p _ upd_same
  obtain ⟨ok2, _, _, _⟩ := ok1.unframe z0 bp
  refine .inl ⟨p, fs, i, .ref a, rfl, rfl, .inl (.inl hp1), ?_, a, _, rfl, hR, ?_⟩
  · show (ixN fs.length i).bind (fs[·]?) = _
    rw [hl, hj]; exact ea
  · refine ha b0 B Z0 Z1 H1 σ ρ1 os ρ2 _ ok2 e2 fun vs H2 Z2 ok3 s3 r3 => ?_
    exact callX_run (H := H1) (hF F (List.mem_of_getElem? hF1)) ok3 (s1.trans s3) (valA_ok r3 hv) s
/-! ### a test that may raise -/
def xOpL (f : D → D → Option D) (g : GE) (b : GE) (ρ : Rho) : R D := (g ρ).bind fun d ρ1 => match b ρ1 with
  | .ok e ρ2 => R.lift (f d e) ρ2
  | _ => .bad
theorem xd_opL {r : R2} {f : D → D → Option D} {g b : GE} (sn : Sn2 K r f) (h : XD K Wx ta g) (hb : DE K tb b) : XD K Wx (tOp r ta tb) (xOpL f g b) := fun b0 B Z0 Z H σ ρ Q ok s => by
  refine h b0 B Z0 Z H σ ρ _ ok ?_
  unfold xOpL at s
  cases e : g ρ with
  | ok d ρ1 =>
    rw [e, R.ok_bind] at s
    intro v H1 Z1 ok1 s1 r1
    split at s
    · rename_i e' ρ2 e2
      refine hb b0 B Z0 Z1 H1 σ ρ1 e' ρ2 _ ok1 e2 fun v2 H2 Z2 ok2 s2 r2 => ?_
      cases e3 : f d e' with
      | none => rw [e3] at s; exact s.elim
      | some c =>
        rw [e3] at s
        exact sn b0 B Z0 Z2 H2 σ ρ2 v v2 d e' c Q ok2 ((r1.mono s2).bd ok2.zh) (r2.bd ok2.zh) e3 fun w H3 Z3 ok3 s3 r3 => s w H3 Z3 ok3 ((s1.trans s2).trans s3) r3
    · exact s.elim
  | ex c d ρ1 => rw [e] at s; exact s
  | bad => rw [e] at s; exact s
def sIfX (g : GE) (a b : GS) (ρ : Rho) : O := (g ρ).toX fun d ρ1 => match d with
  | .bool true => a ρ1
  | .bool false => b ρ1
  | _ => .bad
theorem ds_ifX {g : GE} {a b : GS} (h : XD K Wx te g) (ha : DS K Wx t a) (hb : DS K Wx u b) : DS K Wx (tIfS (tTest te) t u) (sIfX g a b) := fun b0 B Z0 Z H σ ρ E ok s => by
  refine h b0 B Z0 Z H σ ρ _ ok (Sat.toX s ok fun d ρ' _ s v H' Z' ok' r => ?_)
  split at s
  · cases r; exact ⟨true, rfl, ha b0 B Z0 Z' H' σ ρ' E ok' s⟩
  · cases r; exact ⟨false, rfl, hb b0 B Z0 Z' H' σ ρ' E ok' s⟩
  · exact s.elim
end
theorem mapL_len {F : List D → RX (List D)} {np : Nat} (h : ∀ ds, F ds ≠ .bad → ds.length = np) (ds : List D) (hb : RX.mapL F ds ≠ .bad) : ds.length = np := h ds fun e => hb (by unfold RX.mapL; rw [e])
theorem ofO_len {F : List D → Option D} {np : Nat} (h : ∀ ds d, F ds = some d → ds.length = np) (ds : List D) (hb : RX.ofO F ds ≠ .bad) : ds.length = np := by
  unfold RX.ofO at hb
  cases e : F ds with
  | some d => exact h ds d e
  | none => rw [e] at hb; exact absurd rfl hb
end DL

/-! DMf: own exception classes made by keyword. -/
namespace DLX
open PySem PySem.W PySem.Calls PyProof.Rows PySem.HandSPX
open Builtin Builtin.ObjectAttr
section
variable {M : Model} {A : Around} {E : Value → Shared → Prop} {h : Heap} {g : Array GenState} {d : Drawn} {t : Nat} {os : OsState}
variable {nm q : Str} {C N : Addr} {bs bm bmB : List Value} {hdct : Bool} {sn : List Str} {sub : List Value} {ab : Bool} {col : Option Bool} {dd : Option Addr} {k0 k1 k2 k3 k5 : Option Value} {B newId initId : String}
theorem check_new_kw (F : ExcBaseFacts B newId initId bmB) {f : Str} {u : Value} {Q : Unit → Shared → Prop}
    (hC : h.get? C = some (excClassObj nm q C N bs bmB hdct sn sub ab col dd k0 k1 k2 k3 k5 newId)) (hq : Q () ⟨h, g, d, t, os⟩) : wpAny M A (checkBuiltinCall newId ⟨[.ref C], [(f, u)]⟩) Q E ⟨h, g, d, t, os⟩ := by
  have hcont : (Value.ref C :: bmB).contains (.type B) = true := by rw [List.contains_cons, F.hasB, Bool.or_true]
  have hstar := F.noStar
  simp only [checkBuiltinCall, F.newKind, F.newSplit, F.newRow]
  repeat (first | refine wpAny_loadPart_at hC ?_ | (refine wpAny_isSubtype_exc hC ?_; rw [hcont]) | refine wpAny_staticBase_exc hC ?_ | refine wpAny_madeBy_exc hC ?_ | simp only [bne_self_eq_false, Bool.false_eq_true, if_false] | wp_step)
  exact hq
end
section
variable {prog : Program} {w : World} {A : Around} {E : Value → Shared → Prop} {R : Result → Shared → Prop} {h : Heap} {g : Array GenState} {d : Drawn} {t : Nat} {os : OsState}
variable {nm q : Str} {C N : Addr} {bs bmB : List Value} {hdct : Bool} {sn : List Str} {sub : List Value} {ab : Bool} {col : Option Bool} {dd : Option Addr} {k0 k1 k2 k3 k5 : Option Value} {B newId initId : String}
theorem new_kw (F : ExcBaseFacts B newId initId bmB) {f : Str} {u : Value}
    (hC : h.get? C = some (excClassObj nm q C N bs bmB hdct sn sub ab col dd k0 k1 k2 k3 k5 newId))
    (hq : R (.ok (.ret (.ref (h.objs.size + 1)))) ⟨(h.push { cls := .type "tuple", data := .seq #[] }).push
      { cls := .ref C, data := .fields #[.ref h.objs.size, .none, .none, .none, .bool false, .none] }, g, d, t, os⟩) :
    codeAny (model prog w) A (.builtin newId ⟨[.ref C], [(f, u)]⟩) R ⟨h, g, d, t, os⟩ := by
  have hends := F.ends
  have hcB : (Value.ref C :: bmB).contains (.type B) = true := by rw [List.contains_cons, F.hasB, Bool.or_true]
  have hcA : (Value.ref C :: bmB).contains (.type "AttributeError") = false := by rw [List.contains_cons, F.noAttr]; rfl
  have hcN : (Value.ref C :: bmB).contains (.type "NameError") = false := by rw [List.contains_cons, F.noName]; rfl
  refine codeAny_builtinAt F.entry ?_
  unfold Builtin.«BaseException.__new__»
  refine PySem.wpAt_bind ?_
  show PySem.wpAt _ _ _ (stack >>= _) _ _ _
  refine PySem.wpAt_bind (PySem.wpAt_stack fun p below => PySem.wpAt_of_wpAny ?_)
  wp_walk
  refine PySem.wpAt_of_wpAny ?_
  rw [F.owner]
  repeat (first | with_reducible refine wpAny_madeHere_exc F.canon hC ?_ | with_reducible refine wpAny_loadPart_at hC ?_ | (with_reducible refine wpAny_isSubtype_exc hC ?_; first | rw [hcB] | rw [hcA] | rw [hcN]) | wp_step)
  show R _ _
  rw [Heap.size_push]
  exact hq
theorem type_call_kw (F : ExcBaseFacts B newId initId bmB) {f : Str} {u : Value} {fI : Addr} {Q : Fin → Shared → Prop}
    (hC : h.get? C = some (excClassObj nm q C N bs bmB hdct sn sub ab col dd k0 k1 k2 k3 k5 newId))
    (hi : W.Looks (model prog w) h (typeLookup (.ref C) "__init__") (some (.ref fI))) (hb : ∀ self, W.Looks (model prog w) h (bindSpecial (.ref fI) self) (.ref fI, [self]))
    (hq : codeAny (model prog w) A (.call (.ref fI) ⟨[.ref (h.objs.size + 1)], [(f, u)]⟩)
      (fun r s' => match r with | .ok (.ret v) => v = .none ∧ Q (.done (.ret (.ref (h.objs.size + 1)))) s' | .ok _ => False | .error e => E e s')
      ⟨(h.push (W.kdv_tup [])).push (excO C h.objs.size), g, d, t, os⟩) :
    wpAny (model prog w) A (Builtin.«type.__call__» ⟨[.ref C], [(f, u)]⟩) Q E ⟨h, g, d, t, os⟩ := by
  repeat (first | with_reducible refine wpAny_loadPart_at hC ?_ | with_reducible refine wpAny_madeBy_exc hC ?_ | wp_step)
  refine codeAny_call_builtin_code (Code.quiet_builtin _ F.quiet) (check_new_kw F hC ?_)
  refine new_kw F hC ?_
  show wpAny _ _ _ _ _ _
  have k : ∀ b o, h.get? b = some o → ((h.push (W.kdv_tup [])).push (excO C h.objs.size)).get? b = some o := fun b o e => Heap.get?_push_of_some _ (Heap.get?_push_of_some _ e)
  have hC₁ := k _ _ hC
  have hget : ((h.push (W.kdv_tup [])).push (excO C h.objs.size)).get? (h.objs.size + 1) = some (excO C h.objs.size) := by heap_get
  have hcC : (Value.ref C :: bmB).contains (.ref C) = true := by simp
  have i1 := hi.keeps k
  have b1 := (hb (.ref (h.objs.size + 1))).keeps k
  unfold isInstance
  repeat (first | with_reducible refine wpAny_loadPart_at hget ?_ | (with_reducible refine wpAny_isSubtype_exc hC₁ ?_; rw [hcC]) | wp_step)
  show wpAny _ _ (typeLookup (.ref C) _) _ _ _
  refine i1.at ?_
  refine wpAny_holding (wpAny_bind (b1.at ?_))
  refine wpAny_bind (wpAny_call (codeAny_mono hq fun r s' z => ?_))
  rcases r with e | (v | _ | _ | _) <;> first | exact z | exact z.elim | skip
  obtain ⟨rfl, z⟩ := z
  first
    | exact wpAny_pure (wpAny_pure z)
    | (wp_walk; exact z)
theorem check_tc_kw {M : Model} {f : Str} {u : Value} {Q : Unit → Shared → Prop} (hC : h.get? C = some (excClassObj nm q C N bs bmB hdct sn sub ab col dd k0 k1 k2 k3 k5 newId))
    (hq : Q () ⟨h, g, d, t, os⟩) : wpAny M A (checkBuiltinCall "type.__call__" ⟨[.ref C], [(f, u)]⟩) Q E ⟨h, g, d, t, os⟩ := by
  have f3 := tc_sub
  have hT : (⟨h, g, d, t, os⟩ : Shared).TypeIs (.ref C) "type" := ⟨_, hC, rfl⟩
  simp only [checkBuiltinCall, tc_kind, tc_split]
  repeat (any_goals (first | assumption | with_reducible refine wpAny_loadPart_at hC ?_ | with_reducible refine wpAny_onRaise ?_ | with_reducible refine wpAny_map ?_ | wp_step))
theorem call_kw (F : ExcBaseFacts B newId initId bmB) {f : Str} {u : Value} {fI : Addr}
    (hC : h.get? C = some (excClassObj nm q C N bs bmB hdct sn sub ab col dd k0 k1 k2 k3 k5 newId))
    (hi : W.Looks (model prog w) h (typeLookup (.ref C) "__init__") (some (.ref fI))) (hb : ∀ self, W.Looks (model prog w) h (bindSpecial (.ref fI) self) (.ref fI, [self]))
    (hq : codeAny (model prog w) (A.under (.builtin "type.__call__" ⟨[.ref C], [(f, u)]⟩)) (.call (.ref fI) ⟨[.ref (h.objs.size + 1)], [(f, u)]⟩) (W.InitBack (h.objs.size + 1) R)
      ⟨(h.push (W.kdv_tup [])).push (excO C h.objs.size), g, d, t, os⟩) :
    codeAny (model prog w) A (.call (.ref C) ⟨[], [(f, u)]⟩) R ⟨h, g, d, t, os⟩ := by
  have f1 := tc_lookup
  have f2 := tc_bind (.ref C)
  have hTy : (⟨h, g, d, t, os⟩ : Shared).TypeIs (.ref C) "type" := ⟨_, hC, rfl⟩
  refine codeAny_of_tree ?_
  show wpAny _ _ (callAny (.ref C) _) _ _ _
  repeat (any_goals (first | assumption | with_reducible refine wpAny_loadPart_at hC ?_ | wp_step))
  refine ⟨rfl, ?_⟩
  refine codeAny_call_builtin_at (Code.quiet_builtin _ (by decide +kernel)) entry_typeCall (check_tc_kw hC (type_call_kw F hC hi hb ?_))
  refine codeAny_mono hq fun r s' z => ?_
  rcases r with e | (v | _ | _ | _) <;> exact z
end
end DLX
namespace DL
open PySem PySem.Spec PyProof.Rows L2 DLX
/-- the keyword of an __init__ -/
def KwI (K : PySem.W.Frag) (fd : FuncData) (f : Str) : Prop := ∀ (s : Shared) (a u : Value), K.In s.heap → BindsTo s fd ⟨[a], [(f, u)]⟩ ((["self", f] : List Str).zip [a, u])
structure OxK (P : Program) (w : World) (K : PySem.W.Frag) (mg : Str → Option Value) (base : Heap) (nw : String) (tl : List Value) (C : Addr) (f : Str) : Prop where
  c : OxC K nw tl C
  no : PySem.W.findIn K (.ref C) f = some none
  i : ∃ (fI : Addr) (fd : FuncData), PySem.W.findIn K (.ref C) "__init__" = some (some (.ref fI)) ∧ PySem.W.typeIn K (.ref fI) = some (.type "function") ∧ FnOk P w K mg base CX0 1 fI fd ["self", f] (spIni K nw tl f) ∧ KwI K fd f
section
variable {X : Cx} {ta : TA} {f x : Str} {p pos : Pos} {C : Addr} {B nw ini : String} {tl : List Value}
theorem ox_callK {pins : List (Addr × Obj)} {σ : L2.St} {H1 : Hp} {s1 : Shared} {v : V} {u : Value} {Q : Value → Shared → Prop} {EE : Value → Shared → Prop} (bs : Bs B nw ini tl) (T : OxK X.prog X.w X.K X.mg X.base nw tl C f) (hr : Room 2 X.A) (I1 : Inv X pins σ H1 s1) (r : RelV v u)
    (h : ∀ (a d : Addr) (k2 : Heap) (H2 : Hp) (s2 : Shared), s1.heap.objs.size ≤ a → (∀ b o, s1.heap.get? b = some o → k2.get? b = some o) → H1 a = none → H1 d = none → d ≠ a → H2 = upd (upd (upd H1 a (exo a C none)) d (exd d [(f, v)])) a (exo a C (some d)) →
      Un (frs X.stack) [] (upd H1 a (exo a C none)) H2 k2 s2.heap → HOk X.prog X.w H2 s2.heap → s2.os = s1.os → AllBare s2.gens → Inv X pins σ H2 s2 → Q (.ref a) s2) :
    wpAny (model X.prog X.w) X.A (call (.ref C) [] [(f, u)]) Q EE s1 := by
  obtain ⟨nm, q, N, bss, sn, sub, ab, col, dd, k0, k1, k2, k3, k5, hC⟩ := T.c.cls
  obtain ⟨fI, fd, iC, tI, F1, hb⟩ := T.i
  obtain ⟨hp, g, dr, tk, os⟩ := s1
  have up1 : hp.objs.size ≤ hp.objs.size + 1 := Nat.le_succ _
  have fr1 : H1 (hp.objs.size + 1) = none := I1.hok.fresh up1
  have kk : ∀ b o, hp.get? b = some o → ((hp.push (PySem.W.kdv_tup [])).push (PySem.HandSPX.excO C hp.objs.size)).get? b = some o := fun b o e => Heap.get?_push_of_some _ (Heap.get?_push_of_some _ e)
  have hget : ((hp.push (PySem.W.kdv_tup [])).push (PySem.HandSPX.excO C hp.objs.size)).get? (hp.objs.size + 1) = some (PySem.HandSPX.excO C hp.objs.size) := by heap_get
  have I2 : Inv X pins σ (upd H1 (hp.objs.size + 1) (exo (hp.objs.size + 1) C none)) ⟨(hp.push (PySem.W.kdv_tup [])).push (PySem.HandSPX.excO C hp.objs.size), g, dr, tk, os⟩ := I1.laid (t' := tk) kk up1 (exo_ok hget)
  have r2 : Vals [V.ref (hp.objs.size + 1), v] [Value.ref (hp.objs.size + 1), u] := .cons rfl (.cons r .nil)
  refine wpAny_call (DLX.call_kw bs.f (I1.kIn _ _ hC) (PySem.W.looks_findIn I1.kIn iC) (fun self => PySem.W.bind_fn I1.kIn self tI)
    (codeAny_mono (F1.run _ X.stack _ (upd H1 (hp.objs.size + 1) (exo (hp.objs.size + 1) C none)) ⟨[.ref (hp.objs.size + 1)], [(f, u)]⟩ [.ref (hp.objs.size + 1), u] [.ref (hp.objs.size + 1), v]
      (fun v' H2 => v' = .non ∧ ∃ d, H1 d = none ∧ d ≠ hp.objs.size + 1 ∧ H2 = upd (upd (upd H1 (hp.objs.size + 1) (exo (hp.objs.size + 1) C none)) d (exd d [(f, v)])) (hp.objs.size + 1) (exo (hp.objs.size + 1) C (some d))) (fun _ _ _ => False)
      (hr.make C [] [(f, u)]) (I2.env0.make C [] [(f, u)]) (hb _ (.ref (hp.objs.size + 1)) u I2.kIn) r2 ?_) fun r s' hq' => ?_))
  · refine ⟨_, C, v, rfl, T.c, T.no, upd_same, fun dx hdx hne => ⟨rfl, dx, ?_, hne, rfl⟩⟩
    rw [upd_ne hne] at hdx; exact hdx
  · cases r with
    | error er => exact hq'.elim
    | ok fl =>
      cases fl with
      | ret u' =>
        have J := I2.after hq'
        obtain ⟨v', H2, J2, _, _⟩ := J
        obtain ⟨v2, H3, os2, bare2, un2, hok2, rv, ev, d, hd, dne, eH⟩ := hq'
        subst ev
        refine ⟨rv, h _ d _ H3 s' up1 kk fr1 hd dne eH un2 hok2 os2 bare2 ?_⟩
        have K2 := I2.after (Q := fun v' H2 => v' = .non ∧ H2 = H3) ⟨.non, H3, os2, bare2, un2, hok2, rv, rfl, rfl⟩
        obtain ⟨_, _, J3, _, _, e3⟩ := K2
        rw [← e3]; exact J3
      | next => exact hq'.elim
      | brk => exact hq'.elim
      | cont => exact hq'.elim
theorem pe_oxK {kws : List Keyword} (bs : Bs B nw ini tl) (T : OxK X.prog X.w X.K X.mg X.base nw tl C f) (hr : Room 2 X.A) (hg : Gl X x) (hm : X.mg x = some (.ref C)) (ha : PK X kws ta) (hdb : (x == ("__debug__" : Str)) = false := by decide)
    (c1 : (backToKw pos (keywordEach kws X.env)).all (·.1.isSome) = true := by rfl) (c2 : (backToKw pos (keywordEach kws X.env)).filterMap (·.1) = [f] := by rfl)
    (c4 : ((backTo pos (starEach [] X.env)).any (·.1) || (backToKw pos (keywordEach kws X.env)).any (·.1.isNone)) = false := by rfl) : PE X (.Call (.Name x p) [] kws pos) (tMkV C f ta) := by
  refine ⟨fun pins s σ H Q I h => wpAny_Call_Name_kw (ld_glob I hg hm (PySem.W.callWith_KW0 (h₀ := X.base) I.ok.mod.kin T.c.kp c1 ?_ c4) hdb)⟩
  refine thn (ha.run pos pins s σ H _ I h) fun us s1 hh => ?_
  obtain ⟨vs, H1, I1, r1, v, rfl, q1⟩ := hh
  refine ⟨I1.kIn, ?_⟩
  rw [c2]
  cases r1 with
  | cons rv rn =>
    cases rn
    refine ox_callK bs T hr I1 rv fun a d k2 H2 s2 ha1 kk na nd ne eH un2 hok2 os2 bare2 J => ?_
    have ea : H2 a = some (exo a C (some d)) := by rw [eH]; exact upd_same
    have ed : H2 d = some (exd d [(f, v)]) := by rw [eH, upd_ne ne]; exact upd_same
    obtain ⟨t1, ho⟩ := exo_at hok2 ea
    obtain ⟨mA, hn, rel⟩ := exd_at hok2 ed
    obtain ⟨h2, g2, d2, t2, os2'⟩ := s2
    have J1 := J.write (t' := t2) (h' := h2) (x := a) (e := a) (o := exk a C d) (by rw [ea]; exact True.intro) (.inl rfl) (fun b u _ q => q) ⟨_, ho⟩ (exk_ok ho ⟨rfl, rfl⟩ rfl)
    have ed1 : upd H2 a (exk a C d) d = some (exd d [(f, v)]) := by rw [upd_ne ne]; exact ed
    obtain ⟨od, _, _, hod, _⟩ := id hn
    have J2 := J1.write (t' := t2) (h' := h2) (x := d) (e := d) (o := .xd [(f, v)]) (by rw [ed1]; exact True.intro) (.inl rfl) (fun b u _ q => q) ⟨_, hod⟩ ⟨mA, hn, rel⟩
    have eq : upd (upd H2 a (exk a C d)) d (.xd [(f, v)]) = upd (upd H1 d (.xd [(f, v)])) a (exk a C d) := funext fun b => by
      by_cases hba : b = a
      · rw [hba, upd_ne (Ne.symm ne), upd_same, upd_same]
      · rw [upd_ne hba]
        by_cases hb : b = d
        · rw [hb, upd_same, upd_same]
        · rw [upd_ne hb, upd_ne hb, upd_ne hba, eH, upd_ne hba, upd_ne hb, upd_ne hba]
    rw [eq] at J2
    exact ⟨.ref a, _, J2, rfl, q1 a d na nd ne⟩
end
end DL

/-! DMg: str of an int or a text. -/
namespace DL
open PySem PySem.Spec PyProof.Rows L2
def strD : List D → Option D
  | [.int i] => if i.natAbs.log2 < 1920 then some (.str (toString i)) else none
  | [.str a] => some (.str a)
  | _ => none
def rStr1 : List V → Hp → VK → Prop := fun xs H Q => (∃ i, xs = [.int i] ∧ i.natAbs.log2 < 1920 ∧ Q (.str (toString i)) H) ∨ ∃ a, xs = [.str a] ∧ Q (.str a) H
theorem call_strU {X : Cx} : CallR X (.type "str") rStr1 := by
  intro pins s σ H xs us Q I r h
  rcases h with h | h
  · exact call_str_int pins s σ H xs us Q I r h
  · exact SkE.call_str_str pins s σ H xs us Q I r h
theorem sn_str {K : PySem.W.Frag} : SnA K rStr1 strD := fun b0 B Z0 Z H σ ρ xs as c Q ok ha e q => by
  unfold strD at e
  split at e
  · split at e
    · cases e
      cases ha with
      | cons h h' =>
      cases h'; cases h
      exact .inl ⟨_, rfl, ‹_›, q _ H Z ok (Same.refl Z) (.str _)⟩
    · cases e
  · cases e
    cases ha with
    | cons h h' =>
    cases h'; cases h
    exact .inr ⟨_, rfl, q _ H Z ok (Same.refl Z) (.str _)⟩
  · cases e
end DL

namespace W
open PySem L2 DL
def topS (i : Nat) : Stmt := PySem.Challenge.pw_middlecall_k91_errors_made.main.body.getD i (.Pass ⟨0, 0, 0, 0⟩)
abbrev CsL : List Str := ["NotWay", "OtherPeople", "NoDeed", "NoNumber", "NoPlace", "NoPerson", "BadLine", "BadText", "BadDeed", "Full", "TooMany", "Barred"]
abbrev UsL : List Str := ["ValueError", "LookupError", "OverflowError", "RuntimeError", "NoNumber", "NoPlace", "NoPerson", "NotWay", "OtherPeople", "NoDeed", "BadLine", "BadText", "BadDeed", "Full", "TooMany", "Barred", "KeyError", "IndexError", "NotImplementedError"]
abbrev tl_ValueError : List Value := [.type "ValueError", .type "Exception", .type "BaseException", .type "object"]
abbrev tl_LookupError : List Value := [.type "LookupError", .type "Exception", .type "BaseException", .type "object"]
abbrev tl_OverflowError : List Value := [.type "OverflowError", .type "ArithmeticError", .type "Exception", .type "BaseException", .type "object"]
abbrev tl_RuntimeError : List Value := [.type "RuntimeError", .type "Exception", .type "BaseException", .type "object"]
abbrev si_NotWay : Stmt := inClass (topS 6) 0
theorem sci_NotWay : FnScope ["self", "calls"] ["self", "calls"] (defScope si_NotWay) := ⟨rfl, rfl, rfl, by decide +kernel, rfl, by decide +kernel, by decide +kernel⟩
abbrev si_OtherPeople : Stmt := inClass (topS 5) 0
theorem sci_OtherPeople : FnScope ["self", "many"] ["self", "many"] (defScope si_OtherPeople) := ⟨rfl, rfl, rfl, by decide +kernel, rfl, by decide +kernel, by decide +kernel⟩
abbrev si_NoDeed : Stmt := inClass (topS 4) 0
theorem sci_NoDeed : FnScope ["self", "many"] ["self", "many"] (defScope si_NoDeed) := ⟨rfl, rfl, rfl, by decide +kernel, rfl, by decide +kernel, by decide +kernel⟩
abbrev si_NoNumber : Stmt := inClass (topS 3) 0
theorem sci_NoNumber : FnScope ["self", "number"] ["self", "number"] (defScope si_NoNumber) := ⟨rfl, rfl, rfl, by decide +kernel, rfl, by decide +kernel, by decide +kernel⟩
abbrev si_NoPlace : Stmt := inClass (topS 2) 0
theorem sci_NoPlace : FnScope ["self", "place"] ["self", "place"] (defScope si_NoPlace) := ⟨rfl, rfl, rfl, by decide +kernel, rfl, by decide +kernel, by decide +kernel⟩
abbrev si_NoPerson : Stmt := inClass (topS 1) 0
theorem sci_NoPerson : FnScope ["self", "person"] ["self", "person"] (defScope si_NoPerson) := ⟨rfl, rfl, rfl, by decide +kernel, rfl, by decide +kernel, by decide +kernel⟩
abbrev si_BadLine : Stmt := inClass (topS 9) 0
theorem sci_BadLine : FnScope ["self", "at"] ["self", "at"] (defScope si_BadLine) := ⟨rfl, rfl, rfl, by decide +kernel, rfl, by decide +kernel, by decide +kernel⟩
abbrev si_BadText : Stmt := inClass (topS 8) 0
theorem sci_BadText : FnScope ["self", "text"] ["self", "text"] (defScope si_BadText) := ⟨rfl, rfl, rfl, by decide +kernel, rfl, by decide +kernel, by decide +kernel⟩
abbrev si_BadDeed : Stmt := inClass (topS 7) 0
theorem sci_BadDeed : FnScope ["self", "at"] ["self", "at"] (defScope si_BadDeed) := ⟨rfl, rfl, rfl, by decide +kernel, rfl, by decide +kernel, by decide +kernel⟩
abbrev si_Full : Stmt := inClass (topS 12) 0
theorem sci_Full : FnScope ["self", "many"] ["self", "many"] (defScope si_Full) := ⟨rfl, rfl, rfl, by decide +kernel, rfl, by decide +kernel, by decide +kernel⟩
abbrev si_TooMany : Stmt := inClass (topS 11) 0
theorem sci_TooMany : FnScope ["self", "many"] ["self", "many"] (defScope si_TooMany) := ⟨rfl, rfl, rfl, by decide +kernel, rfl, by decide +kernel, by decide +kernel⟩
abbrev si_Barred : Stmt := inClass (topS 10) 0
theorem sci_Barred : FnScope ["self", "reason"] ["self", "reason"] (defScope si_Barred) := ⟨rfl, rfl, rfl, by decide +kernel, rfl, by decide +kernel, by decide +kernel⟩
abbrev s__law_bases : Stmt := topS 15
abbrev N__law_bases : List Str := ["_law_made", "_law_found"]
theorem sc__law_bases : FnScope N__law_bases ["_law_made"] (defScope s__law_bases) := ⟨rfl, rfl, rfl, by decide +kernel, rfl, by decide +kernel, by decide +kernel⟩
def g__law_bases : GS :=
    (sSeq (sSet 1 (eL (eSeq (aCons (oE (eOp1 (isX CsL ["LookupError"]) (oE (eV 0)))) (aCons (oE (eOp1 (isX CsL ["ValueError"]) (oE (eV 0)))) aNil)))))
    (sRetF (eOp2 addL (oE (eV 1)) (oE (eL (eSeq (aCons (oE (eOp1 (isX CsL ["RuntimeError"]) (oE (eV 0)))) (aCons (oE (eOp1 (isX CsL ["OverflowError"]) (oE (eV 0)))) aNil))))))))
def F__law_bases : List D → Option (List D) := callF 1 2 g__law_bases
abbrev s__law_kinds : Stmt := topS 16
abbrev N__law_kinds : List Str := ["_law_made", "_law_found"]
theorem sc__law_kinds : FnScope N__law_kinds ["_law_made"] (defScope s__law_kinds) := ⟨rfl, rfl, rfl, by decide +kernel, rfl, by decide +kernel, by decide +kernel⟩
def g__law_kinds : GS :=
    (sSeq (sSet 1 (eL (eSeq (aCons (oE (eOp1 (isX CsL ["NoPerson"]) (oE (eV 0)))) (aCons (oE (eOp1 (isX CsL ["NoPlace"]) (oE (eV 0)))) (aCons (oE (eOp1 (isX CsL ["NoNumber"]) (oE (eV 0)))) aNil))))))
    (sSeq (sSet 1 (eOp2 addU (oE (eV 1)) (oE (eL (eSeq (aCons (oE (eOp1 (isX CsL ["NoDeed"]) (oE (eV 0)))) (aCons (oE (eOp1 (isX CsL ["OtherPeople"]) (oE (eV 0)))) (aCons (oE (eOp1 (isX CsL ["NotWay"]) (oE (eV 0)))) aNil))))))))
    (sSeq (sSet 1 (eOp2 addU (oE (eV 1)) (oE (eL (eSeq (aCons (oE (eOp1 (isX CsL ["BadDeed"]) (oE (eV 0)))) (aCons (oE (eOp1 (isX CsL ["BadText"]) (oE (eV 0)))) (aCons (oE (eOp1 (isX CsL ["BadLine"]) (oE (eV 0)))) aNil))))))))
    (sRetF (eOp2 addL (oE (eV 1)) (oE (eL (eSeq (aCons (oE (eOp1 (isX CsL ["Barred"]) (oE (eV 0)))) (aCons (oE (eOp1 (isX CsL ["TooMany"]) (oE (eV 0)))) (aCons (oE (eOp1 (isX CsL ["Full"]) (oE (eV 0)))) aNil)))))))))))
def F__law_kinds : List D → Option (List D) := callF 1 2 g__law_kinds
abbrev s__law_all_right : Stmt := topS 17
abbrev N__law_all_right : List Str := ["_law_made", "_law_base", "_law_k_at", "_law_error", "_law_k"]
theorem sc__law_all_right : FnScope N__law_all_right ["_law_made", "_law_base"] (defScope s__law_all_right) := ⟨rfl, rfl, rfl, by decide +kernel, rfl, by decide +kernel, by decide +kernel⟩
def ce__law_all_right_1 : GE :=
    (eOp2 eqW (oE (eV 4)) (oE (eV 2)))
def ct__law_all_right_2 : GT :=
    (tAndG (tstE (eOp2 neW (oE (eV 4)) (oE (eOp2 ixD (oE (eV 1)) (oE (eV 2)))))) (tstE (eOp2 ixD (oE (eL (eCall F__law_bases (aCons (oE (eV 3)) aNil)))) (oE (eV 4)))))
def ce__law_all_right_3 : GE :=
    (eV 4)
def gb__law_all_right_4 : GS :=
    (sSeq (sIf (tstE (eOp2 neW (oE (eL (eCall F__law_kinds (aCons (oE (eV 3)) aNil)))) (oE (eL (eLc [4] (eCall rng1 (aCons (oE (eC (.int 12))) aNil)) (gN 4) gYes ce__law_all_right_1))))) (sRet (eC (.bool false)))
    sNext)
    (sSeq (sIf (tstE (eOp2 isNotBD (oE (eOp2 ixD (oE (eL (eCall F__law_bases (aCons (oE (eV 3)) aNil)))) (oE (eOp2 ixD (oE (eV 1)) (oE (eV 2)))))) (oE (eC (.bool true))))) (sRet (eC (.bool false)))
    sNext)
    (sSeq (sIf (tstE (eOp1 (isX CsL ["KeyError", "IndexError", "NotImplementedError"]) (oE (eV 3)))) (sRet (eC (.bool false)))
    sNext)
    (sIf (tstE (eOp2 neW (oE (eL (eLc [4] (eCall rng1 (aCons (oE (eC (.int 4))) aNil)) (gN 4) ct__law_all_right_2 ce__law_all_right_3))) (oE (eL (eSeq aNil))))) (sRet (eC (.bool false)))
    sNext))))
def g__law_all_right : GS :=
    (sSeq (sFor (eCall enum1D (aCons (oE (eV 0)) aNil)) (gT 2 (gsCons (gN 2) (gsCons (gN 3) gsNil))) gb__law_all_right_4)
    (sRet (eC (.bool true))))
def F__law_all_right : List D → Option D := callP 2 5 g__law_all_right
abbrev s__law_same : Stmt := topS 14
abbrev N__law_same : List Str := ["_law_found", "_law_due", "_law_mine", "_law_its"]
theorem sc__law_same : FnScope N__law_same ["_law_found", "_law_due"] (defScope s__law_same) := ⟨rfl, rfl, rfl, by decide +kernel, rfl, by decide +kernel, by decide +kernel⟩
def ce__law_same_1 (Frec : List D → Option D) : GE :=
    (eCall Frec (aCons (oE (eV 2)) (aCons (oE (eV 3)) aNil)))
def g__law_same (Frec : List D → Option D) : GS :=
    (sSeq (sIf (tstE (eOp1 (isiTD ["list", "tuple"]) (oE (eV 1)))) (sSeq (sIf (tOrG (tstE (eOp2 neW (oE (eOp1 (isiD "list") (oE (eV 0)))) (oE (eOp1 (isiD "list") (oE (eV 1)))))) (tstE (eOp2 neW (oE (eOp1 (isiD "tuple") (oE (eV 0)))) (oE (eOp1 (isiD "tuple") (oE (eV 1))))))) (sRet (eC (.bool false)))
    sNext)
    (sRet (eAndG (eOp2 eqW (oE (eApp lenD (aCons (oE (eV 0)) aNil))) (oE (eApp lenD (aCons (oE (eV 1)) aNil)))) (eApp allD (aCons (oE (eL (eLc [2, 3] (eCall zip2D (aCons (oE (eV 0)) (aCons (oE (eV 1)) aNil))) (gT 2 (gsCons (gN 2) (gsCons (gN 3) gsNil))) gYes (ce__law_same_1 Frec)))) aNil)))))
    sNext)
    (sSeq (sIf (tOrG (tstE (eOp2 isD (oE (eV 1)) (oE (eC .none)))) (tstE (eOp1 (isiTD ["bool", "str"]) (oE (eV 1))))) (sRet (eAndG (eOp2 eqW (oE (eV 0)) (oE (eV 1))) (eAndG (eOp2 eqW (oE (eOp1 (isiD "bool") (oE (eV 0)))) (oE (eOp1 (isiD "bool") (oE (eV 1))))) (eOp2 eqW (oE (eOp2 isD (oE (eV 0)) (oE (eC .none)))) (oE (eOp2 isD (oE (eV 1)) (oE (eC .none))))))))
    sNext)
    (sRet (eAndG (eOp1 (isiD "int") (oE (eV 0))) (eAndG (eNotG (eOp1 (isiD "bool") (oE (eV 0)))) (eOp2 eqW (oE (eV 0)) (oE (eV 1))))))))
def F__law_same : Nat → List D → Option D
  | 0 => fun _ => none
  | n + 1 => callP 2 4 (g__law_same (F__law_same n))
theorem Fl__law_same : ∀ (n : Nat) ds d, F__law_same n ds = some d → ds.length = 2
  | 0, ds, d, h => nomatch h
  | n + 1, ds, d, h => callP_len ds d h
abbrev s__law_right : Stmt := topS 18
abbrev N__law_right : List Str := ["_law_cell", "_law_message", "_law_why", "_law_tape", "_law_made", "_law_found", "_law_due"]
theorem sc__law_right : FnScope N__law_right ["_law_cell"] (defScope s__law_right) := ⟨rfl, rfl, rfl, by decide +kernel, rfl, by decide +kernel, by decide +kernel⟩
def g__law_right : GS :=
    (sSeq (sPar3 1 2 3 (nS (eOp2 addU (oE (eC (.str "x"))) (oE (eApp strD (aCons (oE (eV 0)) aNil))))) (nS (eT (eSeq (aCons (oE (eC (.str "order"))) (aCons (oE (eV 0)) aNil))))) (nS (eL (eSeq (aCons (oE (eV 0)) (aCons (oE (eC (.int 0))) aNil))))))
    (sSeq (sSet 4 (eL (eSeq (aCons (oE (eMk "NoPerson" (eV 0))) (aCons (oE (eMk "NoPlace" (eV 0))) (aCons (oE (eMk "NoNumber" (eV 0))) (aCons (oE (eMk "NoDeed" (eV 0))) (aCons (oE (eMk "OtherPeople" (eV 0))) (aCons (oE (eMk "NotWay" (eV 3))) aNil)))))))))
    (sSeq (sSet 4 (eOp2 addU (oE (eV 4)) (oE (eL (eSeq (aCons (oE (eMk "BadDeed" (eV 0))) (aCons (oE (eMk "BadText" (eV 1))) (aCons (oE (eMk "BadLine" (eV 0))) aNil))))))))
    (sSeq (sSet 4 (eOp2 addU (oE (eV 4)) (oE (eL (eSeq (aCons (oE (eMk "Barred" (eV 2))) (aCons (oE (eMk "TooMany" (eOp2 addU (oE (eV 0)) (oE (eC (.int 300)))))) (aCons (oE (eMk "Full" (eOp2 addU (oE (eV 0)) (oE (eC (.int 15)))))) aNil))))))))
    (sSeq (sSet 5 (eL (eSeq (aCons (oE (eOp1 (fldD CsL "person") (oE (eOp2 ixD (oE (eV 4)) (oE (eC (.int 0))))))) (aCons (oE (eOp1 (fldD CsL "place") (oE (eOp2 ixD (oE (eV 4)) (oE (eC (.int 1))))))) (aCons (oE (eOp1 (fldD CsL "number") (oE (eOp2 ixD (oE (eV 4)) (oE (eC (.int 2))))))) (aCons (oE (eOp1 (fldD CsL "many") (oE (eOp2 ixD (oE (eV 4)) (oE (eC (.int 3))))))) aNil)))))))
    (sSeq (sSet 5 (eOp2 addU (oE (eV 5)) (oE (eL (eSeq (aCons (oE (eOp1 (fldD CsL "many") (oE (eOp2 ixD (oE (eV 4)) (oE (eC (.int 4))))))) (aCons (oE (eOp1 (fldD CsL "calls") (oE (eOp2 ixD (oE (eV 4)) (oE (eC (.int 5))))))) (aCons (oE (eOp1 (fldD CsL "at") (oE (eOp2 ixD (oE (eV 4)) (oE (eC (.int 6))))))) aNil))))))))
    (sSeq (sSet 5 (eOp2 addU (oE (eV 5)) (oE (eL (eSeq (aCons (oE (eOp1 (fldD CsL "text") (oE (eOp2 ixD (oE (eV 4)) (oE (eC (.int 7))))))) (aCons (oE (eOp1 (fldD CsL "at") (oE (eOp2 ixD (oE (eV 4)) (oE (eC (.int 8))))))) (aCons (oE (eOp1 (fldD CsL "reason") (oE (eOp2 ixD (oE (eV 4)) (oE (eC (.int 9))))))) (aCons (oE (eOp1 (fldD CsL "many") (oE (eOp2 ixD (oE (eV 4)) (oE (eC (.int 10))))))) (aCons (oE (eOp1 (fldD CsL "many") (oE (eOp2 ixD (oE (eV 4)) (oE (eC (.int 11))))))) aNil))))))))))
    (sSeq (sSet 6 (eOp2 addU (oE (eOp2 mulV (oE (eL (eSeq (aCons (oE (eV 0)) aNil)))) (oE (eC (.int 5))))) (oE (eL (eSeq (aCons (oE (eV 3)) (aCons (oE (eV 0)) (aCons (oE (eV 1)) (aCons (oE (eV 0)) (aCons (oE (eV 2)) (aCons (oE (eOp2 addU (oE (eV 0)) (oE (eC (.int 300))))) (aCons (oE (eOp2 addU (oE (eV 0)) (oE (eC (.int 15))))) aNil))))))))))))
    (sSeq (sIf (tOrG (tNotG (tstE (eCall (F__law_same 6) (aCons (oE (eV 5)) (aCons (oE (eV 6)) aNil))))) (tNotG (tstE (eCall F__law_all_right (aCons (oE (eV 4)) (aCons (oE (eL (eSeq (aCons (oE (eC (.int 0))) (aCons (oE (eC (.int 0))) (aCons (oE (eC (.int 0))) (aCons (oE (eC (.int 0))) (aCons (oE (eC (.int 1))) (aCons (oE (eC (.int 1))) (aCons (oE (eC (.int 1))) (aCons (oE (eC (.int 1))) (aCons (oE (eC (.int 1))) (aCons (oE (eC (.int 2))) (aCons (oE (eC (.int 3))) (aCons (oE (eC (.int 3))) aNil))))))))))))))) aNil)))))) (sRet (eC (.bool false)))
    sNext)
    (sSeq (sSet 5 (eL (eSeq (aCons (oE (eOp1 (fldD CsL "person") (oE (eMk "NoPerson" (eV 0))))) (aCons (oE (eOp1 (fldD CsL "place") (oE (eMk "NoPlace" (eV 0))))) (aCons (oE (eOp1 (fldD CsL "number") (oE (eMk "NoNumber" (eV 0))))) aNil))))))
    (sSeq (sSet 5 (eOp2 addU (oE (eV 5)) (oE (eL (eSeq (aCons (oE (eOp1 (fldD CsL "many") (oE (eMk "NoDeed" (eV 0))))) (aCons (oE (eOp1 (fldD CsL "many") (oE (eMk "OtherPeople" (eV 0))))) (aCons (oE (eOp1 (fldD CsL "calls") (oE (eMk "NotWay" (eV 3))))) aNil))))))))
    (sSeq (sSet 5 (eOp2 addU (oE (eV 5)) (oE (eL (eSeq (aCons (oE (eOp1 (fldD CsL "at") (oE (eMk "BadDeed" (eV 0))))) (aCons (oE (eOp1 (fldD CsL "text") (oE (eMk "BadText" (eV 1))))) (aCons (oE (eOp1 (fldD CsL "at") (oE (eMk "BadLine" (eV 0))))) aNil))))))))
    (sSeq (sSet 5 (eOp2 addU (oE (eV 5)) (oE (eL (eSeq (aCons (oE (eOp1 (fldD CsL "reason") (oE (eMk "Barred" (eV 2))))) (aCons (oE (eOp1 (fldD CsL "many") (oE (eMk "TooMany" (eOp2 addU (oE (eV 0)) (oE (eC (.int 300)))))))) (aCons (oE (eOp1 (fldD CsL "many") (oE (eMk "Full" (eOp2 addU (oE (eV 0)) (oE (eC (.int 15)))))))) aNil))))))))
    (sRet (eCall (F__law_same 6) (aCons (oE (eV 5)) (aCons (oE (eV 6)) aNil)))))))))))))))))
def F__law_right : List D → Option D := callP 1 7 g__law_right
abbrev s_law : Stmt := topS 19
abbrev N_law : List Str := ["_law_script", "_law_cells", "_law_cell"]
theorem sc_law : FnScope N_law ["_law_script"] (defScope s_law) := ⟨rfl, rfl, rfl, by decide +kernel, rfl, by decide +kernel, by decide +kernel⟩
def ce_law_1 : GE :=
    (eOp2 addU (oE (eOp2 modD (oE (eApp absD (aCons (oE (eV 2)) aNil))) (oE (eC (.int 39))))) (oE (eC (.int 1))))
def ce_law_2 : GE :=
    (eCall F__law_right (aCons (oE (eV 2)) aNil))
def g_law : GS :=
    (sSeq (sSet 1 (eOp2 addU (oE (eL (eLc [2] (gSeq (eSl sliceU (oE (eV 0)) pNo (pSo (eC (.int 8))))) (gN 2) gYes ce_law_1))) (oE (eL (eSeq (aCons (oE (eC (.int 1))) aNil))))))
    (sRet (eApp allD (aCons (oE (eL (eLc [2] (gSeq (eV 1)) (gN 2) gYes ce_law_2))) aNil))))
def F_law : List D → Option D := callP 1 3 g_law
structure Tx (K : PySem.W.Frag) (mg : Str → Option Value) where
  a__law_bases : Addr
  d__law_bases : FuncData
  F__law_bases : Fun K "_law_bases" "_law_bases" s__law_bases a__law_bases d__law_bases
  m__law_bases : mg "_law_bases" = some (.ref a__law_bases)
  b__law_bases : Binds K d__law_bases ["_law_made"] []
  a__law_kinds : Addr
  d__law_kinds : FuncData
  F__law_kinds : Fun K "_law_kinds" "_law_kinds" s__law_kinds a__law_kinds d__law_kinds
  m__law_kinds : mg "_law_kinds" = some (.ref a__law_kinds)
  b__law_kinds : Binds K d__law_kinds ["_law_made"] []
  a__law_all_right : Addr
  d__law_all_right : FuncData
  F__law_all_right : Fun K "_law_all_right" "_law_all_right" s__law_all_right a__law_all_right d__law_all_right
  m__law_all_right : mg "_law_all_right" = some (.ref a__law_all_right)
  b__law_all_right : Binds K d__law_all_right ["_law_made", "_law_base"] []
  a__law_same : Addr
  d__law_same : FuncData
  F__law_same : Fun K "_law_same" "_law_same" s__law_same a__law_same d__law_same
  m__law_same : mg "_law_same" = some (.ref a__law_same)
  b__law_same : Binds K d__law_same ["_law_found", "_law_due"] []
  a__law_right : Addr
  d__law_right : FuncData
  F__law_right : Fun K "_law_right" "_law_right" s__law_right a__law_right d__law_right
  m__law_right : mg "_law_right" = some (.ref a__law_right)
  b__law_right : Binds K d__law_right ["_law_cell"] []
  a_law : Addr
  d_law : FuncData
  F_law : Fun K "law" "law" s_law a_law d_law
  m_law : mg "law" = some (.ref a_law)
  b_law : Binds K d_law ["_law_script"] []
  n_isinstance : mg "isinstance" = none
  n_ValueError : mg "ValueError" = none
  n_LookupError : mg "LookupError" = none
  n_OverflowError : mg "OverflowError" = none
  n_RuntimeError : mg "RuntimeError" = none
  n_enumerate : mg "enumerate" = none
  n_range : mg "range" = none
  n_KeyError : mg "KeyError" = none
  n_IndexError : mg "IndexError" = none
  n_NotImplementedError : mg "NotImplementedError" = none
  n_tuple : mg "tuple" = none
  n_list : mg "list" = none
  n_len : mg "len" = none
  n_zip : mg "zip" = none
  n_all : mg "all" = none
  n_str : mg "str" = none
  n_bool : mg "bool" = none
  n_int : mg "int" = none
  n_abs : mg "abs" = none
  c_NoNumber : Addr
  cc_NoNumber : Cls K "NoNumber" c_NoNumber
  m_NoNumber : mg "NoNumber" = some (.ref c_NoNumber)
  c_NoPlace : Addr
  cc_NoPlace : Cls K "NoPlace" c_NoPlace
  m_NoPlace : mg "NoPlace" = some (.ref c_NoPlace)
  c_NoPerson : Addr
  cc_NoPerson : Cls K "NoPerson" c_NoPerson
  m_NoPerson : mg "NoPerson" = some (.ref c_NoPerson)
  c_NotWay : Addr
  cc_NotWay : Cls K "NotWay" c_NotWay
  m_NotWay : mg "NotWay" = some (.ref c_NotWay)
  c_OtherPeople : Addr
  cc_OtherPeople : Cls K "OtherPeople" c_OtherPeople
  m_OtherPeople : mg "OtherPeople" = some (.ref c_OtherPeople)
  c_NoDeed : Addr
  cc_NoDeed : Cls K "NoDeed" c_NoDeed
  m_NoDeed : mg "NoDeed" = some (.ref c_NoDeed)
  c_BadLine : Addr
  cc_BadLine : Cls K "BadLine" c_BadLine
  m_BadLine : mg "BadLine" = some (.ref c_BadLine)
  c_BadText : Addr
  cc_BadText : Cls K "BadText" c_BadText
  m_BadText : mg "BadText" = some (.ref c_BadText)
  c_BadDeed : Addr
  cc_BadDeed : Cls K "BadDeed" c_BadDeed
  m_BadDeed : mg "BadDeed" = some (.ref c_BadDeed)
  c_Full : Addr
  cc_Full : Cls K "Full" c_Full
  m_Full : mg "Full" = some (.ref c_Full)
  c_TooMany : Addr
  cc_TooMany : Cls K "TooMany" c_TooMany
  m_TooMany : mg "TooMany" = some (.ref c_TooMany)
  c_Barred : Addr
  cc_Barred : Cls K "Barred" c_Barred
  m_Barred : mg "Barred" = some (.ref c_Barred)
  oc_NotWay : OxC K "ValueError.__new__" tl_ValueError c_NotWay
  no_NotWay : PySem.W.findIn K (.ref c_NotWay) "calls" = some none
  fi_NotWay : Addr
  fd_NotWay : FuncData
  Fi_NotWay : Fun K "__init__" "NotWay.__init__" si_NotWay fi_NotWay fd_NotWay
  iC_NotWay : PySem.W.findIn K (.ref c_NotWay) "__init__" = some (some (.ref fi_NotWay))
  ti_NotWay : PySem.W.typeIn K (.ref fi_NotWay) = some (.type "function")
  bi_NotWay : Binds K fd_NotWay ["self", "calls"] []
  bk_NotWay : KwI K fd_NotWay "calls"
  oc_OtherPeople : OxC K "ValueError.__new__" tl_ValueError c_OtherPeople
  no_OtherPeople : PySem.W.findIn K (.ref c_OtherPeople) "many" = some none
  fi_OtherPeople : Addr
  fd_OtherPeople : FuncData
  Fi_OtherPeople : Fun K "__init__" "OtherPeople.__init__" si_OtherPeople fi_OtherPeople fd_OtherPeople
  iC_OtherPeople : PySem.W.findIn K (.ref c_OtherPeople) "__init__" = some (some (.ref fi_OtherPeople))
  ti_OtherPeople : PySem.W.typeIn K (.ref fi_OtherPeople) = some (.type "function")
  bi_OtherPeople : Binds K fd_OtherPeople ["self", "many"] []
  bk_OtherPeople : KwI K fd_OtherPeople "many"
  oc_NoDeed : OxC K "LookupError.__new__" tl_LookupError c_NoDeed
  no_NoDeed : PySem.W.findIn K (.ref c_NoDeed) "many" = some none
  fi_NoDeed : Addr
  fd_NoDeed : FuncData
  Fi_NoDeed : Fun K "__init__" "NoDeed.__init__" si_NoDeed fi_NoDeed fd_NoDeed
  iC_NoDeed : PySem.W.findIn K (.ref c_NoDeed) "__init__" = some (some (.ref fi_NoDeed))
  ti_NoDeed : PySem.W.typeIn K (.ref fi_NoDeed) = some (.type "function")
  bi_NoDeed : Binds K fd_NoDeed ["self", "many"] []
  bk_NoDeed : KwI K fd_NoDeed "many"
  oc_NoNumber : OxC K "LookupError.__new__" tl_LookupError c_NoNumber
  no_NoNumber : PySem.W.findIn K (.ref c_NoNumber) "number" = some none
  fi_NoNumber : Addr
  fd_NoNumber : FuncData
  Fi_NoNumber : Fun K "__init__" "NoNumber.__init__" si_NoNumber fi_NoNumber fd_NoNumber
  iC_NoNumber : PySem.W.findIn K (.ref c_NoNumber) "__init__" = some (some (.ref fi_NoNumber))
  ti_NoNumber : PySem.W.typeIn K (.ref fi_NoNumber) = some (.type "function")
  bi_NoNumber : Binds K fd_NoNumber ["self", "number"] []
  bk_NoNumber : KwI K fd_NoNumber "number"
  oc_NoPlace : OxC K "LookupError.__new__" tl_LookupError c_NoPlace
  no_NoPlace : PySem.W.findIn K (.ref c_NoPlace) "place" = some none
  fi_NoPlace : Addr
  fd_NoPlace : FuncData
  Fi_NoPlace : Fun K "__init__" "NoPlace.__init__" si_NoPlace fi_NoPlace fd_NoPlace
  iC_NoPlace : PySem.W.findIn K (.ref c_NoPlace) "__init__" = some (some (.ref fi_NoPlace))
  ti_NoPlace : PySem.W.typeIn K (.ref fi_NoPlace) = some (.type "function")
  bi_NoPlace : Binds K fd_NoPlace ["self", "place"] []
  bk_NoPlace : KwI K fd_NoPlace "place"
  oc_NoPerson : OxC K "LookupError.__new__" tl_LookupError c_NoPerson
  no_NoPerson : PySem.W.findIn K (.ref c_NoPerson) "person" = some none
  fi_NoPerson : Addr
  fd_NoPerson : FuncData
  Fi_NoPerson : Fun K "__init__" "NoPerson.__init__" si_NoPerson fi_NoPerson fd_NoPerson
  iC_NoPerson : PySem.W.findIn K (.ref c_NoPerson) "__init__" = some (some (.ref fi_NoPerson))
  ti_NoPerson : PySem.W.typeIn K (.ref fi_NoPerson) = some (.type "function")
  bi_NoPerson : Binds K fd_NoPerson ["self", "person"] []
  bk_NoPerson : KwI K fd_NoPerson "person"
  oc_BadLine : OxC K "ValueError.__new__" tl_ValueError c_BadLine
  no_BadLine : PySem.W.findIn K (.ref c_BadLine) "at" = some none
  fi_BadLine : Addr
  fd_BadLine : FuncData
  Fi_BadLine : Fun K "__init__" "BadLine.__init__" si_BadLine fi_BadLine fd_BadLine
  iC_BadLine : PySem.W.findIn K (.ref c_BadLine) "__init__" = some (some (.ref fi_BadLine))
  ti_BadLine : PySem.W.typeIn K (.ref fi_BadLine) = some (.type "function")
  bi_BadLine : Binds K fd_BadLine ["self", "at"] []
  bk_BadLine : KwI K fd_BadLine "at"
  oc_BadText : OxC K "ValueError.__new__" tl_ValueError c_BadText
  no_BadText : PySem.W.findIn K (.ref c_BadText) "text" = some none
  fi_BadText : Addr
  fd_BadText : FuncData
  Fi_BadText : Fun K "__init__" "BadText.__init__" si_BadText fi_BadText fd_BadText
  iC_BadText : PySem.W.findIn K (.ref c_BadText) "__init__" = some (some (.ref fi_BadText))
  ti_BadText : PySem.W.typeIn K (.ref fi_BadText) = some (.type "function")
  bi_BadText : Binds K fd_BadText ["self", "text"] []
  bk_BadText : KwI K fd_BadText "text"
  oc_BadDeed : OxC K "ValueError.__new__" tl_ValueError c_BadDeed
  no_BadDeed : PySem.W.findIn K (.ref c_BadDeed) "at" = some none
  fi_BadDeed : Addr
  fd_BadDeed : FuncData
  Fi_BadDeed : Fun K "__init__" "BadDeed.__init__" si_BadDeed fi_BadDeed fd_BadDeed
  iC_BadDeed : PySem.W.findIn K (.ref c_BadDeed) "__init__" = some (some (.ref fi_BadDeed))
  ti_BadDeed : PySem.W.typeIn K (.ref fi_BadDeed) = some (.type "function")
  bi_BadDeed : Binds K fd_BadDeed ["self", "at"] []
  bk_BadDeed : KwI K fd_BadDeed "at"
  oc_Full : OxC K "OverflowError.__new__" tl_OverflowError c_Full
  no_Full : PySem.W.findIn K (.ref c_Full) "many" = some none
  fi_Full : Addr
  fd_Full : FuncData
  Fi_Full : Fun K "__init__" "Full.__init__" si_Full fi_Full fd_Full
  iC_Full : PySem.W.findIn K (.ref c_Full) "__init__" = some (some (.ref fi_Full))
  ti_Full : PySem.W.typeIn K (.ref fi_Full) = some (.type "function")
  bi_Full : Binds K fd_Full ["self", "many"] []
  bk_Full : KwI K fd_Full "many"
  oc_TooMany : OxC K "OverflowError.__new__" tl_OverflowError c_TooMany
  no_TooMany : PySem.W.findIn K (.ref c_TooMany) "many" = some none
  fi_TooMany : Addr
  fd_TooMany : FuncData
  Fi_TooMany : Fun K "__init__" "TooMany.__init__" si_TooMany fi_TooMany fd_TooMany
  iC_TooMany : PySem.W.findIn K (.ref c_TooMany) "__init__" = some (some (.ref fi_TooMany))
  ti_TooMany : PySem.W.typeIn K (.ref fi_TooMany) = some (.type "function")
  bi_TooMany : Binds K fd_TooMany ["self", "many"] []
  bk_TooMany : KwI K fd_TooMany "many"
  oc_Barred : OxC K "RuntimeError.__new__" tl_RuntimeError c_Barred
  no_Barred : PySem.W.findIn K (.ref c_Barred) "reason" = some none
  fi_Barred : Addr
  fd_Barred : FuncData
  Fi_Barred : Fun K "__init__" "Barred.__init__" si_Barred fi_Barred fd_Barred
  iC_Barred : PySem.W.findIn K (.ref c_Barred) "__init__" = some (some (.ref fi_Barred))
  ti_Barred : PySem.W.typeIn K (.ref fi_Barred) = some (.type "function")
  bi_Barred : Binds K fd_Barred ["self", "reason"] []
  bk_Barred : KwI K fd_Barred "reason"
  vB_ValueError : PySem.W.findCls K (.type "ValueError") (.type "type") "__init__" = some (.val (.builtin "ValueError.__init__"))
  vB_LookupError : PySem.W.findCls K (.type "LookupError") (.type "type") "__init__" = some (.val (.builtin "LookupError.__init__"))
  vB_OverflowError : PySem.W.findCls K (.type "OverflowError") (.type "type") "__init__" = some (.val (.builtin "OverflowError.__init__"))
  vB_RuntimeError : PySem.W.findCls K (.type "RuntimeError") (.type "type") "__init__" = some (.val (.builtin "RuntimeError.__init__"))
  z_ValueError : PySem.W.nsIn K mainGlobals "ValueError" = some none
  z_LookupError : PySem.W.nsIn K mainGlobals "LookupError" = some none
  z_OverflowError : PySem.W.nsIn K mainGlobals "OverflowError" = some none
  z_RuntimeError : PySem.W.nsIn K mainGlobals "RuntimeError" = some none
  z_KeyError : PySem.W.nsIn K mainGlobals "KeyError" = some none
  z_IndexError : PySem.W.nsIn K mainGlobals "IndexError" = some none
  z_NotImplementedError : PySem.W.nsIn K mainGlobals "NotImplementedError" = some none
  et : etB K CsL UsL = true
section
variable {P : Program} {w : World} {K : PySem.W.Frag} {mg : Str → Option Value} {base : Heap}
theorem oki_NotWay (T : Tx K mg) : FnOk P w K mg base CX0 1 T.fi_NotWay T.fd_NotWay ["self", "calls"] (spIni K "ValueError.__new__" tl_ValueError "calls") := by
  refine T.Fi_NotWay.ok sci_NotWay (fun vs H Q E h => ?_) (fun cdv A outer s H vs Q E hr h => ⟨_, pss_cons (ps_expr (pe_bini DLX.bs_V (by rfl) T.n_ValueError (by decide +kernel) (by decide) (by decide) T.vB_ValueError (pa_cons (pv 0) (pa_cons (pv 1) pa_nil)))) (pss_one (ps_fld DLX.bs_V (pv 0) (pv 1))), ini_run h rfl⟩)
  obtain ⟨a, C, v, rfl, _⟩ := h
  rfl
theorem ox_NotWay (T : Tx K mg) : OxI P w K mg base "ValueError.__new__" tl_ValueError T.c_NotWay "calls" := ⟨T.oc_NotWay, T.no_NotWay, T.fi_NotWay, T.fd_NotWay, T.iC_NotWay, T.ti_NotWay, oki_NotWay T, T.bi_NotWay⟩
theorem oxk_NotWay (T : Tx K mg) : OxK P w K mg base "ValueError.__new__" tl_ValueError T.c_NotWay "calls" := ⟨T.oc_NotWay, T.no_NotWay, T.fi_NotWay, T.fd_NotWay, T.iC_NotWay, T.ti_NotWay, oki_NotWay T, T.bk_NotWay⟩
theorem oki_OtherPeople (T : Tx K mg) : FnOk P w K mg base CX0 1 T.fi_OtherPeople T.fd_OtherPeople ["self", "many"] (spIni K "ValueError.__new__" tl_ValueError "many") := by
  refine T.Fi_OtherPeople.ok sci_OtherPeople (fun vs H Q E h => ?_) (fun cdv A outer s H vs Q E hr h => ⟨_, pss_cons (ps_expr (pe_bini DLX.bs_V (by rfl) T.n_ValueError (by decide +kernel) (by decide) (by decide) T.vB_ValueError (pa_cons (pv 0) (pa_cons (pv 1) pa_nil)))) (pss_one (ps_fld DLX.bs_V (pv 0) (pv 1))), ini_run h rfl⟩)
  obtain ⟨a, C, v, rfl, _⟩ := h
  rfl
theorem ox_OtherPeople (T : Tx K mg) : OxI P w K mg base "ValueError.__new__" tl_ValueError T.c_OtherPeople "many" := ⟨T.oc_OtherPeople, T.no_OtherPeople, T.fi_OtherPeople, T.fd_OtherPeople, T.iC_OtherPeople, T.ti_OtherPeople, oki_OtherPeople T, T.bi_OtherPeople⟩
theorem oxk_OtherPeople (T : Tx K mg) : OxK P w K mg base "ValueError.__new__" tl_ValueError T.c_OtherPeople "many" := ⟨T.oc_OtherPeople, T.no_OtherPeople, T.fi_OtherPeople, T.fd_OtherPeople, T.iC_OtherPeople, T.ti_OtherPeople, oki_OtherPeople T, T.bk_OtherPeople⟩
theorem oki_NoDeed (T : Tx K mg) : FnOk P w K mg base CX0 1 T.fi_NoDeed T.fd_NoDeed ["self", "many"] (spIni K "LookupError.__new__" tl_LookupError "many") := by
  refine T.Fi_NoDeed.ok sci_NoDeed (fun vs H Q E h => ?_) (fun cdv A outer s H vs Q E hr h => ⟨_, pss_cons (ps_expr (pe_bini DLX.bs_L (by rfl) T.n_LookupError (by decide +kernel) (by decide) (by decide) T.vB_LookupError (pa_cons (pv 0) (pa_cons (pv 1) pa_nil)))) (pss_one (ps_fld DLX.bs_L (pv 0) (pv 1))), ini_run h rfl⟩)
  obtain ⟨a, C, v, rfl, _⟩ := h
  rfl
theorem ox_NoDeed (T : Tx K mg) : OxI P w K mg base "LookupError.__new__" tl_LookupError T.c_NoDeed "many" := ⟨T.oc_NoDeed, T.no_NoDeed, T.fi_NoDeed, T.fd_NoDeed, T.iC_NoDeed, T.ti_NoDeed, oki_NoDeed T, T.bi_NoDeed⟩
theorem oxk_NoDeed (T : Tx K mg) : OxK P w K mg base "LookupError.__new__" tl_LookupError T.c_NoDeed "many" := ⟨T.oc_NoDeed, T.no_NoDeed, T.fi_NoDeed, T.fd_NoDeed, T.iC_NoDeed, T.ti_NoDeed, oki_NoDeed T, T.bk_NoDeed⟩
theorem oki_NoNumber (T : Tx K mg) : FnOk P w K mg base CX0 1 T.fi_NoNumber T.fd_NoNumber ["self", "number"] (spIni K "LookupError.__new__" tl_LookupError "number") := by
  refine T.Fi_NoNumber.ok sci_NoNumber (fun vs H Q E h => ?_) (fun cdv A outer s H vs Q E hr h => ⟨_, pss_cons (ps_expr (pe_bini DLX.bs_L (by rfl) T.n_LookupError (by decide +kernel) (by decide) (by decide) T.vB_LookupError (pa_cons (pv 0) (pa_cons (pv 1) pa_nil)))) (pss_one (ps_fld DLX.bs_L (pv 0) (pv 1))), ini_run h rfl⟩)
  obtain ⟨a, C, v, rfl, _⟩ := h
  rfl
theorem ox_NoNumber (T : Tx K mg) : OxI P w K mg base "LookupError.__new__" tl_LookupError T.c_NoNumber "number" := ⟨T.oc_NoNumber, T.no_NoNumber, T.fi_NoNumber, T.fd_NoNumber, T.iC_NoNumber, T.ti_NoNumber, oki_NoNumber T, T.bi_NoNumber⟩
theorem oxk_NoNumber (T : Tx K mg) : OxK P w K mg base "LookupError.__new__" tl_LookupError T.c_NoNumber "number" := ⟨T.oc_NoNumber, T.no_NoNumber, T.fi_NoNumber, T.fd_NoNumber, T.iC_NoNumber, T.ti_NoNumber, oki_NoNumber T, T.bk_NoNumber⟩
theorem oki_NoPlace (T : Tx K mg) : FnOk P w K mg base CX0 1 T.fi_NoPlace T.fd_NoPlace ["self", "place"] (spIni K "LookupError.__new__" tl_LookupError "place") := by
  refine T.Fi_NoPlace.ok sci_NoPlace (fun vs H Q E h => ?_) (fun cdv A outer s H vs Q E hr h => ⟨_, pss_cons (ps_expr (pe_bini DLX.bs_L (by rfl) T.n_LookupError (by decide +kernel) (by decide) (by decide) T.vB_LookupError (pa_cons (pv 0) (pa_cons (pv 1) pa_nil)))) (pss_one (ps_fld DLX.bs_L (pv 0) (pv 1))), ini_run h rfl⟩)
  obtain ⟨a, C, v, rfl, _⟩ := h
  rfl
theorem ox_NoPlace (T : Tx K mg) : OxI P w K mg base "LookupError.__new__" tl_LookupError T.c_NoPlace "place" := ⟨T.oc_NoPlace, T.no_NoPlace, T.fi_NoPlace, T.fd_NoPlace, T.iC_NoPlace, T.ti_NoPlace, oki_NoPlace T, T.bi_NoPlace⟩
theorem oxk_NoPlace (T : Tx K mg) : OxK P w K mg base "LookupError.__new__" tl_LookupError T.c_NoPlace "place" := ⟨T.oc_NoPlace, T.no_NoPlace, T.fi_NoPlace, T.fd_NoPlace, T.iC_NoPlace, T.ti_NoPlace, oki_NoPlace T, T.bk_NoPlace⟩
theorem oki_NoPerson (T : Tx K mg) : FnOk P w K mg base CX0 1 T.fi_NoPerson T.fd_NoPerson ["self", "person"] (spIni K "LookupError.__new__" tl_LookupError "person") := by
  refine T.Fi_NoPerson.ok sci_NoPerson (fun vs H Q E h => ?_) (fun cdv A outer s H vs Q E hr h => ⟨_, pss_cons (ps_expr (pe_bini DLX.bs_L (by rfl) T.n_LookupError (by decide +kernel) (by decide) (by decide) T.vB_LookupError (pa_cons (pv 0) (pa_cons (pv 1) pa_nil)))) (pss_one (ps_fld DLX.bs_L (pv 0) (pv 1))), ini_run h rfl⟩)
  obtain ⟨a, C, v, rfl, _⟩ := h
  rfl
theorem ox_NoPerson (T : Tx K mg) : OxI P w K mg base "LookupError.__new__" tl_LookupError T.c_NoPerson "person" := ⟨T.oc_NoPerson, T.no_NoPerson, T.fi_NoPerson, T.fd_NoPerson, T.iC_NoPerson, T.ti_NoPerson, oki_NoPerson T, T.bi_NoPerson⟩
theorem oxk_NoPerson (T : Tx K mg) : OxK P w K mg base "LookupError.__new__" tl_LookupError T.c_NoPerson "person" := ⟨T.oc_NoPerson, T.no_NoPerson, T.fi_NoPerson, T.fd_NoPerson, T.iC_NoPerson, T.ti_NoPerson, oki_NoPerson T, T.bk_NoPerson⟩
theorem oki_BadLine (T : Tx K mg) : FnOk P w K mg base CX0 1 T.fi_BadLine T.fd_BadLine ["self", "at"] (spIni K "ValueError.__new__" tl_ValueError "at") := by
  refine T.Fi_BadLine.ok sci_BadLine (fun vs H Q E h => ?_) (fun cdv A outer s H vs Q E hr h => ⟨_, pss_cons (ps_expr (pe_bini DLX.bs_V (by rfl) T.n_ValueError (by decide +kernel) (by decide) (by decide) T.vB_ValueError (pa_cons (pv 0) (pa_cons (pv 1) pa_nil)))) (pss_one (ps_fld DLX.bs_V (pv 0) (pv 1))), ini_run h rfl⟩)
  obtain ⟨a, C, v, rfl, _⟩ := h
  rfl
theorem ox_BadLine (T : Tx K mg) : OxI P w K mg base "ValueError.__new__" tl_ValueError T.c_BadLine "at" := ⟨T.oc_BadLine, T.no_BadLine, T.fi_BadLine, T.fd_BadLine, T.iC_BadLine, T.ti_BadLine, oki_BadLine T, T.bi_BadLine⟩
theorem oxk_BadLine (T : Tx K mg) : OxK P w K mg base "ValueError.__new__" tl_ValueError T.c_BadLine "at" := ⟨T.oc_BadLine, T.no_BadLine, T.fi_BadLine, T.fd_BadLine, T.iC_BadLine, T.ti_BadLine, oki_BadLine T, T.bk_BadLine⟩
theorem oki_BadText (T : Tx K mg) : FnOk P w K mg base CX0 1 T.fi_BadText T.fd_BadText ["self", "text"] (spIni K "ValueError.__new__" tl_ValueError "text") := by
  refine T.Fi_BadText.ok sci_BadText (fun vs H Q E h => ?_) (fun cdv A outer s H vs Q E hr h => ⟨_, pss_cons (ps_expr (pe_bini DLX.bs_V (by rfl) T.n_ValueError (by decide +kernel) (by decide) (by decide) T.vB_ValueError (pa_cons (pv 0) (pa_cons (pv 1) pa_nil)))) (pss_one (ps_fld DLX.bs_V (pv 0) (pv 1))), ini_run h rfl⟩)
  obtain ⟨a, C, v, rfl, _⟩ := h
  rfl
theorem ox_BadText (T : Tx K mg) : OxI P w K mg base "ValueError.__new__" tl_ValueError T.c_BadText "text" := ⟨T.oc_BadText, T.no_BadText, T.fi_BadText, T.fd_BadText, T.iC_BadText, T.ti_BadText, oki_BadText T, T.bi_BadText⟩
theorem oxk_BadText (T : Tx K mg) : OxK P w K mg base "ValueError.__new__" tl_ValueError T.c_BadText "text" := ⟨T.oc_BadText, T.no_BadText, T.fi_BadText, T.fd_BadText, T.iC_BadText, T.ti_BadText, oki_BadText T, T.bk_BadText⟩
theorem oki_BadDeed (T : Tx K mg) : FnOk P w K mg base CX0 1 T.fi_BadDeed T.fd_BadDeed ["self", "at"] (spIni K "ValueError.__new__" tl_ValueError "at") := by
  refine T.Fi_BadDeed.ok sci_BadDeed (fun vs H Q E h => ?_) (fun cdv A outer s H vs Q E hr h => ⟨_, pss_cons (ps_expr (pe_bini DLX.bs_V (by rfl) T.n_ValueError (by decide +kernel) (by decide) (by decide) T.vB_ValueError (pa_cons (pv 0) (pa_cons (pv 1) pa_nil)))) (pss_one (ps_fld DLX.bs_V (pv 0) (pv 1))), ini_run h rfl⟩)
  obtain ⟨a, C, v, rfl, _⟩ := h
  rfl
theorem ox_BadDeed (T : Tx K mg) : OxI P w K mg base "ValueError.__new__" tl_ValueError T.c_BadDeed "at" := ⟨T.oc_BadDeed, T.no_BadDeed, T.fi_BadDeed, T.fd_BadDeed, T.iC_BadDeed, T.ti_BadDeed, oki_BadDeed T, T.bi_BadDeed⟩
theorem oxk_BadDeed (T : Tx K mg) : OxK P w K mg base "ValueError.__new__" tl_ValueError T.c_BadDeed "at" := ⟨T.oc_BadDeed, T.no_BadDeed, T.fi_BadDeed, T.fd_BadDeed, T.iC_BadDeed, T.ti_BadDeed, oki_BadDeed T, T.bk_BadDeed⟩
theorem oki_Full (T : Tx K mg) : FnOk P w K mg base CX0 1 T.fi_Full T.fd_Full ["self", "many"] (spIni K "OverflowError.__new__" tl_OverflowError "many") := by
  refine T.Fi_Full.ok sci_Full (fun vs H Q E h => ?_) (fun cdv A outer s H vs Q E hr h => ⟨_, pss_cons (ps_expr (pe_bini DLX.bs_O (by rfl) T.n_OverflowError (by decide +kernel) (by decide) (by decide) T.vB_OverflowError (pa_cons (pv 0) (pa_cons (pv 1) pa_nil)))) (pss_one (ps_fld DLX.bs_O (pv 0) (pv 1))), ini_run h rfl⟩)
  obtain ⟨a, C, v, rfl, _⟩ := h
  rfl
theorem ox_Full (T : Tx K mg) : OxI P w K mg base "OverflowError.__new__" tl_OverflowError T.c_Full "many" := ⟨T.oc_Full, T.no_Full, T.fi_Full, T.fd_Full, T.iC_Full, T.ti_Full, oki_Full T, T.bi_Full⟩
theorem oxk_Full (T : Tx K mg) : OxK P w K mg base "OverflowError.__new__" tl_OverflowError T.c_Full "many" := ⟨T.oc_Full, T.no_Full, T.fi_Full, T.fd_Full, T.iC_Full, T.ti_Full, oki_Full T, T.bk_Full⟩
theorem oki_TooMany (T : Tx K mg) : FnOk P w K mg base CX0 1 T.fi_TooMany T.fd_TooMany ["self", "many"] (spIni K "OverflowError.__new__" tl_OverflowError "many") := by
  refine T.Fi_TooMany.ok sci_TooMany (fun vs H Q E h => ?_) (fun cdv A outer s H vs Q E hr h => ⟨_, pss_cons (ps_expr (pe_bini DLX.bs_O (by rfl) T.n_OverflowError (by decide +kernel) (by decide) (by decide) T.vB_OverflowError (pa_cons (pv 0) (pa_cons (pv 1) pa_nil)))) (pss_one (ps_fld DLX.bs_O (pv 0) (pv 1))), ini_run h rfl⟩)
  obtain ⟨a, C, v, rfl, _⟩ := h
  rfl
theorem ox_TooMany (T : Tx K mg) : OxI P w K mg base "OverflowError.__new__" tl_OverflowError T.c_TooMany "many" := ⟨T.oc_TooMany, T.no_TooMany, T.fi_TooMany, T.fd_TooMany, T.iC_TooMany, T.ti_TooMany, oki_TooMany T, T.bi_TooMany⟩
theorem oxk_TooMany (T : Tx K mg) : OxK P w K mg base "OverflowError.__new__" tl_OverflowError T.c_TooMany "many" := ⟨T.oc_TooMany, T.no_TooMany, T.fi_TooMany, T.fd_TooMany, T.iC_TooMany, T.ti_TooMany, oki_TooMany T, T.bk_TooMany⟩
theorem oki_Barred (T : Tx K mg) : FnOk P w K mg base CX0 1 T.fi_Barred T.fd_Barred ["self", "reason"] (spIni K "RuntimeError.__new__" tl_RuntimeError "reason") := by
  refine T.Fi_Barred.ok sci_Barred (fun vs H Q E h => ?_) (fun cdv A outer s H vs Q E hr h => ⟨_, pss_cons (ps_expr (pe_bini DLX.bs_R (by rfl) T.n_RuntimeError (by decide +kernel) (by decide) (by decide) T.vB_RuntimeError (pa_cons (pv 0) (pa_cons (pv 1) pa_nil)))) (pss_one (ps_fld DLX.bs_R (pv 0) (pv 1))), ini_run h rfl⟩)
  obtain ⟨a, C, v, rfl, _⟩ := h
  rfl
theorem ox_Barred (T : Tx K mg) : OxI P w K mg base "RuntimeError.__new__" tl_RuntimeError T.c_Barred "reason" := ⟨T.oc_Barred, T.no_Barred, T.fi_Barred, T.fd_Barred, T.iC_Barred, T.ti_Barred, oki_Barred T, T.bi_Barred⟩
theorem oxk_Barred (T : Tx K mg) : OxK P w K mg base "RuntimeError.__new__" tl_RuntimeError T.c_Barred "reason" := ⟨T.oc_Barred, T.no_Barred, T.fi_Barred, T.fd_Barred, T.iC_Barred, T.ti_Barred, oki_Barred T, T.bk_Barred⟩
theorem ok__law_bases (T : Tx K mg) : FnOk P w K mg base CX0 1 T.a__law_bases T.d__law_bases ["_law_made"] (spF K 1 F__law_bases) := by
    refine T.F__law_bases.ok sc__law_bases (fun vs H Q E h => h.1) (fun cdv A outer s H vs Q E hr h => ?_)
    have nd := sc__law_bases.nd
    exact ⟨_, (pss_cons (ps_set (i := 1) nd rfl (Or.inl rfl) (pe_lst (pa_cons (pe_callB call_isX (by rfl) T.n_isinstance (by decide +kernel) (pa_cons (pv 0) (pa_cons (pe_bltn (v := .ty "LookupError") (by rfl) T.n_LookupError (by decide +kernel) rfl) pa_nil))) (pa_cons (pe_callB call_isX (by rfl) T.n_isinstance (by decide +kernel) (pa_cons (pv 0) (pa_cons (pe_bltn (v := .ty "ValueError") (by rfl) T.n_ValueError (by decide +kernel) rfl) pa_nil))) pa_nil)))) (pss_one (ps_ret (pe_op op_addU (pv 1) (pe_lst (pa_cons (pe_callB call_isX (by rfl) T.n_isinstance (by decide +kernel) (pa_cons (pv 0) (pa_cons (pe_bltn (v := .ty "RuntimeError") (by rfl) T.n_RuntimeError (by decide +kernel) rfl) pa_nil))) (pa_cons (pe_callB call_isX (by rfl) T.n_isinstance (by decide +kernel) (pa_cons (pv 0) (pa_cons (pe_bltn (v := .ty "OverflowError") (by rfl) T.n_OverflowError (by decide +kernel) rfl) pa_nil))) pa_nil))))))),
      run_F (N := N__law_bases) (ds_seq (ds_set (i := 1) (de_l (df_lst (da_cons (do_e (de_isX (cv := .ty "LookupError") T.et (vt_ty (n := "LookupError") T.z_LookupError (by decide +kernel) VTs.nil) (by decide +kernel) (do_e de_v))) (da_cons (do_e (de_isX (cv := .ty "ValueError") T.et (vt_ty (n := "ValueError") T.z_ValueError (by decide +kernel) VTs.nil) (by decide +kernel) (do_e de_v))) da_nil))))) (ds_retF (df_op sn_addL (do_e de_v) (do_e (de_l (df_lst (da_cons (do_e (de_isX (cv := .ty "RuntimeError") T.et (vt_ty (n := "RuntimeError") T.z_RuntimeError (by decide +kernel) VTs.nil) (by decide +kernel) (do_e de_v))) (da_cons (do_e (de_isX (cv := .ty "OverflowError") T.et (vt_ty (n := "OverflowError") T.z_OverflowError (by decide +kernel) VTs.nil) (by decide +kernel) (do_e de_v))) da_nil)))))))) (by decide) h⟩
theorem ok__law_kinds (T : Tx K mg) : FnOk P w K mg base CX0 1 T.a__law_kinds T.d__law_kinds ["_law_made"] (spF K 1 F__law_kinds) := by
    refine T.F__law_kinds.ok sc__law_kinds (fun vs H Q E h => h.1) (fun cdv A outer s H vs Q E hr h => ?_)
    have nd := sc__law_kinds.nd
    exact ⟨_, (pss_cons (ps_set (i := 1) nd rfl (Or.inl rfl) (pe_lst (pa_cons (pe_callB call_isX (by rfl) T.n_isinstance (by decide +kernel) (pa_cons (pv 0) (pa_cons (pe_glob (v := .ref T.c_NoPerson) (by rfl) T.m_NoPerson rfl) pa_nil))) (pa_cons (pe_callB call_isX (by rfl) T.n_isinstance (by decide +kernel) (pa_cons (pv 0) (pa_cons (pe_glob (v := .ref T.c_NoPlace) (by rfl) T.m_NoPlace rfl) pa_nil))) (pa_cons (pe_callB call_isX (by rfl) T.n_isinstance (by decide +kernel) (pa_cons (pv 0) (pa_cons (pe_glob (v := .ref T.c_NoNumber) (by rfl) T.m_NoNumber rfl) pa_nil))) pa_nil))))) (pss_cons (ps_set (i := 1) nd rfl (Or.inl rfl) (pe_op op_addU (pv 1) (pe_lst (pa_cons (pe_callB call_isX (by rfl) T.n_isinstance (by decide +kernel) (pa_cons (pv 0) (pa_cons (pe_glob (v := .ref T.c_NoDeed) (by rfl) T.m_NoDeed rfl) pa_nil))) (pa_cons (pe_callB call_isX (by rfl) T.n_isinstance (by decide +kernel) (pa_cons (pv 0) (pa_cons (pe_glob (v := .ref T.c_OtherPeople) (by rfl) T.m_OtherPeople rfl) pa_nil))) (pa_cons (pe_callB call_isX (by rfl) T.n_isinstance (by decide +kernel) (pa_cons (pv 0) (pa_cons (pe_glob (v := .ref T.c_NotWay) (by rfl) T.m_NotWay rfl) pa_nil))) pa_nil)))))) (pss_cons (ps_set (i := 1) nd rfl (Or.inl rfl) (pe_op op_addU (pv 1) (pe_lst (pa_cons (pe_callB call_isX (by rfl) T.n_isinstance (by decide +kernel) (pa_cons (pv 0) (pa_cons (pe_glob (v := .ref T.c_BadDeed) (by rfl) T.m_BadDeed rfl) pa_nil))) (pa_cons (pe_callB call_isX (by rfl) T.n_isinstance (by decide +kernel) (pa_cons (pv 0) (pa_cons (pe_glob (v := .ref T.c_BadText) (by rfl) T.m_BadText rfl) pa_nil))) (pa_cons (pe_callB call_isX (by rfl) T.n_isinstance (by decide +kernel) (pa_cons (pv 0) (pa_cons (pe_glob (v := .ref T.c_BadLine) (by rfl) T.m_BadLine rfl) pa_nil))) pa_nil)))))) (pss_one (ps_ret (pe_op op_addU (pv 1) (pe_lst (pa_cons (pe_callB call_isX (by rfl) T.n_isinstance (by decide +kernel) (pa_cons (pv 0) (pa_cons (pe_glob (v := .ref T.c_Barred) (by rfl) T.m_Barred rfl) pa_nil))) (pa_cons (pe_callB call_isX (by rfl) T.n_isinstance (by decide +kernel) (pa_cons (pv 0) (pa_cons (pe_glob (v := .ref T.c_TooMany) (by rfl) T.m_TooMany rfl) pa_nil))) (pa_cons (pe_callB call_isX (by rfl) T.n_isinstance (by decide +kernel) (pa_cons (pv 0) (pa_cons (pe_glob (v := .ref T.c_Full) (by rfl) T.m_Full rfl) pa_nil))) pa_nil)))))))))),
      run_F (N := N__law_kinds) (ds_seq (ds_set (i := 1) (de_l (df_lst (da_cons (do_e (de_isX (cv := .ref T.c_NoPerson) T.et (vt_own T.cc_NoPerson VTs.nil) (by decide +kernel) (do_e de_v))) (da_cons (do_e (de_isX (cv := .ref T.c_NoPlace) T.et (vt_own T.cc_NoPlace VTs.nil) (by decide +kernel) (do_e de_v))) (da_cons (do_e (de_isX (cv := .ref T.c_NoNumber) T.et (vt_own T.cc_NoNumber VTs.nil) (by decide +kernel) (do_e de_v))) da_nil)))))) (ds_seq (ds_set (i := 1) (de_op sn_addU (do_e de_v) (do_e (de_l (df_lst (da_cons (do_e (de_isX (cv := .ref T.c_NoDeed) T.et (vt_own T.cc_NoDeed VTs.nil) (by decide +kernel) (do_e de_v))) (da_cons (do_e (de_isX (cv := .ref T.c_OtherPeople) T.et (vt_own T.cc_OtherPeople VTs.nil) (by decide +kernel) (do_e de_v))) (da_cons (do_e (de_isX (cv := .ref T.c_NotWay) T.et (vt_own T.cc_NotWay VTs.nil) (by decide +kernel) (do_e de_v))) da_nil)))))))) (ds_seq (ds_set (i := 1) (de_op sn_addU (do_e de_v) (do_e (de_l (df_lst (da_cons (do_e (de_isX (cv := .ref T.c_BadDeed) T.et (vt_own T.cc_BadDeed VTs.nil) (by decide +kernel) (do_e de_v))) (da_cons (do_e (de_isX (cv := .ref T.c_BadText) T.et (vt_own T.cc_BadText VTs.nil) (by decide +kernel) (do_e de_v))) (da_cons (do_e (de_isX (cv := .ref T.c_BadLine) T.et (vt_own T.cc_BadLine VTs.nil) (by decide +kernel) (do_e de_v))) da_nil)))))))) (ds_retF (df_op sn_addL (do_e de_v) (do_e (de_l (df_lst (da_cons (do_e (de_isX (cv := .ref T.c_Barred) T.et (vt_own T.cc_Barred VTs.nil) (by decide +kernel) (do_e de_v))) (da_cons (do_e (de_isX (cv := .ref T.c_TooMany) T.et (vt_own T.cc_TooMany VTs.nil) (by decide +kernel) (do_e de_v))) (da_cons (do_e (de_isX (cv := .ref T.c_Full) T.et (vt_own T.cc_Full VTs.nil) (by decide +kernel) (do_e de_v))) da_nil))))))))))) (by decide) h⟩
theorem ok__law_all_right (T : Tx K mg) : FnOk P w K mg base CX0 2 T.a__law_all_right T.d__law_all_right ["_law_made", "_law_base"] (spP K 2 F__law_all_right) := by
    refine T.F__law_all_right.ok sc__law_all_right (fun vs H Q E h => h.1) (fun cdv A outer s H vs Q E hr h => ?_)
    have nd := sc__law_all_right.nd
    exact ⟨_, (pss_cons (ps_for PassesOwn.never rfl (pi_enumU (by rfl) T.n_enumerate (pa_cons (pv 0) pa_nil)) (pg_tup rfl (pgs_cons (pg_name (i := 2) nd rfl (Or.inr rfl)) (pgs_cons (pg_name (i := 3) nd rfl (Or.inr rfl)) pgs_nil))) (pss_cons (ps_if (pt_cmpR (op_neU hr) (pe_call (ok__law_kinds T) (hr.mono (by decide)) (by rfl) T.m__law_kinds T.F__law_kinds.kp T.b__law_kinds .nil pass0 (pa_cons (pv 3) pa_nil)) (pe_lc (own := [("_law_k", 4)]) (by rfl) nd (pi_range1 (by rfl) T.n_range (pa_cons pe_int pa_nil)) (blkOk_by (own := [("_law_k", 4)]) (N := N__law_all_right) (sc := defScope s__law_all_right) (by decide +kernel)) (fun _ _ _ _ _ => (pg_name (i := 4) nd rfl (Or.inl rfl))) (fun _ _ _ _ _ => pts_nil) (fun _ _ _ _ _ => (pe_cmpR (op_eqU hr) (pv 4) (pv 2) (nomark _)))) (nomark _)) (pss_one (ps_ret pe_bl)) pss_nil) (pss_cons (ps_if (pt_cmpR op_notBl (pe_ix ix_seq (pe_call (ok__law_bases T) (hr.mono (by decide)) (by rfl) T.m__law_bases T.F__law_bases.kp T.b__law_bases .nil pass0 (pa_cons (pv 3) pa_nil)) (pe_ix ix_seq (pv 1) (pv 2) (fun _ _ => rfl)) (fun _ _ => rfl)) pe_bl (nomark _)) (pss_one (ps_ret pe_bl)) pss_nil) (pss_cons (ps_if (pt_val (pe_callB call_isXT (by rfl) T.n_isinstance (by decide +kernel) (pa_cons (pv 3) (pa_cons (pe_tup (pa_cons (pe_bltn (v := .ty "KeyError") (by rfl) T.n_KeyError (by decide +kernel) rfl) (pa_cons (pe_bltn (v := .ty "IndexError") (by rfl) T.n_IndexError (by decide +kernel) rfl) (pa_cons (pe_bltn (v := .ty "NotImplementedError") (by rfl) T.n_NotImplementedError (by decide +kernel) rfl) pa_nil)))) pa_nil)))) (pss_one (ps_ret pe_bl)) pss_nil) (pss_one (ps_if (pt_cmpR (op_neU hr) (pe_lc (own := [("_law_k", 4)]) (by rfl) nd (pi_range1 (by rfl) T.n_range (pa_cons pe_int pa_nil)) (blkOk_by (own := [("_law_k", 4)]) (N := N__law_all_right) (sc := defScope s__law_all_right) (by decide +kernel)) (fun _ _ _ _ _ => (pg_name (i := 4) nd rfl (Or.inl rfl))) (fun _ _ _ _ _ => (pts_one (PW.pt (pw_and (pt_cmpR (op_neU hr) (pv 4) (pe_ix ix_seq (pv 1) (pv 2) (fun _ _ => rfl)) (nomark _)) (pw_and1 (pt_val (pe_ix ix_seq (pe_call (ok__law_bases T) (hr.mono (by decide)) (by rfl) T.m__law_bases T.F__law_bases.kp T.b__law_bases .nil pass0 (pa_cons (pv 3) pa_nil)) (pv 4) (fun _ _ => rfl)))))))) (fun _ _ _ _ _ => (pv 4))) (pe_lst pa_nil) (nomark _)) (pss_one (ps_ret pe_bl)) pss_nil)))))) (pss_one (ps_ret pe_bl))),
      run_P (N := N__law_all_right) (ds_seq (ds_for (ws := [2, 3]) (di_enum (da_cons (do_e de_v) da_nil)) (dg_tup (dgs_cons (dg_name (by decide)) (dgs_cons (dg_name (by decide)) dgs_nil))) (ds_seq (ds_if (dt_test (de_op sn_neW (do_e (de_l (df_call callF_len (da_cons (do_e de_v) da_nil)))) (do_e (de_l (df_lc (di_rng1 (da_cons (do_e de_int) da_nil)) (dg_name (by decide)) dt_yes (de_op sn_eqW (do_e de_v) (do_e de_v))))))) (ds_ret de_bl) ds_next) (ds_seq (ds_if (dt_test (de_op sn_isNotB (do_e (de_op sn_ix (do_e (de_l (df_call callF_len (da_cons (do_e de_v) da_nil)))) (do_e (de_op sn_ix (do_e de_v) (do_e de_v))))) (do_e de_bl))) (ds_ret de_bl) ds_next) (ds_seq (ds_if (dt_B (de_isXT (cvs := [.ty "KeyError", .ty "IndexError", .ty "NotImplementedError"]) T.et (vt_ty (n := "KeyError") T.z_KeyError (by decide +kernel) (vt_ty (n := "IndexError") T.z_IndexError (by decide +kernel) (vt_ty (n := "NotImplementedError") T.z_NotImplementedError (by decide +kernel) VTs.nil))) (by decide +kernel) (by decide) (do_e de_v))) (ds_ret de_bl) ds_next) (ds_if (dt_test (de_op sn_neW (do_e (de_l (df_lc (di_rng1 (da_cons (do_e de_int) da_nil)) (dg_name (by decide)) (dt_and (dt_test (de_op sn_neW (do_e de_v) (do_e (de_op sn_ix (do_e de_v) (do_e de_v))))) (dt_B (de_op sn_ix (do_e (de_l (df_call callF_len (da_cons (do_e de_v) da_nil)))) (do_e de_v)))) de_v))) (do_e (de_l (df_lst da_nil))))) (ds_ret de_bl) ds_next))))) (ds_ret de_bl)) (by decide) h⟩
theorem ok__law_same (T : Tx K mg) : ∀ n : Nat, FnOk P w K mg base CX0 (0 + n) T.a__law_same T.d__law_same ["_law_found", "_law_due"] (spP K 2 (F__law_same n))
  | 0 => fn_noneP rfl
  | n + 1 => by
    have ih := ok__law_same T n
    have hFl := Fl__law_same n
    refine T.F__law_same.ok sc__law_same (fun vs H Q E h => h.1) (fun cdv A outer s H vs Q E hr h => ?_)
    have nd := sc__law_same.nd
    exact ⟨_, (pss_cons (ps_if (pt_val (pe_callB call_isiT (by rfl) T.n_isinstance (by decide +kernel) (pa_cons (pv 1) (pa_cons (pe_tup (pa_cons (pe_bltn (v := .ty "list") (by rfl) T.n_list (by decide +kernel) rfl) (pa_cons (pe_bltn (v := .ty "tuple") (by rfl) T.n_tuple (by decide +kernel) rfl) pa_nil))) pa_nil)))) (pss_cons (ps_if (PW.pt (pw_or (pt_cmpR (op_neU hr) (pe_callB call_isi (by rfl) T.n_isinstance (by decide +kernel) (pa_cons (pv 0) (pa_cons (pe_bltn (v := .ty "list") (by rfl) T.n_list (by decide +kernel) rfl) pa_nil))) (pe_callB call_isi (by rfl) T.n_isinstance (by decide +kernel) (pa_cons (pv 1) (pa_cons (pe_bltn (v := .ty "list") (by rfl) T.n_list (by decide +kernel) rfl) pa_nil))) (nomark _)) (pw_or1 (pt_cmpR (op_neU hr) (pe_callB call_isi (by rfl) T.n_isinstance (by decide +kernel) (pa_cons (pv 0) (pa_cons (pe_bltn (v := .ty "tuple") (by rfl) T.n_tuple (by decide +kernel) rfl) pa_nil))) (pe_callB call_isi (by rfl) T.n_isinstance (by decide +kernel) (pa_cons (pv 1) (pa_cons (pe_bltn (v := .ty "tuple") (by rfl) T.n_tuple (by decide +kernel) rfl) pa_nil))) (nomark _))))) (pss_one (ps_ret pe_bl)) pss_nil) (pss_one (ps_ret (pe_and (pe_cmpR (op_eqU hr) (pe_callB call_lenU (by rfl) T.n_len (by decide +kernel) (pa_cons (pv 0) pa_nil)) (pe_callB call_lenU (by rfl) T.n_len (by decide +kernel) (pa_cons (pv 1) pa_nil)) (nomark _)) (pe_one (pe_callB (cr_all rfl) (by rfl) T.n_all (by decide +kernel) (pa_cons (pe_lc (own := [("_law_mine", 2), ("_law_its", 3)]) (by rfl) nd (pi_zipU (by rfl) T.n_zip (pa_cons (pv 0) (pa_cons (pv 1) pa_nil))) (blkOk_by (own := [("_law_mine", 2), ("_law_its", 3)]) (N := N__law_same) (sc := defScope s__law_same) (by decide +kernel)) (fun _ _ _ _ _ => (pg_tup rfl (pgs_cons (pg_name (i := 2) nd rfl (Or.inl rfl)) (pgs_cons (pg_name (i := 3) nd rfl (Or.inl rfl)) pgs_nil)))) (fun _ _ _ _ _ => pts_nil) (fun _ _ _ _ _ => (pe_call ih (hr.mono (Nat.le_refl _)) (by rfl) T.m__law_same T.F__law_same.kp T.b__law_same .nil pass0 (pa_cons (pv 2) (pa_cons (pv 3) pa_nil))))) pa_nil))))))) pss_nil) (pss_cons (ps_if (PW.pt (pw_or (pt_cmpR op_isU (pv 1) pe_non (nomark _)) (pw_or1 (pt_val (pe_callB call_isiT (by rfl) T.n_isinstance (by decide +kernel) (pa_cons (pv 1) (pa_cons (pe_tup (pa_cons (pe_bltn (v := .ty "bool") (by rfl) T.n_bool (by decide +kernel) rfl) (pa_cons (pe_bltn (v := .ty "str") (by rfl) T.n_str (by decide +kernel) rfl) pa_nil))) pa_nil))))))) (pss_one (ps_ret (pe_and (pe_cmpR (op_eqU hr) (pv 0) (pv 1) (nomark _)) (pe_and (pe_cmpR (op_eqU hr) (pe_callB call_isi (by rfl) T.n_isinstance (by decide +kernel) (pa_cons (pv 0) (pa_cons (pe_bltn (v := .ty "bool") (by rfl) T.n_bool (by decide +kernel) rfl) pa_nil))) (pe_callB call_isi (by rfl) T.n_isinstance (by decide +kernel) (pa_cons (pv 1) (pa_cons (pe_bltn (v := .ty "bool") (by rfl) T.n_bool (by decide +kernel) rfl) pa_nil))) (nomark _)) (pe_one (pe_cmpR (op_eqU hr) (pe_cmpR op_isU (pv 0) pe_non (nomark _)) (pe_cmpR op_isU (pv 1) pe_non (nomark _)) (nomark _))))))) pss_nil) (pss_one (ps_ret (pe_and (pe_callB call_isi (by rfl) T.n_isinstance (by decide +kernel) (pa_cons (pv 0) (pa_cons (pe_bltn (v := .ty "int") (by rfl) T.n_int (by decide +kernel) rfl) pa_nil))) (pe_and (pe_not (pe_callB call_isi (by rfl) T.n_isinstance (by decide +kernel) (pa_cons (pv 0) (pa_cons (pe_bltn (v := .ty "bool") (by rfl) T.n_bool (by decide +kernel) rfl) pa_nil)))) (pe_one (pe_cmpR (op_eqU hr) (pv 0) (pv 1) (nomark _))))))))),
      run_P (N := N__law_same) (ds_seq (ds_if (dt_B (de_isiT (Ts := ["list", "tuple"]) (by decide) (do_e de_v))) (ds_seq (ds_if (dt_or (dt_test (de_op sn_neW (do_e (de_isi (do_e de_v))) (do_e (de_isi (do_e de_v))))) (dt_test (de_op sn_neW (do_e (de_isi (do_e de_v))) (do_e (de_isi (do_e de_v)))))) (ds_ret de_bl) ds_next) (ds_ret (de_and (de_op sn_eqW (do_e (de_cb sn_len (da_cons (do_e de_v) da_nil))) (do_e (de_cb sn_len (da_cons (do_e de_v) da_nil)))) (de_cb sn_all (da_cons (do_e (de_l (df_lc (di_zip (da_cons (do_e de_v) (da_cons (do_e de_v) da_nil))) (dg_tup (dgs_cons (dg_name (by decide)) (dgs_cons (dg_name (by decide)) dgs_nil))) dt_yes (de_call hFl (da_cons (do_e de_v) (da_cons (do_e de_v) da_nil)))))) da_nil))))) ds_next) (ds_seq (ds_if (dt_or (dt_test (de_op sn_is (do_e de_v) (do_e de_non))) (dt_B (de_isiT (Ts := ["bool", "str"]) (by decide) (do_e de_v)))) (ds_ret (de_and (de_op sn_eqW (do_e de_v) (do_e de_v)) (de_and (de_op sn_eqW (do_e (de_isi (do_e de_v))) (do_e (de_isi (do_e de_v)))) (de_op sn_eqW (do_e (de_op sn_is (do_e de_v) (do_e de_non))) (do_e (de_op sn_is (do_e de_v) (do_e de_non))))))) ds_next) (ds_ret (de_and (de_isi (do_e de_v)) (de_and (de_not (de_isi (do_e de_v))) (de_op sn_eqW (do_e de_v) (do_e de_v))))))) (by decide) h⟩
theorem ok__law_right (T : Tx K mg) : FnOk P w K mg base CX0 7 T.a__law_right T.d__law_right ["_law_cell"] (spP K 1 F__law_right) := by
    refine T.F__law_right.ok sc__law_right (fun vs H Q E h => h.1) (fun cdv A outer s H vs Q E hr h => ?_)
    have nd := sc__law_right.nd
    exact ⟨_, (pss_cons (ps_par3 (i := 1) (j := 2) (l := 3) (by rfl) nd rfl rfl rfl (by decide) (by decide) (by decide) rfl rfl rfl (pa_cons (pe_op op_addU pe_str (pe_callTy call_strU (by rfl) T.n_str (by decide +kernel) (pa_cons (pv 0) pa_nil))) (pa_cons (pe_tup (pa_cons pe_str (pa_cons (pv 0) pa_nil))) (pa_cons (pe_lst (pa_cons (pv 0) (pa_cons pe_int pa_nil))) pa_nil))) (by rfl)) (pss_cons (ps_set (i := 4) nd rfl (Or.inl rfl) (pe_lst (pa_cons (pe_ox DLX.bs_L (ox_NoPerson T) (hr.mono (by decide)) (by rfl) T.m_NoPerson (pa_cons (pv 0) pa_nil)) (pa_cons (pe_ox DLX.bs_L (ox_NoPlace T) (hr.mono (by decide)) (by rfl) T.m_NoPlace (pa_cons (pv 0) pa_nil)) (pa_cons (pe_ox DLX.bs_L (ox_NoNumber T) (hr.mono (by decide)) (by rfl) T.m_NoNumber (pa_cons (pv 0) pa_nil)) (pa_cons (pe_ox DLX.bs_L (ox_NoDeed T) (hr.mono (by decide)) (by rfl) T.m_NoDeed (pa_cons (pv 0) pa_nil)) (pa_cons (pe_ox DLX.bs_V (ox_OtherPeople T) (hr.mono (by decide)) (by rfl) T.m_OtherPeople (pa_cons (pv 0) pa_nil)) (pa_cons (pe_ox DLX.bs_V (ox_NotWay T) (hr.mono (by decide)) (by rfl) T.m_NotWay (pa_cons (pv 3) pa_nil)) pa_nil)))))))) (pss_cons (ps_set (i := 4) nd rfl (Or.inl rfl) (pe_op op_addU (pv 4) (pe_lst (pa_cons (pe_ox DLX.bs_V (ox_BadDeed T) (hr.mono (by decide)) (by rfl) T.m_BadDeed (pa_cons (pv 0) pa_nil)) (pa_cons (pe_ox DLX.bs_V (ox_BadText T) (hr.mono (by decide)) (by rfl) T.m_BadText (pa_cons (pv 1) pa_nil)) (pa_cons (pe_ox DLX.bs_V (ox_BadLine T) (hr.mono (by decide)) (by rfl) T.m_BadLine (pa_cons (pv 0) pa_nil)) pa_nil)))))) (pss_cons (ps_set (i := 4) nd rfl (Or.inl rfl) (pe_op op_addU (pv 4) (pe_lst (pa_cons (pe_ox DLX.bs_R (ox_Barred T) (hr.mono (by decide)) (by rfl) T.m_Barred (pa_cons (pv 2) pa_nil)) (pa_cons (pe_ox DLX.bs_O (ox_TooMany T) (hr.mono (by decide)) (by rfl) T.m_TooMany (pa_cons (pe_op op_addU (pv 0) pe_int) pa_nil)) (pa_cons (pe_ox DLX.bs_O (ox_Full T) (hr.mono (by decide)) (by rfl) T.m_Full (pa_cons (pe_op op_addU (pv 0) pe_int) pa_nil)) pa_nil)))))) (pss_cons (ps_set (i := 5) nd rfl (Or.inl rfl) (pe_lst (pa_cons (pe_xF (pe_ix ix_seq (pv 4) pe_int (fun _ _ => rfl))) (pa_cons (pe_xF (pe_ix ix_seq (pv 4) pe_int (fun _ _ => rfl))) (pa_cons (pe_xF (pe_ix ix_seq (pv 4) pe_int (fun _ _ => rfl))) (pa_cons (pe_xF (pe_ix ix_seq (pv 4) pe_int (fun _ _ => rfl))) pa_nil)))))) (pss_cons (ps_set (i := 5) nd rfl (Or.inl rfl) (pe_op op_addU (pv 5) (pe_lst (pa_cons (pe_xF (pe_ix ix_seq (pv 4) pe_int (fun _ _ => rfl))) (pa_cons (pe_xF (pe_ix ix_seq (pv 4) pe_int (fun _ _ => rfl))) (pa_cons (pe_xF (pe_ix ix_seq (pv 4) pe_int (fun _ _ => rfl))) pa_nil)))))) (pss_cons (ps_set (i := 5) nd rfl (Or.inl rfl) (pe_op op_addU (pv 5) (pe_lst (pa_cons (pe_xF (pe_ix ix_seq (pv 4) pe_int (fun _ _ => rfl))) (pa_cons (pe_xF (pe_ix ix_seq (pv 4) pe_int (fun _ _ => rfl))) (pa_cons (pe_xF (pe_ix ix_seq (pv 4) pe_int (fun _ _ => rfl))) (pa_cons (pe_xF (pe_ix ix_seq (pv 4) pe_int (fun _ _ => rfl))) (pa_cons (pe_xF (pe_ix ix_seq (pv 4) pe_int (fun _ _ => rfl))) pa_nil)))))))) (pss_cons (ps_set (i := 6) nd rfl (Or.inl rfl) (pe_op op_addU (pe_op op_mulT (pe_lst (pa_cons (pv 0) pa_nil)) pe_int) (pe_lst (pa_cons (pv 3) (pa_cons (pv 0) (pa_cons (pv 1) (pa_cons (pv 0) (pa_cons (pv 2) (pa_cons (pe_op op_addU (pv 0) pe_int) (pa_cons (pe_op op_addU (pv 0) pe_int) pa_nil)))))))))) (pss_cons (ps_if (PW.pt (pw_or (pt_not (pt_val (pe_call (ok__law_same T 6) (hr.mono (by decide)) (by rfl) T.m__law_same T.F__law_same.kp T.b__law_same .nil pass0 (pa_cons (pv 5) (pa_cons (pv 6) pa_nil))))) (pw_or1 (pt_not (pt_val (pe_call (ok__law_all_right T) (hr.mono (by decide)) (by rfl) T.m__law_all_right T.F__law_all_right.kp T.b__law_all_right .nil pass0 (pa_cons (pv 4) (pa_cons (pe_lst (pa_cons pe_int (pa_cons pe_int (pa_cons pe_int (pa_cons pe_int (pa_cons pe_int (pa_cons pe_int (pa_cons pe_int (pa_cons pe_int (pa_cons pe_int (pa_cons pe_int (pa_cons pe_int (pa_cons pe_int pa_nil))))))))))))) pa_nil)))))))) (pss_one (ps_ret pe_bl)) pss_nil) (pss_cons (ps_set (i := 5) nd rfl (Or.inl rfl) (pe_lst (pa_cons (pe_xF (pe_oxK DLX.bs_L (oxk_NoPerson T) (hr.mono (by decide)) (by rfl) T.m_NoPerson (pk_cons (pv 0) pk_nil))) (pa_cons (pe_xF (pe_oxK DLX.bs_L (oxk_NoPlace T) (hr.mono (by decide)) (by rfl) T.m_NoPlace (pk_cons (pv 0) pk_nil))) (pa_cons (pe_xF (pe_oxK DLX.bs_L (oxk_NoNumber T) (hr.mono (by decide)) (by rfl) T.m_NoNumber (pk_cons (pv 0) pk_nil))) pa_nil))))) (pss_cons (ps_set (i := 5) nd rfl (Or.inl rfl) (pe_op op_addU (pv 5) (pe_lst (pa_cons (pe_xF (pe_oxK DLX.bs_L (oxk_NoDeed T) (hr.mono (by decide)) (by rfl) T.m_NoDeed (pk_cons (pv 0) pk_nil))) (pa_cons (pe_xF (pe_oxK DLX.bs_V (oxk_OtherPeople T) (hr.mono (by decide)) (by rfl) T.m_OtherPeople (pk_cons (pv 0) pk_nil))) (pa_cons (pe_xF (pe_oxK DLX.bs_V (oxk_NotWay T) (hr.mono (by decide)) (by rfl) T.m_NotWay (pk_cons (pv 3) pk_nil))) pa_nil)))))) (pss_cons (ps_set (i := 5) nd rfl (Or.inl rfl) (pe_op op_addU (pv 5) (pe_lst (pa_cons (pe_xF (pe_oxK DLX.bs_V (oxk_BadDeed T) (hr.mono (by decide)) (by rfl) T.m_BadDeed (pk_cons (pv 0) pk_nil))) (pa_cons (pe_xF (pe_oxK DLX.bs_V (oxk_BadText T) (hr.mono (by decide)) (by rfl) T.m_BadText (pk_cons (pv 1) pk_nil))) (pa_cons (pe_xF (pe_oxK DLX.bs_V (oxk_BadLine T) (hr.mono (by decide)) (by rfl) T.m_BadLine (pk_cons (pv 0) pk_nil))) pa_nil)))))) (pss_cons (ps_set (i := 5) nd rfl (Or.inl rfl) (pe_op op_addU (pv 5) (pe_lst (pa_cons (pe_xF (pe_oxK DLX.bs_R (oxk_Barred T) (hr.mono (by decide)) (by rfl) T.m_Barred (pk_cons (pv 2) pk_nil))) (pa_cons (pe_xF (pe_oxK DLX.bs_O (oxk_TooMany T) (hr.mono (by decide)) (by rfl) T.m_TooMany (pk_cons (pe_op op_addU (pv 0) pe_int) pk_nil))) (pa_cons (pe_xF (pe_oxK DLX.bs_O (oxk_Full T) (hr.mono (by decide)) (by rfl) T.m_Full (pk_cons (pe_op op_addU (pv 0) pe_int) pk_nil))) pa_nil)))))) (pss_one (ps_ret (pe_call (ok__law_same T 6) (hr.mono (by decide)) (by rfl) T.m__law_same T.F__law_same.kp T.b__law_same .nil pass0 (pa_cons (pv 5) (pa_cons (pv 6) pa_nil)))))))))))))))))),
      run_P (N := N__law_right) (ds_seq (ds_par3s (de_op sn_addU (do_e de_str) (do_e (de_cb sn_str (da_cons (do_e de_v) da_nil)))) (de_tup (da_cons (do_e de_str) (da_cons (do_e de_v) da_nil))) (de_l (df_lst (da_cons (do_e de_v) (da_cons (do_e de_int) da_nil))))) (ds_seq (ds_set (i := 4) (de_l (df_lst (da_cons (do_e (de_mk T.cc_NoPerson rfl de_v)) (da_cons (do_e (de_mk T.cc_NoPlace rfl de_v)) (da_cons (do_e (de_mk T.cc_NoNumber rfl de_v)) (da_cons (do_e (de_mk T.cc_NoDeed rfl de_v)) (da_cons (do_e (de_mk T.cc_OtherPeople rfl de_v)) (da_cons (do_e (de_mk T.cc_NotWay rfl de_v)) da_nil))))))))) (ds_seq (ds_set (i := 4) (de_op sn_addU (do_e de_v) (do_e (de_l (df_lst (da_cons (do_e (de_mk T.cc_BadDeed rfl de_v)) (da_cons (do_e (de_mk T.cc_BadText rfl de_v)) (da_cons (do_e (de_mk T.cc_BadLine rfl de_v)) da_nil)))))))) (ds_seq (ds_set (i := 4) (de_op sn_addU (do_e de_v) (do_e (de_l (df_lst (da_cons (do_e (de_mk T.cc_Barred rfl de_v)) (da_cons (do_e (de_mk T.cc_TooMany rfl (de_op sn_addU (do_e de_v) (do_e de_int)))) (da_cons (do_e (de_mk T.cc_Full rfl (de_op sn_addU (do_e de_v) (do_e de_int)))) da_nil)))))))) (ds_seq (ds_set (i := 5) (de_l (df_lst (da_cons (do_e (de_xF (f := "person") T.et (do_e (de_op sn_ix (do_e de_v) (do_e de_int))))) (da_cons (do_e (de_xF (f := "place") T.et (do_e (de_op sn_ix (do_e de_v) (do_e de_int))))) (da_cons (do_e (de_xF (f := "number") T.et (do_e (de_op sn_ix (do_e de_v) (do_e de_int))))) (da_cons (do_e (de_xF (f := "many") T.et (do_e (de_op sn_ix (do_e de_v) (do_e de_int))))) da_nil))))))) (ds_seq (ds_set (i := 5) (de_op sn_addU (do_e de_v) (do_e (de_l (df_lst (da_cons (do_e (de_xF (f := "many") T.et (do_e (de_op sn_ix (do_e de_v) (do_e de_int))))) (da_cons (do_e (de_xF (f := "calls") T.et (do_e (de_op sn_ix (do_e de_v) (do_e de_int))))) (da_cons (do_e (de_xF (f := "at") T.et (do_e (de_op sn_ix (do_e de_v) (do_e de_int))))) da_nil)))))))) (ds_seq (ds_set (i := 5) (de_op sn_addU (do_e de_v) (do_e (de_l (df_lst (da_cons (do_e (de_xF (f := "text") T.et (do_e (de_op sn_ix (do_e de_v) (do_e de_int))))) (da_cons (do_e (de_xF (f := "at") T.et (do_e (de_op sn_ix (do_e de_v) (do_e de_int))))) (da_cons (do_e (de_xF (f := "reason") T.et (do_e (de_op sn_ix (do_e de_v) (do_e de_int))))) (da_cons (do_e (de_xF (f := "many") T.et (do_e (de_op sn_ix (do_e de_v) (do_e de_int))))) (da_cons (do_e (de_xF (f := "many") T.et (do_e (de_op sn_ix (do_e de_v) (do_e de_int))))) da_nil)))))))))) (ds_seq (ds_set (i := 6) (de_op sn_addU (do_e (de_op sn_mulV (do_e (de_l (df_lst (da_cons (do_e de_v) da_nil)))) (do_e de_int))) (do_e (de_l (df_lst (da_cons (do_e de_v) (da_cons (do_e de_v) (da_cons (do_e de_v) (da_cons (do_e de_v) (da_cons (do_e de_v) (da_cons (do_e (de_op sn_addU (do_e de_v) (do_e de_int))) (da_cons (do_e (de_op sn_addU (do_e de_v) (do_e de_int))) da_nil)))))))))))) (ds_seq (ds_if (dt_or (dt_not (dt_B (de_call (Fl__law_same _) (da_cons (do_e de_v) (da_cons (do_e de_v) da_nil))))) (dt_not (dt_B (de_call callP_len (da_cons (do_e de_v) (da_cons (do_e (de_l (df_lst (da_cons (do_e de_int) (da_cons (do_e de_int) (da_cons (do_e de_int) (da_cons (do_e de_int) (da_cons (do_e de_int) (da_cons (do_e de_int) (da_cons (do_e de_int) (da_cons (do_e de_int) (da_cons (do_e de_int) (da_cons (do_e de_int) (da_cons (do_e de_int) (da_cons (do_e de_int) da_nil))))))))))))))) da_nil)))))) (ds_ret de_bl) ds_next) (ds_seq (ds_set (i := 5) (de_l (df_lst (da_cons (do_e (de_xF (f := "person") T.et (do_e (de_mk T.cc_NoPerson rfl de_v)))) (da_cons (do_e (de_xF (f := "place") T.et (do_e (de_mk T.cc_NoPlace rfl de_v)))) (da_cons (do_e (de_xF (f := "number") T.et (do_e (de_mk T.cc_NoNumber rfl de_v)))) da_nil)))))) (ds_seq (ds_set (i := 5) (de_op sn_addU (do_e de_v) (do_e (de_l (df_lst (da_cons (do_e (de_xF (f := "many") T.et (do_e (de_mk T.cc_NoDeed rfl de_v)))) (da_cons (do_e (de_xF (f := "many") T.et (do_e (de_mk T.cc_OtherPeople rfl de_v)))) (da_cons (do_e (de_xF (f := "calls") T.et (do_e (de_mk T.cc_NotWay rfl de_v)))) da_nil)))))))) (ds_seq (ds_set (i := 5) (de_op sn_addU (do_e de_v) (do_e (de_l (df_lst (da_cons (do_e (de_xF (f := "at") T.et (do_e (de_mk T.cc_BadDeed rfl de_v)))) (da_cons (do_e (de_xF (f := "text") T.et (do_e (de_mk T.cc_BadText rfl de_v)))) (da_cons (do_e (de_xF (f := "at") T.et (do_e (de_mk T.cc_BadLine rfl de_v)))) da_nil)))))))) (ds_seq (ds_set (i := 5) (de_op sn_addU (do_e de_v) (do_e (de_l (df_lst (da_cons (do_e (de_xF (f := "reason") T.et (do_e (de_mk T.cc_Barred rfl de_v)))) (da_cons (do_e (de_xF (f := "many") T.et (do_e (de_mk T.cc_TooMany rfl (de_op sn_addU (do_e de_v) (do_e de_int)))))) (da_cons (do_e (de_xF (f := "many") T.et (do_e (de_mk T.cc_Full rfl (de_op sn_addU (do_e de_v) (do_e de_int)))))) da_nil)))))))) (ds_ret (de_call (Fl__law_same _) (da_cons (do_e de_v) (da_cons (do_e de_v) da_nil))))))))))))))))) (by decide) h⟩
theorem ok_law (T : Tx K mg) : FnOk P w K mg base CX0 8 T.a_law T.d_law ["_law_script"] (spP K 1 F_law) := by
    refine T.F_law.ok sc_law (fun vs H Q E h => h.1) (fun cdv A outer s H vs Q E hr h => ?_)
    have nd := sc_law.nd
    exact ⟨_, (pss_cons (ps_set (i := 1) nd rfl (Or.inl rfl) (pe_op op_addU (pe_lc (own := [("_law_cell", 2)]) (by rfl) nd (pi_seqU (pe_slice sl_U (pv 0) po_none (po_some pe_int))) (blkOk_by (own := [("_law_cell", 2)]) (N := N_law) (sc := defScope s_law) (by decide +kernel)) (fun _ _ _ _ _ => (pg_name (i := 2) nd rfl (Or.inl rfl))) (fun _ _ _ _ _ => pts_nil) (fun _ _ _ _ _ => (pe_op op_addU (pe_op op_mod (pe_callB call_absU (by rfl) T.n_abs (by decide +kernel) (pa_cons (pv 2) pa_nil)) pe_int) pe_int))) (pe_lst (pa_cons pe_int pa_nil)))) (pss_one (ps_ret (pe_callB (cr_all rfl) (by rfl) T.n_all (by decide +kernel) (pa_cons (pe_lc (own := [("_law_cell", 2)]) (by rfl) nd (pi_seqU (pv 1)) (blkOk_by (own := [("_law_cell", 2)]) (N := N_law) (sc := defScope s_law) (by decide +kernel)) (fun _ _ _ _ _ => (pg_name (i := 2) nd rfl (Or.inl rfl))) (fun _ _ _ _ _ => pts_nil) (fun _ _ _ _ _ => (pe_call (ok__law_right T) (hr.mono (by decide)) (by rfl) T.m__law_right T.F__law_right.kp T.b__law_right .nil pass0 (pa_cons (pv 2) pa_nil)))) pa_nil))))),
      run_P (N := N_law) (ds_seq (ds_set (i := 1) (de_op sn_addU (do_e (de_l (df_lc (di_seq (de_sl sn_sliceU (do_e de_v) dp_no (dp_so de_int))) (dg_name (by decide)) dt_yes (de_op sn_addU (do_e (de_op sn_mod (do_e (de_cb sn_abs (da_cons (do_e de_v) da_nil))) (do_e de_int))) (do_e de_int))))) (do_e (de_l (df_lst (da_cons (do_e de_int) da_nil)))))) (ds_ret (de_cb sn_all (da_cons (do_e (de_l (df_lc (di_seq de_v) (dg_name (by decide)) dt_yes (de_call callP_len (da_cons (do_e de_v) da_nil))))) da_nil)))) (by decide) h⟩
end
end W

namespace W
open PySem L2 DL
local macro_rules | `(tactic| walk_at "ev") => `(tactic| simp only [eC, eV, oE, oV, eL, eT, aNil, aCons, eOp2, eOp1, eApp, tstE, eB, tNotG, tAndG, tOrG, eAndG, eOrG, eNotG, eIf, eSeq, eCall, eCallO, eCallB, eCallBF, eCallBX, sSeq, sNext, sRet, sRetF, sRetO, sRetN, sDrop, sIf, sSet, sSetO, sBreak, sCont, sBad, sPar, sPar3, fz, sFz, eCallW, idL, sApp, sPutIx, sAug, sFor, gN, gT, gsCons, gsNil, gYes, eLc, gSeq, nS, nF, Nw.sl, R.ok_bind, R.ok_map, R.lift_some, to_ok, toX_ok, toX_ex, bind_nx, bind_rt, bind_rf, bind_ex, bind_bk, bind_ct, at_ok, at_ex, res_val, map_ex, rbind_ex, Op.res, resA, valA, isOw, box0, Option.map_some, Option.bind_some, sHeardT, nlCons, nlNil, Nw.dat, mSet, eChain, eRg1, eRg2, eSl, pNo, pSo,
  List.getElem?_cons_zero, List.getElem?_cons_succ, List.set_cons_zero, List.set_cons_succ, List.length_cons, List.length_nil, if_true, if_false, Bool.false_eq_true, ite_true, ite_false, reduceIte,
  addU_int, subD_int, ltD_int, leD_int, gtD_int, geD_int, negD_int, absD_int, intD_bool, intD_int, lenD_list, lenD_tuple, lenD_scr, pow10_7, pow10_18, pow10_40, eqW_ints, neW_ints, eqW_strs, neW_strs, eqW_none, eqW_in, eqW_ni, ixD_list, ixD_tuple, ixD_scr, atI_3_0, atI_3_1, atI_3_2, ixN_3_0, ixN_3_1, ixN_3_2, wipeR, zip2D, skOf, isiD_n, isiD_b, isiD_i, isiD_s, isiD_l, isiD_t, isiTD_n, isiTD_b, isiTD_i, isiTD_s, isiTD_l, isiTD_t, isiAny, eCallX, eCallWX, xE, xIf, xL, xCb1, sSetX, sRetX, sDropX, sRaise, sTo, eMk, isX_n, sKeep, kt_ll, kt_lt, kt_ls, kt_li, kt_lb, kt_tl, kt_tt, kt_ts, kt_ti, kt_tb, kt_sl, kt_st, kt_ss, kt_si, kt_sb, kt_il, kt_it, kt_is, kt_ii, kt_ib, kt_bl, kt_bt, kt_bs, kt_bi, kt_bb, kt_nl, kt_nt, kt_ns, kt_ni, kt_nb, eqW_bools, neW_bools, isD_none, isNotD_none, isNoneD, isNone_e, List.map_cons, List.map_nil, List.replicate, List.append_nil, List.cons_append, List.nil_append, nc0, nc1, nc2, nc3, nc4, nc5, nc6, nc7, nc8, nc9, nc10, nc11, nc12, nc13, nc14, nc15, nc16, nc17, nc18, nc19, nc20, Nat.reduceAdd, Nat.reduceSub, ne_eq, decide_true, decide_false, not_true_eq_false, not_false_eq_true, reduceCtorEq, Bool.and_true, Bool.true_and, Bool.and_false, Bool.false_and, Bool.or_true, Bool.true_or, Bool.or_false, Bool.false_or, Bool.not_true, Bool.not_false])
local macro_rules | `(tactic| walk_at "evh") => `(tactic| simp only [eC, eV, oE, oV, eL, eT, aNil, aCons, eOp2, eOp1, eApp, tstE, eB, tNotG, tAndG, tOrG, eAndG, eOrG, eNotG, eIf, eSeq, eCall, eCallO, eCallB, eCallBF, eCallBX, sSeq, sNext, sRet, sRetF, sRetO, sRetN, sDrop, sIf, sSet, sSetO, sBreak, sCont, sBad, sPar, sPar3, fz, sFz, eCallW, idL, sApp, sPutIx, sAug, sFor, gN, gT, gsCons, gsNil, gYes, eLc, gSeq, nS, nF, Nw.sl, R.ok_bind, R.ok_map, R.lift_some, to_ok, toX_ok, toX_ex, bind_nx, bind_rt, bind_rf, bind_ex, bind_bk, bind_ct, at_ok, at_ex, res_val, map_ex, rbind_ex, Op.res, resA, valA, isOw, box0, Option.map_some, Option.bind_some, sHeardT, nlCons, nlNil, Nw.dat, mSet, eChain, eRg1, eRg2, eSl, pNo, pSo,
  List.getElem?_cons_zero, List.getElem?_cons_succ, List.set_cons_zero, List.set_cons_succ, List.length_cons, List.length_nil, if_true, if_false, Bool.false_eq_true, ite_true, ite_false, reduceIte,
  addU_int, subD_int, ltD_int, leD_int, gtD_int, geD_int, negD_int, absD_int, intD_bool, intD_int, lenD_list, lenD_tuple, lenD_scr, pow10_7, pow10_18, pow10_40, eqW_ints, neW_ints, eqW_strs, neW_strs, eqW_none, eqW_in, eqW_ni, ixD_list, ixD_tuple, ixD_scr, atI_3_0, atI_3_1, atI_3_2, ixN_3_0, ixN_3_1, ixN_3_2, wipeR, zip2D, skOf, isiD_n, isiD_b, isiD_i, isiD_s, isiD_l, isiD_t, isiTD_n, isiTD_b, isiTD_i, isiTD_s, isiTD_l, isiTD_t, isiAny, eCallX, eCallWX, xE, xIf, xL, xCb1, sSetX, sRetX, sDropX, sRaise, sTo, eMk, isX_n, sKeep, kt_ll, kt_lt, kt_ls, kt_li, kt_lb, kt_tl, kt_tt, kt_ts, kt_ti, kt_tb, kt_sl, kt_st, kt_ss, kt_si, kt_sb, kt_il, kt_it, kt_is, kt_ii, kt_ib, kt_bl, kt_bt, kt_bs, kt_bi, kt_bb, kt_nl, kt_nt, kt_ns, kt_ni, kt_nb, eqW_bools, neW_bools, isD_none, isNotD_none, isNoneD, isNone_e, List.map_cons, List.map_nil, List.replicate, List.append_nil, List.cons_append, List.nil_append, nc0, nc1, nc2, nc3, nc4, nc5, nc6, nc7, nc8, nc9, nc10, nc11, nc12, nc13, nc14, nc15, nc16, nc17, nc18, nc19, nc20, Nat.reduceAdd, Nat.reduceSub, ne_eq, decide_true, decide_false, not_true_eq_false, not_false_eq_true, reduceCtorEq, Bool.and_true, Bool.true_and, Bool.and_false, Bool.false_and, Bool.or_true, Bool.true_or, Bool.or_false, Bool.false_or, Bool.not_true, Bool.not_false, *])
theorem r_1 : F__law_right [.int 1] = some (.bool true) := by kernel_rfl
theorem r_2 : F__law_right [.int 2] = some (.bool true) := by kernel_rfl
theorem r_3 : F__law_right [.int 3] = some (.bool true) := by kernel_rfl
theorem r_4 : F__law_right [.int 4] = some (.bool true) := by kernel_rfl
theorem r_5 : F__law_right [.int 5] = some (.bool true) := by kernel_rfl
theorem r_6 : F__law_right [.int 6] = some (.bool true) := by kernel_rfl
theorem r_7 : F__law_right [.int 7] = some (.bool true) := by kernel_rfl
theorem r_8 : F__law_right [.int 8] = some (.bool true) := by kernel_rfl
theorem r_9 : F__law_right [.int 9] = some (.bool true) := by kernel_rfl
theorem r_10 : F__law_right [.int 10] = some (.bool true) := by kernel_rfl
theorem r_11 : F__law_right [.int 11] = some (.bool true) := by kernel_rfl
theorem r_12 : F__law_right [.int 12] = some (.bool true) := by kernel_rfl
theorem r_13 : F__law_right [.int 13] = some (.bool true) := by kernel_rfl
theorem r_14 : F__law_right [.int 14] = some (.bool true) := by kernel_rfl
theorem r_15 : F__law_right [.int 15] = some (.bool true) := by kernel_rfl
theorem r_16 : F__law_right [.int 16] = some (.bool true) := by kernel_rfl
theorem r_17 : F__law_right [.int 17] = some (.bool true) := by kernel_rfl
theorem r_18 : F__law_right [.int 18] = some (.bool true) := by kernel_rfl
theorem r_19 : F__law_right [.int 19] = some (.bool true) := by kernel_rfl
theorem r_20 : F__law_right [.int 20] = some (.bool true) := by kernel_rfl
theorem r_21 : F__law_right [.int 21] = some (.bool true) := by kernel_rfl
theorem r_22 : F__law_right [.int 22] = some (.bool true) := by kernel_rfl
theorem r_23 : F__law_right [.int 23] = some (.bool true) := by kernel_rfl
theorem r_24 : F__law_right [.int 24] = some (.bool true) := by kernel_rfl
theorem r_25 : F__law_right [.int 25] = some (.bool true) := by kernel_rfl
theorem r_26 : F__law_right [.int 26] = some (.bool true) := by kernel_rfl
theorem r_27 : F__law_right [.int 27] = some (.bool true) := by kernel_rfl
theorem r_28 : F__law_right [.int 28] = some (.bool true) := by kernel_rfl
theorem r_29 : F__law_right [.int 29] = some (.bool true) := by kernel_rfl
theorem r_30 : F__law_right [.int 30] = some (.bool true) := by kernel_rfl
theorem r_31 : F__law_right [.int 31] = some (.bool true) := by kernel_rfl
theorem r_32 : F__law_right [.int 32] = some (.bool true) := by kernel_rfl
theorem r_33 : F__law_right [.int 33] = some (.bool true) := by kernel_rfl
theorem r_34 : F__law_right [.int 34] = some (.bool true) := by kernel_rfl
theorem r_35 : F__law_right [.int 35] = some (.bool true) := by kernel_rfl
theorem r_36 : F__law_right [.int 36] = some (.bool true) := by kernel_rfl
theorem r_37 : F__law_right [.int 37] = some (.bool true) := by kernel_rfl
theorem r_38 : F__law_right [.int 38] = some (.bool true) := by kernel_rfl
theorem r_39 : F__law_right [.int 39] = some (.bool true) := by kernel_rfl
theorem right_eq {c : Int} (h1 : 1 ≤ c) (h2 : c ≤ 39) : F__law_right [.int c] = some (.bool true) := by
  have h : c = 1 ∨ c = 2 ∨ c = 3 ∨ c = 4 ∨ c = 5 ∨ c = 6 ∨ c = 7 ∨ c = 8 ∨ c = 9 ∨ c = 10 ∨ c = 11 ∨ c = 12 ∨ c = 13 ∨ c = 14 ∨ c = 15 ∨ c = 16 ∨ c = 17 ∨ c = 18 ∨ c = 19 ∨ c = 20 ∨ c = 21 ∨ c = 22 ∨ c = 23 ∨ c = 24 ∨ c = 25 ∨ c = 26 ∨ c = 27 ∨ c = 28 ∨ c = 29 ∨ c = 30 ∨ c = 31 ∨ c = 32 ∨ c = 33 ∨ c = 34 ∨ c = 35 ∨ c = 36 ∨ c = 37 ∨ c = 38 ∨ c = 39 := by omega
  rcases h with rfl | rfl | rfl | rfl | rfl | rfl | rfl | rfl | rfl | rfl | rfl | rfl | rfl | rfl | rfl | rfl | rfl | rfl | rfl | rfl | rfl | rfl | rfl | rfl | rfl | rfl | rfl | rfl | rfl | rfl | rfl | rfl | rfl | rfl | rfl | rfl | rfl | rfl | rfl
  · exact r_1
  · exact r_2
  · exact r_3
  · exact r_4
  · exact r_5
  · exact r_6
  · exact r_7
  · exact r_8
  · exact r_9
  · exact r_10
  · exact r_11
  · exact r_12
  · exact r_13
  · exact r_14
  · exact r_15
  · exact r_16
  · exact r_17
  · exact r_18
  · exact r_19
  · exact r_20
  · exact r_21
  · exact r_22
  · exact r_23
  · exact r_24
  · exact r_25
  · exact r_26
  · exact r_27
  · exact r_28
  · exact r_29
  · exact r_30
  · exact r_31
  · exact r_32
  · exact r_33
  · exact r_34
  · exact r_35
  · exact r_36
  · exact r_37
  · exact r_38
  · exact r_39
theorem all_true : ∀ xs : List D, allD [.list (xs.map fun _ => PyData.bool true)] = some (.bool true) := fun xs => by
  have e : boolsOf (xs.map fun _ => PyData.bool true) = some (xs.map fun _ => true) := by
    rw [← boolsOf_map (xs.map fun _ => true), List.map_map]; rfl
  unfold allD
  dsimp only
  rw [e]
  show some (PyData.bool _) = _
  congr 2
  rw [List.all_map]
  exact List.all_eq_true.mpr fun _ _ => rfl
theorem law_go {S : D} {A B M : List D} (sl : sliceU S none (some 8) = some (.list A)) (za : A.length ≤ sizeLine) (h1 : lcL [2] (gN 2) gYes ce_law_1 A [.sh S, .no, .no] = .ok B [.sh S, .no, .no]) (sz : 1 ≤ sizeLine) (ad : addU (.list B) (.list [.int 1]) = some (.list M)) (zm : M.length ≤ sizeLine)
    (h2 : lcL [2] (gN 2) gYes ce_law_2 M [.sh S, .sh (.list M), .no] = .ok (M.map fun _ => PyData.bool true) [.sh S, .sh (.list M), .no]) (al : allD [.list (M.map fun _ => PyData.bool true)] = some (.bool true)) : F_law [S] = some (.bool true) := by
  generalize (M.map fun _ => PyData.bool true) = Y at h2 al
  have iA : itemsD (.list A) = some A := rfl
  have iM : itemsD (.list M) = some M := rfl
  unfold F_law callP g_law env0
  walk_at "evh"
def cellD : D → D
  | .int i => .int ((if i < 0 then -i else i) % 39 + 1)
  | d => d
theorem law_true (ns : List Int) (hl : ns.length ≤ 63) : F_law [.dict [(.list (ns.map .int), .none)]] = some (.bool true) := by
  have s1 : sliceU (.dict [(.list (ns.map PyData.int), .none)]) none (some 8) = some (.list ((ns.take 8).map .int)) := by
    show some (PyData.list (cutD (ns.map PyData.int) none (some ((8 : Nat) : Int)))) = _
    rw [cut_map, cut_to]
  have l8 : (ns.take 8).length ≤ 8 := by rw [List.length_take]; omega
  generalize ns.take 8 = ms at s1 l8
  generalize PyData.dict [(.list (ns.map PyData.int), .none)] = S at s1
  have h1 : lcL [2] (gN 2) gYes ce_law_1 (ms.map PyData.int) [.sh S, .no, .no] = .ok ((ms.map PyData.int).map cellD) [.sh S, .no, .no] := by
    refine lc_map _ fun d hd => ?_
    obtain ⟨i, _, rfl⟩ := List.mem_map.mp hd
    refine ⟨[.sh S, .no, .sh (.int i)], rfl, rfl, rfl, ?_⟩
    have m1 : modD (.int (if i < 0 then -i else i)) (.int 39) = some (.int ((if i < 0 then -i else i) % 39)) := modD_int (by omega)
    clear hd s1 l8 hl
    unfold ce_law_1 cellD
    walk_at "evh"
  have lb : ((ms.map PyData.int).map cellD).length ≤ 8 := by rw [List.length_map, List.length_map]; exact l8
  have ad : addU (.list ((ms.map PyData.int).map cellD)) (.list [.int 1]) = some (.list ((ms.map PyData.int).map cellD ++ [.int 1])) := addLL (by show _ + 1 ≤ _; omega)
  have hr : ∀ d ∈ ((ms.map PyData.int).map cellD ++ [.int 1]), F__law_right [d] = some (.bool true) := by
    intro d hd
    rcases List.mem_append.mp hd with hd | hd
    · obtain ⟨x, hx, rfl⟩ := List.mem_map.mp hd
      obtain ⟨i, _, rfl⟩ := List.mem_map.mp hx
      exact right_eq (by have := Int.emod_nonneg (if i < 0 then -i else i) (by decide : (39:Int) ≠ 0); omega) (by have := Int.emod_lt_of_pos (if i < 0 then -i else i) (by decide : (0:Int) < 39); omega)
    · cases List.mem_singleton.mp hd
      exact r_1
  have lm : ((ms.map PyData.int).map cellD ++ [PyData.int 1]).length ≤ 9 := by rw [List.length_append]; show _ + 1 ≤ 9; omega
  generalize ((ms.map PyData.int).map cellD ++ [PyData.int 1]) = M at ad hr lm
  refine law_go s1 ?_ h1 (by decide) ad ?_ ?_ (all_true M)
  · rw [List.length_map]; exact Nat.le_trans l8 (by decide)
  · exact Nat.le_trans lm (by decide)
  · refine lc_map _ fun d hd => ?_
    have e := hr d hd
    refine ⟨[.sh S, .sh (.list M), .sh d], rfl, rfl, rfl, ?_⟩
    clear hr hd ad lm lb s1 h1 l8 hl
    unfold ce_law_2
    walk_at "evh"
end W

namespace W
open PySem L2 DL
def FF (K : PySem.W.Frag) (name : Str) (st : Stmt) : Prop := ∃ (f : Addr) (fd : FuncData), PySem.W.nsIn K mainGlobals name = some (some (.ref f)) ∧ Fun K name name st f fd
theorem ff_mk {K : PySem.W.Frag} {name : Str} {st : Stmt} {f : Addr} {oc : Value} {od an : Option Addr} {osl : Array (Option Value)} {kV doc pm cdv ct : Value} (a : PySem.W.nsIn K mainGlobals name = some (some (.ref f)))
    (l : K.lookup f = some ⟨oc, od, .func (PySem.W.fnOf name name (defArgs st) (defBody st) (defScope st) .none kV doc pm an cdv ct), osl⟩) (c : PySem.W.codeIn K cdv name = true) (k : PySem.W.keepIn K (.ref f) = true) : FF K name st := ⟨f, _, a, fun_mk l c k⟩
theorem kwB_of {K : PySem.W.Frag} {x qual : Str} {st : Stmt} {f : Addr} {fd : FuncData} {ps ks : List Str} {g : {α : Type} → List α → List α} (F : Fun K x qual st f fd) (rel : ∀ {A C : Type} {rel : A → C → Prop} {zs : List A} {ws : List C}, Paired rel zs ws → Paired rel (g zs) (g ws))
    (h : ∀ (kV doc pm : Value) (an : Option Addr) (cdv ct : Value) (ws : List Value), ws.length = ks.length → bindArgs (PySem.W.fnOf x qual (defArgs st) (defBody st) (defScope st) .none kV doc pm an cdv ct) ⟨[], ks.zip ws⟩ = pure (ps.zip (g ws))) : KwB K fd ps ks g := by
  obtain ⟨oc, od, kV, doc, pm, an, cdv, ct, osl, rfl, lk, hcd⟩ := F.ex
  exact ⟨fun s ws _ hl => .of_eq (h kV doc pm an cdv ct ws hl), rel⟩
theorem kwI_of {K : PySem.W.Frag} {x qual : Str} {st : Stmt} {f : Addr} {fd : FuncData} {n : Str} (F : Fun K x qual st f fd)
    (h : ∀ (kV doc pm : Value) (an : Option Addr) (cdv ct : Value) (a u : Value), bindArgs (PySem.W.fnOf x qual (defArgs st) (defBody st) (defScope st) .none kV doc pm an cdv ct) ⟨[a], [(n, u)]⟩ = pure ((["self", n] : List Str).zip [a, u])) : KwI K fd n := by
  obtain ⟨oc, od, kV, doc, pm, an, cdv, ct, osl, rfl, lk, hcd⟩ := F.ex
  exact fun s a u _ => .of_eq (h kV doc pm an cdv ct a u)
theorem all_mk {l : PySem.W.OpenLaw} {w : World} {K : PySem.W.Frag} {h : Heap} {mg : Str → Option Value} {fa : Addr} (X : K.In h) (G : h.Ns mainGlobals mg) (hfa : mg "law" = some (.ref fa))
    (f__law_bases : FF K "_law_bases" s__law_bases) (f__law_kinds : FF K "_law_kinds" s__law_kinds) (f__law_all_right : FF K "_law_all_right" s__law_all_right) (f__law_same : FF K "_law_same" s__law_same) (f__law_right : FF K "_law_right" s__law_right) (f_law : FF K "law" s_law)
    (z_isinstance : PySem.W.nsIn K mainGlobals "isinstance" = some none) (z_ValueError : PySem.W.nsIn K mainGlobals "ValueError" = some none) (z_LookupError : PySem.W.nsIn K mainGlobals "LookupError" = some none) (z_OverflowError : PySem.W.nsIn K mainGlobals "OverflowError" = some none) (z_RuntimeError : PySem.W.nsIn K mainGlobals "RuntimeError" = some none) (z_enumerate : PySem.W.nsIn K mainGlobals "enumerate" = some none) (z_range : PySem.W.nsIn K mainGlobals "range" = some none) (z_KeyError : PySem.W.nsIn K mainGlobals "KeyError" = some none) (z_IndexError : PySem.W.nsIn K mainGlobals "IndexError" = some none) (z_NotImplementedError : PySem.W.nsIn K mainGlobals "NotImplementedError" = some none) (z_tuple : PySem.W.nsIn K mainGlobals "tuple" = some none) (z_list : PySem.W.nsIn K mainGlobals "list" = some none) (z_len : PySem.W.nsIn K mainGlobals "len" = some none) (z_zip : PySem.W.nsIn K mainGlobals "zip" = some none) (z_all : PySem.W.nsIn K mainGlobals "all" = some none) (z_str : PySem.W.nsIn K mainGlobals "str" = some none) (z_bool : PySem.W.nsIn K mainGlobals "bool" = some none) (z_int : PySem.W.nsIn K mainGlobals "int" = some none) (z_abs : PySem.W.nsIn K mainGlobals "abs" = some none) 
        {C_NoNumber : Addr} (aC_NoNumber : PySem.W.nsIn K mainGlobals "NoNumber" = some (some (.ref C_NoNumber)))
    {C_NoPlace : Addr} (aC_NoPlace : PySem.W.nsIn K mainGlobals "NoPlace" = some (some (.ref C_NoPlace)))
    {C_NoPerson : Addr} (aC_NoPerson : PySem.W.nsIn K mainGlobals "NoPerson" = some (some (.ref C_NoPerson)))
    {C_NotWay : Addr} (aC_NotWay : PySem.W.nsIn K mainGlobals "NotWay" = some (some (.ref C_NotWay)))
    {C_OtherPeople : Addr} (aC_OtherPeople : PySem.W.nsIn K mainGlobals "OtherPeople" = some (some (.ref C_OtherPeople)))
    {C_NoDeed : Addr} (aC_NoDeed : PySem.W.nsIn K mainGlobals "NoDeed" = some (some (.ref C_NoDeed)))
    {C_BadLine : Addr} (aC_BadLine : PySem.W.nsIn K mainGlobals "BadLine" = some (some (.ref C_BadLine)))
    {C_BadText : Addr} (aC_BadText : PySem.W.nsIn K mainGlobals "BadText" = some (some (.ref C_BadText)))
    {C_BadDeed : Addr} (aC_BadDeed : PySem.W.nsIn K mainGlobals "BadDeed" = some (some (.ref C_BadDeed)))
    {C_Full : Addr} (aC_Full : PySem.W.nsIn K mainGlobals "Full" = some (some (.ref C_Full)))
    {C_TooMany : Addr} (aC_TooMany : PySem.W.nsIn K mainGlobals "TooMany" = some (some (.ref C_TooMany)))
    {C_Barred : Addr} (aC_Barred : PySem.W.nsIn K mainGlobals "Barred" = some (some (.ref C_Barred)))
    {f_iNotWay N_NotWay : Addr} {nm_NotWay q_NotWay : Str} {bs_NotWay sub_NotWay : List Value} {sn_NotWay : List Str} {ab_NotWay : Bool} {col_NotWay : Option Bool} {dd_NotWay : Option Addr} {k0_NotWay k1_NotWay k2_NotWay k3_NotWay k5_NotWay : Option Value}
    {oc_NotWay kV_NotWay doc_NotWay pm_NotWay cdv_NotWay ct_NotWay : Value} {od_NotWay an_NotWay : Option Addr} {osl_NotWay : Array (Option Value)}
    (xL_NotWay : K.lookup C_NotWay = some (excClassObj nm_NotWay q_NotWay C_NotWay N_NotWay bs_NotWay tl_ValueError true sn_NotWay sub_NotWay ab_NotWay col_NotWay dd_NotWay k0_NotWay k1_NotWay k2_NotWay k3_NotWay k5_NotWay "ValueError.__new__"))
    (sa_NotWay : PySem.W.findIn K (.ref C_NotWay) "__setattr__" = some (some (.builtin "object.__setattr__"))) (ex_NotWay : PySem.W.subIn K (.ref C_NotWay) (.type "BaseException") = some true) (ty_NotWay : PySem.W.typeIn K (.ref C_NotWay) = some (.type "type")) (kp_NotWay : PySem.W.keepIn K (.ref C_NotWay) = true)
    (no_NotWay : PySem.W.findIn K (.ref C_NotWay) "calls" = some none) (iC_NotWay : PySem.W.findIn K (.ref C_NotWay) "__init__" = some (some (.ref f_iNotWay))) (ti_NotWay : PySem.W.typeIn K (.ref f_iNotWay) = some (.type "function"))
    (li_NotWay : K.lookup f_iNotWay = some ⟨oc_NotWay, od_NotWay, .func (PySem.W.fnOf "__init__" "NotWay.__init__" (defArgs si_NotWay) (defBody si_NotWay) (defScope si_NotWay) .none kV_NotWay doc_NotWay pm_NotWay an_NotWay cdv_NotWay ct_NotWay), osl_NotWay⟩) (ci_NotWay : PySem.W.codeIn K cdv_NotWay "NotWay.__init__" = true) (ki_NotWay : PySem.W.keepIn K (.ref f_iNotWay) = true)
    {f_iOtherPeople N_OtherPeople : Addr} {nm_OtherPeople q_OtherPeople : Str} {bs_OtherPeople sub_OtherPeople : List Value} {sn_OtherPeople : List Str} {ab_OtherPeople : Bool} {col_OtherPeople : Option Bool} {dd_OtherPeople : Option Addr} {k0_OtherPeople k1_OtherPeople k2_OtherPeople k3_OtherPeople k5_OtherPeople : Option Value}
    {oc_OtherPeople kV_OtherPeople doc_OtherPeople pm_OtherPeople cdv_OtherPeople ct_OtherPeople : Value} {od_OtherPeople an_OtherPeople : Option Addr} {osl_OtherPeople : Array (Option Value)}
    (xL_OtherPeople : K.lookup C_OtherPeople = some (excClassObj nm_OtherPeople q_OtherPeople C_OtherPeople N_OtherPeople bs_OtherPeople tl_ValueError true sn_OtherPeople sub_OtherPeople ab_OtherPeople col_OtherPeople dd_OtherPeople k0_OtherPeople k1_OtherPeople k2_OtherPeople k3_OtherPeople k5_OtherPeople "ValueError.__new__"))
    (sa_OtherPeople : PySem.W.findIn K (.ref C_OtherPeople) "__setattr__" = some (some (.builtin "object.__setattr__"))) (ex_OtherPeople : PySem.W.subIn K (.ref C_OtherPeople) (.type "BaseException") = some true) (ty_OtherPeople : PySem.W.typeIn K (.ref C_OtherPeople) = some (.type "type")) (kp_OtherPeople : PySem.W.keepIn K (.ref C_OtherPeople) = true)
    (no_OtherPeople : PySem.W.findIn K (.ref C_OtherPeople) "many" = some none) (iC_OtherPeople : PySem.W.findIn K (.ref C_OtherPeople) "__init__" = some (some (.ref f_iOtherPeople))) (ti_OtherPeople : PySem.W.typeIn K (.ref f_iOtherPeople) = some (.type "function"))
    (li_OtherPeople : K.lookup f_iOtherPeople = some ⟨oc_OtherPeople, od_OtherPeople, .func (PySem.W.fnOf "__init__" "OtherPeople.__init__" (defArgs si_OtherPeople) (defBody si_OtherPeople) (defScope si_OtherPeople) .none kV_OtherPeople doc_OtherPeople pm_OtherPeople an_OtherPeople cdv_OtherPeople ct_OtherPeople), osl_OtherPeople⟩) (ci_OtherPeople : PySem.W.codeIn K cdv_OtherPeople "OtherPeople.__init__" = true) (ki_OtherPeople : PySem.W.keepIn K (.ref f_iOtherPeople) = true)
    {f_iNoDeed N_NoDeed : Addr} {nm_NoDeed q_NoDeed : Str} {bs_NoDeed sub_NoDeed : List Value} {sn_NoDeed : List Str} {ab_NoDeed : Bool} {col_NoDeed : Option Bool} {dd_NoDeed : Option Addr} {k0_NoDeed k1_NoDeed k2_NoDeed k3_NoDeed k5_NoDeed : Option Value}
    {oc_NoDeed kV_NoDeed doc_NoDeed pm_NoDeed cdv_NoDeed ct_NoDeed : Value} {od_NoDeed an_NoDeed : Option Addr} {osl_NoDeed : Array (Option Value)}
    (xL_NoDeed : K.lookup C_NoDeed = some (excClassObj nm_NoDeed q_NoDeed C_NoDeed N_NoDeed bs_NoDeed tl_LookupError true sn_NoDeed sub_NoDeed ab_NoDeed col_NoDeed dd_NoDeed k0_NoDeed k1_NoDeed k2_NoDeed k3_NoDeed k5_NoDeed "LookupError.__new__"))
    (sa_NoDeed : PySem.W.findIn K (.ref C_NoDeed) "__setattr__" = some (some (.builtin "object.__setattr__"))) (ex_NoDeed : PySem.W.subIn K (.ref C_NoDeed) (.type "BaseException") = some true) (ty_NoDeed : PySem.W.typeIn K (.ref C_NoDeed) = some (.type "type")) (kp_NoDeed : PySem.W.keepIn K (.ref C_NoDeed) = true)
    (no_NoDeed : PySem.W.findIn K (.ref C_NoDeed) "many" = some none) (iC_NoDeed : PySem.W.findIn K (.ref C_NoDeed) "__init__" = some (some (.ref f_iNoDeed))) (ti_NoDeed : PySem.W.typeIn K (.ref f_iNoDeed) = some (.type "function"))
    (li_NoDeed : K.lookup f_iNoDeed = some ⟨oc_NoDeed, od_NoDeed, .func (PySem.W.fnOf "__init__" "NoDeed.__init__" (defArgs si_NoDeed) (defBody si_NoDeed) (defScope si_NoDeed) .none kV_NoDeed doc_NoDeed pm_NoDeed an_NoDeed cdv_NoDeed ct_NoDeed), osl_NoDeed⟩) (ci_NoDeed : PySem.W.codeIn K cdv_NoDeed "NoDeed.__init__" = true) (ki_NoDeed : PySem.W.keepIn K (.ref f_iNoDeed) = true)
    {f_iNoNumber N_NoNumber : Addr} {nm_NoNumber q_NoNumber : Str} {bs_NoNumber sub_NoNumber : List Value} {sn_NoNumber : List Str} {ab_NoNumber : Bool} {col_NoNumber : Option Bool} {dd_NoNumber : Option Addr} {k0_NoNumber k1_NoNumber k2_NoNumber k3_NoNumber k5_NoNumber : Option Value}
    {oc_NoNumber kV_NoNumber doc_NoNumber pm_NoNumber cdv_NoNumber ct_NoNumber : Value} {od_NoNumber an_NoNumber : Option Addr} {osl_NoNumber : Array (Option Value)}
    (xL_NoNumber : K.lookup C_NoNumber = some (excClassObj nm_NoNumber q_NoNumber C_NoNumber N_NoNumber bs_NoNumber tl_LookupError true sn_NoNumber sub_NoNumber ab_NoNumber col_NoNumber dd_NoNumber k0_NoNumber k1_NoNumber k2_NoNumber k3_NoNumber k5_NoNumber "LookupError.__new__"))
    (sa_NoNumber : PySem.W.findIn K (.ref C_NoNumber) "__setattr__" = some (some (.builtin "object.__setattr__"))) (ex_NoNumber : PySem.W.subIn K (.ref C_NoNumber) (.type "BaseException") = some true) (ty_NoNumber : PySem.W.typeIn K (.ref C_NoNumber) = some (.type "type")) (kp_NoNumber : PySem.W.keepIn K (.ref C_NoNumber) = true)
    (no_NoNumber : PySem.W.findIn K (.ref C_NoNumber) "number" = some none) (iC_NoNumber : PySem.W.findIn K (.ref C_NoNumber) "__init__" = some (some (.ref f_iNoNumber))) (ti_NoNumber : PySem.W.typeIn K (.ref f_iNoNumber) = some (.type "function"))
    (li_NoNumber : K.lookup f_iNoNumber = some ⟨oc_NoNumber, od_NoNumber, .func (PySem.W.fnOf "__init__" "NoNumber.__init__" (defArgs si_NoNumber) (defBody si_NoNumber) (defScope si_NoNumber) .none kV_NoNumber doc_NoNumber pm_NoNumber an_NoNumber cdv_NoNumber ct_NoNumber), osl_NoNumber⟩) (ci_NoNumber : PySem.W.codeIn K cdv_NoNumber "NoNumber.__init__" = true) (ki_NoNumber : PySem.W.keepIn K (.ref f_iNoNumber) = true)
    {f_iNoPlace N_NoPlace : Addr} {nm_NoPlace q_NoPlace : Str} {bs_NoPlace sub_NoPlace : List Value} {sn_NoPlace : List Str} {ab_NoPlace : Bool} {col_NoPlace : Option Bool} {dd_NoPlace : Option Addr} {k0_NoPlace k1_NoPlace k2_NoPlace k3_NoPlace k5_NoPlace : Option Value}
    {oc_NoPlace kV_NoPlace doc_NoPlace pm_NoPlace cdv_NoPlace ct_NoPlace : Value} {od_NoPlace an_NoPlace : Option Addr} {osl_NoPlace : Array (Option Value)}
    (xL_NoPlace : K.lookup C_NoPlace = some (excClassObj nm_NoPlace q_NoPlace C_NoPlace N_NoPlace bs_NoPlace tl_LookupError true sn_NoPlace sub_NoPlace ab_NoPlace col_NoPlace dd_NoPlace k0_NoPlace k1_NoPlace k2_NoPlace k3_NoPlace k5_NoPlace "LookupError.__new__"))
    (sa_NoPlace : PySem.W.findIn K (.ref C_NoPlace) "__setattr__" = some (some (.builtin "object.__setattr__"))) (ex_NoPlace : PySem.W.subIn K (.ref C_NoPlace) (.type "BaseException") = some true) (ty_NoPlace : PySem.W.typeIn K (.ref C_NoPlace) = some (.type "type")) (kp_NoPlace : PySem.W.keepIn K (.ref C_NoPlace) = true)
    (no_NoPlace : PySem.W.findIn K (.ref C_NoPlace) "place" = some none) (iC_NoPlace : PySem.W.findIn K (.ref C_NoPlace) "__init__" = some (some (.ref f_iNoPlace))) (ti_NoPlace : PySem.W.typeIn K (.ref f_iNoPlace) = some (.type "function"))
    (li_NoPlace : K.lookup f_iNoPlace = some ⟨oc_NoPlace, od_NoPlace, .func (PySem.W.fnOf "__init__" "NoPlace.__init__" (defArgs si_NoPlace) (defBody si_NoPlace) (defScope si_NoPlace) .none kV_NoPlace doc_NoPlace pm_NoPlace an_NoPlace cdv_NoPlace ct_NoPlace), osl_NoPlace⟩) (ci_NoPlace : PySem.W.codeIn K cdv_NoPlace "NoPlace.__init__" = true) (ki_NoPlace : PySem.W.keepIn K (.ref f_iNoPlace) = true)
    {f_iNoPerson N_NoPerson : Addr} {nm_NoPerson q_NoPerson : Str} {bs_NoPerson sub_NoPerson : List Value} {sn_NoPerson : List Str} {ab_NoPerson : Bool} {col_NoPerson : Option Bool} {dd_NoPerson : Option Addr} {k0_NoPerson k1_NoPerson k2_NoPerson k3_NoPerson k5_NoPerson : Option Value}
    {oc_NoPerson kV_NoPerson doc_NoPerson pm_NoPerson cdv_NoPerson ct_NoPerson : Value} {od_NoPerson an_NoPerson : Option Addr} {osl_NoPerson : Array (Option Value)}
    (xL_NoPerson : K.lookup C_NoPerson = some (excClassObj nm_NoPerson q_NoPerson C_NoPerson N_NoPerson bs_NoPerson tl_LookupError true sn_NoPerson sub_NoPerson ab_NoPerson col_NoPerson dd_NoPerson k0_NoPerson k1_NoPerson k2_NoPerson k3_NoPerson k5_NoPerson "LookupError.__new__"))
    (sa_NoPerson : PySem.W.findIn K (.ref C_NoPerson) "__setattr__" = some (some (.builtin "object.__setattr__"))) (ex_NoPerson : PySem.W.subIn K (.ref C_NoPerson) (.type "BaseException") = some true) (ty_NoPerson : PySem.W.typeIn K (.ref C_NoPerson) = some (.type "type")) (kp_NoPerson : PySem.W.keepIn K (.ref C_NoPerson) = true)
    (no_NoPerson : PySem.W.findIn K (.ref C_NoPerson) "person" = some none) (iC_NoPerson : PySem.W.findIn K (.ref C_NoPerson) "__init__" = some (some (.ref f_iNoPerson))) (ti_NoPerson : PySem.W.typeIn K (.ref f_iNoPerson) = some (.type "function"))
    (li_NoPerson : K.lookup f_iNoPerson = some ⟨oc_NoPerson, od_NoPerson, .func (PySem.W.fnOf "__init__" "NoPerson.__init__" (defArgs si_NoPerson) (defBody si_NoPerson) (defScope si_NoPerson) .none kV_NoPerson doc_NoPerson pm_NoPerson an_NoPerson cdv_NoPerson ct_NoPerson), osl_NoPerson⟩) (ci_NoPerson : PySem.W.codeIn K cdv_NoPerson "NoPerson.__init__" = true) (ki_NoPerson : PySem.W.keepIn K (.ref f_iNoPerson) = true)
    {f_iBadLine N_BadLine : Addr} {nm_BadLine q_BadLine : Str} {bs_BadLine sub_BadLine : List Value} {sn_BadLine : List Str} {ab_BadLine : Bool} {col_BadLine : Option Bool} {dd_BadLine : Option Addr} {k0_BadLine k1_BadLine k2_BadLine k3_BadLine k5_BadLine : Option Value}
    {oc_BadLine kV_BadLine doc_BadLine pm_BadLine cdv_BadLine ct_BadLine : Value} {od_BadLine an_BadLine : Option Addr} {osl_BadLine : Array (Option Value)}
    (xL_BadLine : K.lookup C_BadLine = some (excClassObj nm_BadLine q_BadLine C_BadLine N_BadLine bs_BadLine tl_ValueError true sn_BadLine sub_BadLine ab_BadLine col_BadLine dd_BadLine k0_BadLine k1_BadLine k2_BadLine k3_BadLine k5_BadLine "ValueError.__new__"))
    (sa_BadLine : PySem.W.findIn K (.ref C_BadLine) "__setattr__" = some (some (.builtin "object.__setattr__"))) (ex_BadLine : PySem.W.subIn K (.ref C_BadLine) (.type "BaseException") = some true) (ty_BadLine : PySem.W.typeIn K (.ref C_BadLine) = some (.type "type")) (kp_BadLine : PySem.W.keepIn K (.ref C_BadLine) = true)
    (no_BadLine : PySem.W.findIn K (.ref C_BadLine) "at" = some none) (iC_BadLine : PySem.W.findIn K (.ref C_BadLine) "__init__" = some (some (.ref f_iBadLine))) (ti_BadLine : PySem.W.typeIn K (.ref f_iBadLine) = some (.type "function"))
    (li_BadLine : K.lookup f_iBadLine = some ⟨oc_BadLine, od_BadLine, .func (PySem.W.fnOf "__init__" "BadLine.__init__" (defArgs si_BadLine) (defBody si_BadLine) (defScope si_BadLine) .none kV_BadLine doc_BadLine pm_BadLine an_BadLine cdv_BadLine ct_BadLine), osl_BadLine⟩) (ci_BadLine : PySem.W.codeIn K cdv_BadLine "BadLine.__init__" = true) (ki_BadLine : PySem.W.keepIn K (.ref f_iBadLine) = true)
    {f_iBadText N_BadText : Addr} {nm_BadText q_BadText : Str} {bs_BadText sub_BadText : List Value} {sn_BadText : List Str} {ab_BadText : Bool} {col_BadText : Option Bool} {dd_BadText : Option Addr} {k0_BadText k1_BadText k2_BadText k3_BadText k5_BadText : Option Value}
    {oc_BadText kV_BadText doc_BadText pm_BadText cdv_BadText ct_BadText : Value} {od_BadText an_BadText : Option Addr} {osl_BadText : Array (Option Value)}
    (xL_BadText : K.lookup C_BadText = some (excClassObj nm_BadText q_BadText C_BadText N_BadText bs_BadText tl_ValueError true sn_BadText sub_BadText ab_BadText col_BadText dd_BadText k0_BadText k1_BadText k2_BadText k3_BadText k5_BadText "ValueError.__new__"))
    (sa_BadText : PySem.W.findIn K (.ref C_BadText) "__setattr__" = some (some (.builtin "object.__setattr__"))) (ex_BadText : PySem.W.subIn K (.ref C_BadText) (.type "BaseException") = some true) (ty_BadText : PySem.W.typeIn K (.ref C_BadText) = some (.type "type")) (kp_BadText : PySem.W.keepIn K (.ref C_BadText) = true)
    (no_BadText : PySem.W.findIn K (.ref C_BadText) "text" = some none) (iC_BadText : PySem.W.findIn K (.ref C_BadText) "__init__" = some (some (.ref f_iBadText))) (ti_BadText : PySem.W.typeIn K (.ref f_iBadText) = some (.type "function"))
    (li_BadText : K.lookup f_iBadText = some ⟨oc_BadText, od_BadText, .func (PySem.W.fnOf "__init__" "BadText.__init__" (defArgs si_BadText) (defBody si_BadText) (defScope si_BadText) .none kV_BadText doc_BadText pm_BadText an_BadText cdv_BadText ct_BadText), osl_BadText⟩) (ci_BadText : PySem.W.codeIn K cdv_BadText "BadText.__init__" = true) (ki_BadText : PySem.W.keepIn K (.ref f_iBadText) = true)
    {f_iBadDeed N_BadDeed : Addr} {nm_BadDeed q_BadDeed : Str} {bs_BadDeed sub_BadDeed : List Value} {sn_BadDeed : List Str} {ab_BadDeed : Bool} {col_BadDeed : Option Bool} {dd_BadDeed : Option Addr} {k0_BadDeed k1_BadDeed k2_BadDeed k3_BadDeed k5_BadDeed : Option Value}
    {oc_BadDeed kV_BadDeed doc_BadDeed pm_BadDeed cdv_BadDeed ct_BadDeed : Value} {od_BadDeed an_BadDeed : Option Addr} {osl_BadDeed : Array (Option Value)}
    (xL_BadDeed : K.lookup C_BadDeed = some (excClassObj nm_BadDeed q_BadDeed C_BadDeed N_BadDeed bs_BadDeed tl_ValueError true sn_BadDeed sub_BadDeed ab_BadDeed col_BadDeed dd_BadDeed k0_BadDeed k1_BadDeed k2_BadDeed k3_BadDeed k5_BadDeed "ValueError.__new__"))
    (sa_BadDeed : PySem.W.findIn K (.ref C_BadDeed) "__setattr__" = some (some (.builtin "object.__setattr__"))) (ex_BadDeed : PySem.W.subIn K (.ref C_BadDeed) (.type "BaseException") = some true) (ty_BadDeed : PySem.W.typeIn K (.ref C_BadDeed) = some (.type "type")) (kp_BadDeed : PySem.W.keepIn K (.ref C_BadDeed) = true)
    (no_BadDeed : PySem.W.findIn K (.ref C_BadDeed) "at" = some none) (iC_BadDeed : PySem.W.findIn K (.ref C_BadDeed) "__init__" = some (some (.ref f_iBadDeed))) (ti_BadDeed : PySem.W.typeIn K (.ref f_iBadDeed) = some (.type "function"))
    (li_BadDeed : K.lookup f_iBadDeed = some ⟨oc_BadDeed, od_BadDeed, .func (PySem.W.fnOf "__init__" "BadDeed.__init__" (defArgs si_BadDeed) (defBody si_BadDeed) (defScope si_BadDeed) .none kV_BadDeed doc_BadDeed pm_BadDeed an_BadDeed cdv_BadDeed ct_BadDeed), osl_BadDeed⟩) (ci_BadDeed : PySem.W.codeIn K cdv_BadDeed "BadDeed.__init__" = true) (ki_BadDeed : PySem.W.keepIn K (.ref f_iBadDeed) = true)
    {f_iFull N_Full : Addr} {nm_Full q_Full : Str} {bs_Full sub_Full : List Value} {sn_Full : List Str} {ab_Full : Bool} {col_Full : Option Bool} {dd_Full : Option Addr} {k0_Full k1_Full k2_Full k3_Full k5_Full : Option Value}
    {oc_Full kV_Full doc_Full pm_Full cdv_Full ct_Full : Value} {od_Full an_Full : Option Addr} {osl_Full : Array (Option Value)}
    (xL_Full : K.lookup C_Full = some (excClassObj nm_Full q_Full C_Full N_Full bs_Full tl_OverflowError true sn_Full sub_Full ab_Full col_Full dd_Full k0_Full k1_Full k2_Full k3_Full k5_Full "OverflowError.__new__"))
    (sa_Full : PySem.W.findIn K (.ref C_Full) "__setattr__" = some (some (.builtin "object.__setattr__"))) (ex_Full : PySem.W.subIn K (.ref C_Full) (.type "BaseException") = some true) (ty_Full : PySem.W.typeIn K (.ref C_Full) = some (.type "type")) (kp_Full : PySem.W.keepIn K (.ref C_Full) = true)
    (no_Full : PySem.W.findIn K (.ref C_Full) "many" = some none) (iC_Full : PySem.W.findIn K (.ref C_Full) "__init__" = some (some (.ref f_iFull))) (ti_Full : PySem.W.typeIn K (.ref f_iFull) = some (.type "function"))
    (li_Full : K.lookup f_iFull = some ⟨oc_Full, od_Full, .func (PySem.W.fnOf "__init__" "Full.__init__" (defArgs si_Full) (defBody si_Full) (defScope si_Full) .none kV_Full doc_Full pm_Full an_Full cdv_Full ct_Full), osl_Full⟩) (ci_Full : PySem.W.codeIn K cdv_Full "Full.__init__" = true) (ki_Full : PySem.W.keepIn K (.ref f_iFull) = true)
    {f_iTooMany N_TooMany : Addr} {nm_TooMany q_TooMany : Str} {bs_TooMany sub_TooMany : List Value} {sn_TooMany : List Str} {ab_TooMany : Bool} {col_TooMany : Option Bool} {dd_TooMany : Option Addr} {k0_TooMany k1_TooMany k2_TooMany k3_TooMany k5_TooMany : Option Value}
    {oc_TooMany kV_TooMany doc_TooMany pm_TooMany cdv_TooMany ct_TooMany : Value} {od_TooMany an_TooMany : Option Addr} {osl_TooMany : Array (Option Value)}
    (xL_TooMany : K.lookup C_TooMany = some (excClassObj nm_TooMany q_TooMany C_TooMany N_TooMany bs_TooMany tl_OverflowError true sn_TooMany sub_TooMany ab_TooMany col_TooMany dd_TooMany k0_TooMany k1_TooMany k2_TooMany k3_TooMany k5_TooMany "OverflowError.__new__"))
    (sa_TooMany : PySem.W.findIn K (.ref C_TooMany) "__setattr__" = some (some (.builtin "object.__setattr__"))) (ex_TooMany : PySem.W.subIn K (.ref C_TooMany) (.type "BaseException") = some true) (ty_TooMany : PySem.W.typeIn K (.ref C_TooMany) = some (.type "type")) (kp_TooMany : PySem.W.keepIn K (.ref C_TooMany) = true)
    (no_TooMany : PySem.W.findIn K (.ref C_TooMany) "many" = some none) (iC_TooMany : PySem.W.findIn K (.ref C_TooMany) "__init__" = some (some (.ref f_iTooMany))) (ti_TooMany : PySem.W.typeIn K (.ref f_iTooMany) = some (.type "function"))
    (li_TooMany : K.lookup f_iTooMany = some ⟨oc_TooMany, od_TooMany, .func (PySem.W.fnOf "__init__" "TooMany.__init__" (defArgs si_TooMany) (defBody si_TooMany) (defScope si_TooMany) .none kV_TooMany doc_TooMany pm_TooMany an_TooMany cdv_TooMany ct_TooMany), osl_TooMany⟩) (ci_TooMany : PySem.W.codeIn K cdv_TooMany "TooMany.__init__" = true) (ki_TooMany : PySem.W.keepIn K (.ref f_iTooMany) = true)
    {f_iBarred N_Barred : Addr} {nm_Barred q_Barred : Str} {bs_Barred sub_Barred : List Value} {sn_Barred : List Str} {ab_Barred : Bool} {col_Barred : Option Bool} {dd_Barred : Option Addr} {k0_Barred k1_Barred k2_Barred k3_Barred k5_Barred : Option Value}
    {oc_Barred kV_Barred doc_Barred pm_Barred cdv_Barred ct_Barred : Value} {od_Barred an_Barred : Option Addr} {osl_Barred : Array (Option Value)}
    (xL_Barred : K.lookup C_Barred = some (excClassObj nm_Barred q_Barred C_Barred N_Barred bs_Barred tl_RuntimeError true sn_Barred sub_Barred ab_Barred col_Barred dd_Barred k0_Barred k1_Barred k2_Barred k3_Barred k5_Barred "RuntimeError.__new__"))
    (sa_Barred : PySem.W.findIn K (.ref C_Barred) "__setattr__" = some (some (.builtin "object.__setattr__"))) (ex_Barred : PySem.W.subIn K (.ref C_Barred) (.type "BaseException") = some true) (ty_Barred : PySem.W.typeIn K (.ref C_Barred) = some (.type "type")) (kp_Barred : PySem.W.keepIn K (.ref C_Barred) = true)
    (no_Barred : PySem.W.findIn K (.ref C_Barred) "reason" = some none) (iC_Barred : PySem.W.findIn K (.ref C_Barred) "__init__" = some (some (.ref f_iBarred))) (ti_Barred : PySem.W.typeIn K (.ref f_iBarred) = some (.type "function"))
    (li_Barred : K.lookup f_iBarred = some ⟨oc_Barred, od_Barred, .func (PySem.W.fnOf "__init__" "Barred.__init__" (defArgs si_Barred) (defBody si_Barred) (defScope si_Barred) .none kV_Barred doc_Barred pm_Barred an_Barred cdv_Barred ct_Barred), osl_Barred⟩) (ci_Barred : PySem.W.codeIn K cdv_Barred "Barred.__init__" = true) (ki_Barred : PySem.W.keepIn K (.ref f_iBarred) = true)
    (vB_ValueError : PySem.W.findCls K (.type "ValueError") (.type "type") "__init__" = some (.val (.builtin "ValueError.__init__")))
    (vB_LookupError : PySem.W.findCls K (.type "LookupError") (.type "type") "__init__" = some (.val (.builtin "LookupError.__init__")))
    (vB_OverflowError : PySem.W.findCls K (.type "OverflowError") (.type "type") "__init__" = some (.val (.builtin "OverflowError.__init__")))
    (vB_RuntimeError : PySem.W.findCls K (.type "RuntimeError") (.type "type") "__init__" = some (.val (.builtin "RuntimeError.__init__")))
    (et : etB K CsL UsL = true) :
    ∃ fd : FuncData, (∀ (s : Shared) (v : Value), BindsTo s fd ⟨[v], []⟩ [("_law_script", v)]) ∧ ∀ base : Heap, K.In base → base.Ns mainGlobals mg → FnOk l.prog w K mg base CX0 8 fa fd ["_law_script"] (spP K 1 F_law) := by
  obtain ⟨f__law_bases, d__law_bases, a__law_bases, F__law_bases⟩ := f__law_bases
  obtain ⟨f__law_kinds, d__law_kinds, a__law_kinds, F__law_kinds⟩ := f__law_kinds
  obtain ⟨f__law_all_right, d__law_all_right, a__law_all_right, F__law_all_right⟩ := f__law_all_right
  obtain ⟨f__law_same, d__law_same, a__law_same, F__law_same⟩ := f__law_same
  obtain ⟨f__law_right, d__law_right, a__law_right, F__law_right⟩ := f__law_right
  obtain ⟨f_law, d_law, a_law, F_law⟩ := f_law
  have e := hfa.symm.trans (PySem.W.mg_of X G a_law)
  cases e
  let T : Tx K mg := {
    a__law_bases := f__law_bases, d__law_bases := d__law_bases, F__law_bases := F__law_bases, m__law_bases := PySem.W.mg_of X G a__law_bases, b__law_bases := (F__law_bases.binds fun _ _ _ _ _ _ us hl => match us, hl with | [_], _ => rfl),
    a__law_kinds := f__law_kinds, d__law_kinds := d__law_kinds, F__law_kinds := F__law_kinds, m__law_kinds := PySem.W.mg_of X G a__law_kinds, b__law_kinds := (F__law_kinds.binds fun _ _ _ _ _ _ us hl => match us, hl with | [_], _ => rfl),
    a__law_all_right := f__law_all_right, d__law_all_right := d__law_all_right, F__law_all_right := F__law_all_right, m__law_all_right := PySem.W.mg_of X G a__law_all_right, b__law_all_right := (F__law_all_right.binds fun _ _ _ _ _ _ us hl => match us, hl with | [_, _], _ => rfl),
    a__law_same := f__law_same, d__law_same := d__law_same, F__law_same := F__law_same, m__law_same := PySem.W.mg_of X G a__law_same, b__law_same := (F__law_same.binds fun _ _ _ _ _ _ us hl => match us, hl with | [_, _], _ => rfl),
    a__law_right := f__law_right, d__law_right := d__law_right, F__law_right := F__law_right, m__law_right := PySem.W.mg_of X G a__law_right, b__law_right := (F__law_right.binds fun _ _ _ _ _ _ us hl => match us, hl with | [_], _ => rfl),
    a_law := fa, d_law := d_law, F_law := F_law, m_law := PySem.W.mg_of X G a_law, b_law := (F_law.binds fun _ _ _ _ _ _ us hl => match us, hl with | [_], _ => rfl),
    n_isinstance := PySem.W.mg_none_of X G z_isinstance,
    n_ValueError := PySem.W.mg_none_of X G z_ValueError,
    n_LookupError := PySem.W.mg_none_of X G z_LookupError,
    n_OverflowError := PySem.W.mg_none_of X G z_OverflowError,
    n_RuntimeError := PySem.W.mg_none_of X G z_RuntimeError,
    n_enumerate := PySem.W.mg_none_of X G z_enumerate,
    n_range := PySem.W.mg_none_of X G z_range,
    n_KeyError := PySem.W.mg_none_of X G z_KeyError,
    n_IndexError := PySem.W.mg_none_of X G z_IndexError,
    n_NotImplementedError := PySem.W.mg_none_of X G z_NotImplementedError,
    n_tuple := PySem.W.mg_none_of X G z_tuple,
    n_list := PySem.W.mg_none_of X G z_list,
    n_len := PySem.W.mg_none_of X G z_len,
    n_zip := PySem.W.mg_none_of X G z_zip,
    n_all := PySem.W.mg_none_of X G z_all,
    n_str := PySem.W.mg_none_of X G z_str,
    n_bool := PySem.W.mg_none_of X G z_bool,
    n_int := PySem.W.mg_none_of X G z_int,
    n_abs := PySem.W.mg_none_of X G z_abs,
    c_NoNumber := C_NoNumber, cc_NoNumber := aC_NoNumber, m_NoNumber := PySem.W.mg_of X G aC_NoNumber,
    c_NoPlace := C_NoPlace, cc_NoPlace := aC_NoPlace, m_NoPlace := PySem.W.mg_of X G aC_NoPlace,
    c_NoPerson := C_NoPerson, cc_NoPerson := aC_NoPerson, m_NoPerson := PySem.W.mg_of X G aC_NoPerson,
    c_NotWay := C_NotWay, cc_NotWay := aC_NotWay, m_NotWay := PySem.W.mg_of X G aC_NotWay,
    c_OtherPeople := C_OtherPeople, cc_OtherPeople := aC_OtherPeople, m_OtherPeople := PySem.W.mg_of X G aC_OtherPeople,
    c_NoDeed := C_NoDeed, cc_NoDeed := aC_NoDeed, m_NoDeed := PySem.W.mg_of X G aC_NoDeed,
    c_BadLine := C_BadLine, cc_BadLine := aC_BadLine, m_BadLine := PySem.W.mg_of X G aC_BadLine,
    c_BadText := C_BadText, cc_BadText := aC_BadText, m_BadText := PySem.W.mg_of X G aC_BadText,
    c_BadDeed := C_BadDeed, cc_BadDeed := aC_BadDeed, m_BadDeed := PySem.W.mg_of X G aC_BadDeed,
    c_Full := C_Full, cc_Full := aC_Full, m_Full := PySem.W.mg_of X G aC_Full,
    c_TooMany := C_TooMany, cc_TooMany := aC_TooMany, m_TooMany := PySem.W.mg_of X G aC_TooMany,
    c_Barred := C_Barred, cc_Barred := aC_Barred, m_Barred := PySem.W.mg_of X G aC_Barred,
    oc_NotWay := ⟨⟨_, _, _, _, _, _, _, _, _, _, _, _, _, _, xL_NotWay⟩, sa_NotWay, ex_NotWay, ty_NotWay, kp_NotWay⟩, no_NotWay := no_NotWay, fi_NotWay := f_iNotWay, fd_NotWay := _, Fi_NotWay := fun_mk (st := si_NotWay) li_NotWay ci_NotWay ki_NotWay, iC_NotWay := iC_NotWay, ti_NotWay := ti_NotWay, bi_NotWay := ((fun_mk (st := si_NotWay) li_NotWay ci_NotWay ki_NotWay).binds fun _ _ _ _ _ _ us hl => match us, hl with | [_, _], _ => rfl),
    oc_OtherPeople := ⟨⟨_, _, _, _, _, _, _, _, _, _, _, _, _, _, xL_OtherPeople⟩, sa_OtherPeople, ex_OtherPeople, ty_OtherPeople, kp_OtherPeople⟩, no_OtherPeople := no_OtherPeople, fi_OtherPeople := f_iOtherPeople, fd_OtherPeople := _, Fi_OtherPeople := fun_mk (st := si_OtherPeople) li_OtherPeople ci_OtherPeople ki_OtherPeople, iC_OtherPeople := iC_OtherPeople, ti_OtherPeople := ti_OtherPeople, bi_OtherPeople := ((fun_mk (st := si_OtherPeople) li_OtherPeople ci_OtherPeople ki_OtherPeople).binds fun _ _ _ _ _ _ us hl => match us, hl with | [_, _], _ => rfl),
    oc_NoDeed := ⟨⟨_, _, _, _, _, _, _, _, _, _, _, _, _, _, xL_NoDeed⟩, sa_NoDeed, ex_NoDeed, ty_NoDeed, kp_NoDeed⟩, no_NoDeed := no_NoDeed, fi_NoDeed := f_iNoDeed, fd_NoDeed := _, Fi_NoDeed := fun_mk (st := si_NoDeed) li_NoDeed ci_NoDeed ki_NoDeed, iC_NoDeed := iC_NoDeed, ti_NoDeed := ti_NoDeed, bi_NoDeed := ((fun_mk (st := si_NoDeed) li_NoDeed ci_NoDeed ki_NoDeed).binds fun _ _ _ _ _ _ us hl => match us, hl with | [_, _], _ => rfl),
    oc_NoNumber := ⟨⟨_, _, _, _, _, _, _, _, _, _, _, _, _, _, xL_NoNumber⟩, sa_NoNumber, ex_NoNumber, ty_NoNumber, kp_NoNumber⟩, no_NoNumber := no_NoNumber, fi_NoNumber := f_iNoNumber, fd_NoNumber := _, Fi_NoNumber := fun_mk (st := si_NoNumber) li_NoNumber ci_NoNumber ki_NoNumber, iC_NoNumber := iC_NoNumber, ti_NoNumber := ti_NoNumber, bi_NoNumber := ((fun_mk (st := si_NoNumber) li_NoNumber ci_NoNumber ki_NoNumber).binds fun _ _ _ _ _ _ us hl => match us, hl with | [_, _], _ => rfl),
    oc_NoPlace := ⟨⟨_, _, _, _, _, _, _, _, _, _, _, _, _, _, xL_NoPlace⟩, sa_NoPlace, ex_NoPlace, ty_NoPlace, kp_NoPlace⟩, no_NoPlace := no_NoPlace, fi_NoPlace := f_iNoPlace, fd_NoPlace := _, Fi_NoPlace := fun_mk (st := si_NoPlace) li_NoPlace ci_NoPlace ki_NoPlace, iC_NoPlace := iC_NoPlace, ti_NoPlace := ti_NoPlace, bi_NoPlace := ((fun_mk (st := si_NoPlace) li_NoPlace ci_NoPlace ki_NoPlace).binds fun _ _ _ _ _ _ us hl => match us, hl with | [_, _], _ => rfl),
    oc_NoPerson := ⟨⟨_, _, _, _, _, _, _, _, _, _, _, _, _, _, xL_NoPerson⟩, sa_NoPerson, ex_NoPerson, ty_NoPerson, kp_NoPerson⟩, no_NoPerson := no_NoPerson, fi_NoPerson := f_iNoPerson, fd_NoPerson := _, Fi_NoPerson := fun_mk (st := si_NoPerson) li_NoPerson ci_NoPerson ki_NoPerson, iC_NoPerson := iC_NoPerson, ti_NoPerson := ti_NoPerson, bi_NoPerson := ((fun_mk (st := si_NoPerson) li_NoPerson ci_NoPerson ki_NoPerson).binds fun _ _ _ _ _ _ us hl => match us, hl with | [_, _], _ => rfl),
    oc_BadLine := ⟨⟨_, _, _, _, _, _, _, _, _, _, _, _, _, _, xL_BadLine⟩, sa_BadLine, ex_BadLine, ty_BadLine, kp_BadLine⟩, no_BadLine := no_BadLine, fi_BadLine := f_iBadLine, fd_BadLine := _, Fi_BadLine := fun_mk (st := si_BadLine) li_BadLine ci_BadLine ki_BadLine, iC_BadLine := iC_BadLine, ti_BadLine := ti_BadLine, bi_BadLine := ((fun_mk (st := si_BadLine) li_BadLine ci_BadLine ki_BadLine).binds fun _ _ _ _ _ _ us hl => match us, hl with | [_, _], _ => rfl),
    oc_BadText := ⟨⟨_, _, _, _, _, _, _, _, _, _, _, _, _, _, xL_BadText⟩, sa_BadText, ex_BadText, ty_BadText, kp_BadText⟩, no_BadText := no_BadText, fi_BadText := f_iBadText, fd_BadText := _, Fi_BadText := fun_mk (st := si_BadText) li_BadText ci_BadText ki_BadText, iC_BadText := iC_BadText, ti_BadText := ti_BadText, bi_BadText := ((fun_mk (st := si_BadText) li_BadText ci_BadText ki_BadText).binds fun _ _ _ _ _ _ us hl => match us, hl with | [_, _], _ => rfl),
    oc_BadDeed := ⟨⟨_, _, _, _, _, _, _, _, _, _, _, _, _, _, xL_BadDeed⟩, sa_BadDeed, ex_BadDeed, ty_BadDeed, kp_BadDeed⟩, no_BadDeed := no_BadDeed, fi_BadDeed := f_iBadDeed, fd_BadDeed := _, Fi_BadDeed := fun_mk (st := si_BadDeed) li_BadDeed ci_BadDeed ki_BadDeed, iC_BadDeed := iC_BadDeed, ti_BadDeed := ti_BadDeed, bi_BadDeed := ((fun_mk (st := si_BadDeed) li_BadDeed ci_BadDeed ki_BadDeed).binds fun _ _ _ _ _ _ us hl => match us, hl with | [_, _], _ => rfl),
    oc_Full := ⟨⟨_, _, _, _, _, _, _, _, _, _, _, _, _, _, xL_Full⟩, sa_Full, ex_Full, ty_Full, kp_Full⟩, no_Full := no_Full, fi_Full := f_iFull, fd_Full := _, Fi_Full := fun_mk (st := si_Full) li_Full ci_Full ki_Full, iC_Full := iC_Full, ti_Full := ti_Full, bi_Full := ((fun_mk (st := si_Full) li_Full ci_Full ki_Full).binds fun _ _ _ _ _ _ us hl => match us, hl with | [_, _], _ => rfl),
    oc_TooMany := ⟨⟨_, _, _, _, _, _, _, _, _, _, _, _, _, _, xL_TooMany⟩, sa_TooMany, ex_TooMany, ty_TooMany, kp_TooMany⟩, no_TooMany := no_TooMany, fi_TooMany := f_iTooMany, fd_TooMany := _, Fi_TooMany := fun_mk (st := si_TooMany) li_TooMany ci_TooMany ki_TooMany, iC_TooMany := iC_TooMany, ti_TooMany := ti_TooMany, bi_TooMany := ((fun_mk (st := si_TooMany) li_TooMany ci_TooMany ki_TooMany).binds fun _ _ _ _ _ _ us hl => match us, hl with | [_, _], _ => rfl),
    oc_Barred := ⟨⟨_, _, _, _, _, _, _, _, _, _, _, _, _, _, xL_Barred⟩, sa_Barred, ex_Barred, ty_Barred, kp_Barred⟩, no_Barred := no_Barred, fi_Barred := f_iBarred, fd_Barred := _, Fi_Barred := fun_mk (st := si_Barred) li_Barred ci_Barred ki_Barred, iC_Barred := iC_Barred, ti_Barred := ti_Barred, bi_Barred := ((fun_mk (st := si_Barred) li_Barred ci_Barred ki_Barred).binds fun _ _ _ _ _ _ us hl => match us, hl with | [_, _], _ => rfl),
    bk_NoNumber := (kwI_of (fun_mk (st := si_NoNumber) li_NoNumber ci_NoNumber ki_NoNumber) fun _ _ _ _ _ _ _ _ => rfl),
    bk_NoPlace := (kwI_of (fun_mk (st := si_NoPlace) li_NoPlace ci_NoPlace ki_NoPlace) fun _ _ _ _ _ _ _ _ => rfl),
    bk_NoPerson := (kwI_of (fun_mk (st := si_NoPerson) li_NoPerson ci_NoPerson ki_NoPerson) fun _ _ _ _ _ _ _ _ => rfl),
    bk_NotWay := (kwI_of (fun_mk (st := si_NotWay) li_NotWay ci_NotWay ki_NotWay) fun _ _ _ _ _ _ _ _ => rfl),
    bk_OtherPeople := (kwI_of (fun_mk (st := si_OtherPeople) li_OtherPeople ci_OtherPeople ki_OtherPeople) fun _ _ _ _ _ _ _ _ => rfl),
    bk_NoDeed := (kwI_of (fun_mk (st := si_NoDeed) li_NoDeed ci_NoDeed ki_NoDeed) fun _ _ _ _ _ _ _ _ => rfl),
    bk_BadLine := (kwI_of (fun_mk (st := si_BadLine) li_BadLine ci_BadLine ki_BadLine) fun _ _ _ _ _ _ _ _ => rfl),
    bk_BadText := (kwI_of (fun_mk (st := si_BadText) li_BadText ci_BadText ki_BadText) fun _ _ _ _ _ _ _ _ => rfl),
    bk_BadDeed := (kwI_of (fun_mk (st := si_BadDeed) li_BadDeed ci_BadDeed ki_BadDeed) fun _ _ _ _ _ _ _ _ => rfl),
    bk_Full := (kwI_of (fun_mk (st := si_Full) li_Full ci_Full ki_Full) fun _ _ _ _ _ _ _ _ => rfl),
    bk_TooMany := (kwI_of (fun_mk (st := si_TooMany) li_TooMany ci_TooMany ki_TooMany) fun _ _ _ _ _ _ _ _ => rfl),
    bk_Barred := (kwI_of (fun_mk (st := si_Barred) li_Barred ci_Barred ki_Barred) fun _ _ _ _ _ _ _ _ => rfl),
    vB_ValueError := vB_ValueError,
    vB_LookupError := vB_LookupError,
    vB_OverflowError := vB_OverflowError,
    vB_RuntimeError := vB_RuntimeError,
    z_ValueError := z_ValueError,
    z_LookupError := z_LookupError,
    z_OverflowError := z_OverflowError,
    z_RuntimeError := z_RuntimeError,
    z_KeyError := z_KeyError,
    z_IndexError := z_IndexError,
    z_NotImplementedError := z_NotImplementedError,
    et := et }
  obtain ⟨oc, od, kV, doc, pm, an, cdv, ct, osl, ed, lk, hcd⟩ := F_law.ex
  refine ⟨d_law, fun s v => ?_, fun base _ _ => ok_law T⟩
  subst ed
  exact .of_eq rfl
end W
open PySem PySem.W PyProof.Rows
set_option maxHeartbeats 0 in
theorem PySem.Challenge.cw_middlecall_k91_errors_made_holds : PySem.Challenge.rw_middlecall_k91_errors_made.Holds := by
  w_on; o_law; k_head; (case hw => w_witness2)
  k_fill
  refine L2.walk_of (l := PySem.Challenge.rw_middlecall_k91_errors_made) (n := 63) (k := 8) (x := "_law_script") (CX := fun _ => L2.CX0) (sp := fun w => DL.spP _ 1 W.F_law) rfl (by decide) rfl ⟨rfl, by decide, by decide⟩ (fun w h Y => PySem.W.kIn_of Y) ?F (fun _ H a ns hl _ hS => ⟨rfl, H, _, _, L2.Same.refl H, DL.RpA.cons (DL.Rp.scr hS (DL.RpA.ints ns)) DL.RpA.nil, W.law_true ns hl, fun v H1 Z1 _ _ r => by cases r; rfl⟩) (fun _ _ _ _ _ h => h)
  case F =>
    intro w mg fa h KX G hmg
    refine' W.all_mk KX G hmg (W.ff_mk ?a0 ?l0 ?c0 ?k0) (W.ff_mk ?a1 ?l1 ?c1 ?k1) (W.ff_mk ?a2 ?l2 ?c2 ?k2) (W.ff_mk ?a3 ?l3 ?c3 ?k3) (W.ff_mk ?a4 ?l4 ?c4 ?k4) (W.ff_mk ?a5 ?l5 ?c5 ?k5) ?z0 ?z1 ?z2 ?z3 ?z4 ?z5 ?z6 ?z7 ?z8 ?z9 ?z10 ?z11 ?z12 ?z13 ?z14 ?z15 ?z16 ?z17 ?z18  ?aC_NoNumber ?aC_NoPlace ?aC_NoPerson ?aC_NotWay ?aC_OtherPeople ?aC_NoDeed ?aC_BadLine ?aC_BadText ?aC_BadDeed ?aC_Full ?aC_TooMany ?aC_Barred ?xL_NotWay ?sa_NotWay ?ex_NotWay ?ty_NotWay ?kp_NotWay ?no_NotWay ?iC_NotWay ?ti_NotWay ?li_NotWay ?ci_NotWay ?ki_NotWay ?xL_OtherPeople ?sa_OtherPeople ?ex_OtherPeople ?ty_OtherPeople ?kp_OtherPeople ?no_OtherPeople ?iC_OtherPeople ?ti_OtherPeople ?li_OtherPeople ?ci_OtherPeople ?ki_OtherPeople ?xL_NoDeed ?sa_NoDeed ?ex_NoDeed ?ty_NoDeed ?kp_NoDeed ?no_NoDeed ?iC_NoDeed ?ti_NoDeed ?li_NoDeed ?ci_NoDeed ?ki_NoDeed ?xL_NoNumber ?sa_NoNumber ?ex_NoNumber ?ty_NoNumber ?kp_NoNumber ?no_NoNumber ?iC_NoNumber ?ti_NoNumber ?li_NoNumber ?ci_NoNumber ?ki_NoNumber ?xL_NoPlace ?sa_NoPlace ?ex_NoPlace ?ty_NoPlace ?kp_NoPlace ?no_NoPlace ?iC_NoPlace ?ti_NoPlace ?li_NoPlace ?ci_NoPlace ?ki_NoPlace ?xL_NoPerson ?sa_NoPerson ?ex_NoPerson ?ty_NoPerson ?kp_NoPerson ?no_NoPerson ?iC_NoPerson ?ti_NoPerson ?li_NoPerson ?ci_NoPerson ?ki_NoPerson ?xL_BadLine ?sa_BadLine ?ex_BadLine ?ty_BadLine ?kp_BadLine ?no_BadLine ?iC_BadLine ?ti_BadLine ?li_BadLine ?ci_BadLine ?ki_BadLine ?xL_BadText ?sa_BadText ?ex_BadText ?ty_BadText ?kp_BadText ?no_BadText ?iC_BadText ?ti_BadText ?li_BadText ?ci_BadText ?ki_BadText ?xL_BadDeed ?sa_BadDeed ?ex_BadDeed ?ty_BadDeed ?kp_BadDeed ?no_BadDeed ?iC_BadDeed ?ti_BadDeed ?li_BadDeed ?ci_BadDeed ?ki_BadDeed ?xL_Full ?sa_Full ?ex_Full ?ty_Full ?kp_Full ?no_Full ?iC_Full ?ti_Full ?li_Full ?ci_Full ?ki_Full ?xL_TooMany ?sa_TooMany ?ex_TooMany ?ty_TooMany ?kp_TooMany ?no_TooMany ?iC_TooMany ?ti_TooMany ?li_TooMany ?ci_TooMany ?ki_TooMany ?xL_Barred ?sa_Barred ?ex_Barred ?ty_Barred ?kp_Barred ?no_Barred ?iC_Barred ?ti_Barred ?li_Barred ?ci_Barred ?ki_Barred ?vB_ValueError ?vB_LookupError ?vB_OverflowError ?vB_RuntimeError ?et
    (case a0 => k_is); (case l0 => k_is); (case c0 => k_is); (case k0 => k_is); (case a1 => k_is); (case l1 => k_is); (case c1 => k_is); (case k1 => k_is); (case a2 => k_is); (case l2 => k_is); (case c2 => k_is); (case k2 => k_is); (case a3 => k_is); (case l3 => k_is); (case c3 => k_is); (case k3 => k_is); (case a4 => k_is); (case l4 => k_is); (case c4 => k_is); (case k4 => k_is); (case a5 => k_is); (case l5 => k_is); (case c5 => k_is); (case k5 => k_is)
    (case z0 => k_is); (case z1 => k_is); (case z2 => k_is); (case z3 => k_is); (case z4 => k_is); (case z5 => k_is); (case z6 => k_is); (case z7 => k_is); (case z8 => k_is); (case z9 => k_is); (case z10 => k_is); (case z11 => k_is); (case z12 => k_is); (case z13 => k_is); (case z14 => k_is); (case z15 => k_is); (case z16 => k_is); (case z17 => k_is); (case z18 => k_is)
    (case aC_NoNumber => first | k_is | rfl)
    (case aC_NoPlace => first | k_is | rfl)
    (case aC_NoPerson => first | k_is | rfl)
    (case aC_NotWay => first | k_is | rfl)
    (case aC_OtherPeople => first | k_is | rfl)
    (case aC_NoDeed => first | k_is | rfl)
    (case aC_BadLine => first | k_is | rfl)
    (case aC_BadText => first | k_is | rfl)
    (case aC_BadDeed => first | k_is | rfl)
    (case aC_Full => first | k_is | rfl)
    (case aC_TooMany => first | k_is | rfl)
    (case aC_Barred => first | k_is | rfl)
    (case xL_NotWay => first | k_is | rfl)
    (case sa_NotWay => first | k_is | rfl)
    (case ex_NotWay => first | k_is | rfl)
    (case ty_NotWay => first | k_is | rfl)
    (case kp_NotWay => first | k_is | rfl)
    (case no_NotWay => first | k_is | rfl)
    (case iC_NotWay => first | k_is | rfl)
    (case ti_NotWay => first | k_is | rfl)
    (case li_NotWay => first | k_is | rfl)
    (case ci_NotWay => first | k_is | rfl)
    (case ki_NotWay => first | k_is | rfl)
    (case xL_OtherPeople => first | k_is | rfl)
    (case sa_OtherPeople => first | k_is | rfl)
    (case ex_OtherPeople => first | k_is | rfl)
    (case ty_OtherPeople => first | k_is | rfl)
    (case kp_OtherPeople => first | k_is | rfl)
    (case no_OtherPeople => first | k_is | rfl)
    (case iC_OtherPeople => first | k_is | rfl)
    (case ti_OtherPeople => first | k_is | rfl)
    (case li_OtherPeople => first | k_is | rfl)
    (case ci_OtherPeople => first | k_is | rfl)
    (case ki_OtherPeople => first | k_is | rfl)
    (case xL_NoDeed => first | k_is | rfl)
    (case sa_NoDeed => first | k_is | rfl)
    (case ex_NoDeed => first | k_is | rfl)
    (case ty_NoDeed => first | k_is | rfl)
    (case kp_NoDeed => first | k_is | rfl)
    (case no_NoDeed => first | k_is | rfl)
    (case iC_NoDeed => first | k_is | rfl)
    (case ti_NoDeed => first | k_is | rfl)
    (case li_NoDeed => first | k_is | rfl)
    (case ci_NoDeed => first | k_is | rfl)
    (case ki_NoDeed => first | k_is | rfl)
    (case xL_NoNumber => first | k_is | rfl)
    (case sa_NoNumber => first | k_is | rfl)
    (case ex_NoNumber => first | k_is | rfl)
    (case ty_NoNumber => first | k_is | rfl)
    (case kp_NoNumber => first | k_is | rfl)
    (case no_NoNumber => first | k_is | rfl)
    (case iC_NoNumber => first | k_is | rfl)
    (case ti_NoNumber => first | k_is | rfl)
    (case li_NoNumber => first | k_is | rfl)
    (case ci_NoNumber => first | k_is | rfl)
    (case ki_NoNumber => first | k_is | rfl)
    (case xL_NoPlace => first | k_is | rfl)
    (case sa_NoPlace => first | k_is | rfl)
    (case ex_NoPlace => first | k_is | rfl)
    (case ty_NoPlace => first | k_is | rfl)
    (case kp_NoPlace => first | k_is | rfl)
    (case no_NoPlace => first | k_is | rfl)
    (case iC_NoPlace => first | k_is | rfl)
    (case ti_NoPlace => first | k_is | rfl)
    (case li_NoPlace => first | k_is | rfl)
    (case ci_NoPlace => first | k_is | rfl)
    (case ki_NoPlace => first | k_is | rfl)
    (case xL_NoPerson => first | k_is | rfl)
    (case sa_NoPerson => first | k_is | rfl)
    (case ex_NoPerson => first | k_is | rfl)
    (case ty_NoPerson => first | k_is | rfl)
    (case kp_NoPerson => first | k_is | rfl)
    (case no_NoPerson => first | k_is | rfl)
    (case iC_NoPerson => first | k_is | rfl)
    (case ti_NoPerson => first | k_is | rfl)
    (case li_NoPerson => first | k_is | rfl)
    (case ci_NoPerson => first | k_is | rfl)
    (case ki_NoPerson => first | k_is | rfl)
    (case xL_BadLine => first | k_is | rfl)
    (case sa_BadLine => first | k_is | rfl)
    (case ex_BadLine => first | k_is | rfl)
    (case ty_BadLine => first | k_is | rfl)
    (case kp_BadLine => first | k_is | rfl)
    (case no_BadLine => first | k_is | rfl)
    (case iC_BadLine => first | k_is | rfl)
    (case ti_BadLine => first | k_is | rfl)
    (case li_BadLine => first | k_is | rfl)
    (case ci_BadLine => first | k_is | rfl)
    (case ki_BadLine => first | k_is | rfl)
    (case xL_BadText => first | k_is | rfl)
    (case sa_BadText => first | k_is | rfl)
    (case ex_BadText => first | k_is | rfl)
    (case ty_BadText => first | k_is | rfl)
    (case kp_BadText => first | k_is | rfl)
    (case no_BadText => first | k_is | rfl)
    (case iC_BadText => first | k_is | rfl)
    (case ti_BadText => first | k_is | rfl)
    (case li_BadText => first | k_is | rfl)
    (case ci_BadText => first | k_is | rfl)
    (case ki_BadText => first | k_is | rfl)
    (case xL_BadDeed => first | k_is | rfl)
    (case sa_BadDeed => first | k_is | rfl)
    (case ex_BadDeed => first | k_is | rfl)
    (case ty_BadDeed => first | k_is | rfl)
    (case kp_BadDeed => first | k_is | rfl)
    (case no_BadDeed => first | k_is | rfl)
    (case iC_BadDeed => first | k_is | rfl)
    (case ti_BadDeed => first | k_is | rfl)
    (case li_BadDeed => first | k_is | rfl)
    (case ci_BadDeed => first | k_is | rfl)
    (case ki_BadDeed => first | k_is | rfl)
    (case xL_Full => first | k_is | rfl)
    (case sa_Full => first | k_is | rfl)
    (case ex_Full => first | k_is | rfl)
    (case ty_Full => first | k_is | rfl)
    (case kp_Full => first | k_is | rfl)
    (case no_Full => first | k_is | rfl)
    (case iC_Full => first | k_is | rfl)
    (case ti_Full => first | k_is | rfl)
    (case li_Full => first | k_is | rfl)
    (case ci_Full => first | k_is | rfl)
    (case ki_Full => first | k_is | rfl)
    (case xL_TooMany => first | k_is | rfl)
    (case sa_TooMany => first | k_is | rfl)
    (case ex_TooMany => first | k_is | rfl)
    (case ty_TooMany => first | k_is | rfl)
    (case kp_TooMany => first | k_is | rfl)
    (case no_TooMany => first | k_is | rfl)
    (case iC_TooMany => first | k_is | rfl)
    (case ti_TooMany => first | k_is | rfl)
    (case li_TooMany => first | k_is | rfl)
    (case ci_TooMany => first | k_is | rfl)
    (case ki_TooMany => first | k_is | rfl)
    (case xL_Barred => first | k_is | rfl)
    (case sa_Barred => first | k_is | rfl)
    (case ex_Barred => first | k_is | rfl)
    (case ty_Barred => first | k_is | rfl)
    (case kp_Barred => first | k_is | rfl)
    (case no_Barred => first | k_is | rfl)
    (case iC_Barred => first | k_is | rfl)
    (case ti_Barred => first | k_is | rfl)
    (case li_Barred => first | k_is | rfl)
    (case ci_Barred => first | k_is | rfl)
    (case ki_Barred => first | k_is | rfl)
    (case vB_ValueError => first | k_is | rfl)
    (case vB_LookupError => first | k_is | rfl)
    (case vB_OverflowError => first | k_is | rfl)
    (case vB_RuntimeError => first | k_is | rfl)
    (case et => first | kernel_rfl | rfl | k_is)

